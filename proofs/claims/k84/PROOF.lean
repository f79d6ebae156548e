import PyProof.Rows.All
import Wide.All
import OpenK.AllK
import Wide.FinOn
import PySem.Challenge.RW_rooklands_k84_whole_partings
import HandS.ForSpec
import HandS.ForMost
import HandS.HotCalls
import HandS.ExcIs
import HandS.IsInst
import HandS.TupAny
import HandS.Style
import HandS.Wide
import HandS.Deep
import HandS.Conv
import HandS.Zip
import HandS.More
import HandS.SetFor
import HandS.Strs
import HandS.TupSets
import KE.KTupSum
import KE.DataCmp
import KE.SortData
import KE.DataMinMax
import KE.DataAny
import KE.DataFind
import KE.DataEq
import KE.DataIsa
import KE.KeyNested
import HandS.TupMul
import HandS.ExcValue
import HandS.ExcOwn
import KE.KRevSl
import PyProof.SeqIndex
import KE.GoesMore
import KE.KDictList
import HandS.Sort
import HandS.Dict
import PyProof.ListIndex
import HandS.Small
import HandS.WordsExc
set_option Elab.async false
set_option linter.all false
set_option maxRecDepth 100000
set_option maxHeartbeats 0
/-! Mi: a small language, position free, and its evaluator over PyData. -/
namespace Mi
open PySem

/-- binary operators, comparisons, built-in calls, methods -/
inductive BOp where
  | add | sub | mul | fdiv | mod | pow | shl | shr | band | bor
  deriving DecidableEq
inductive COp where
  | eq | ne | lt | le | gt | ge | inn | nin
  deriving DecidableEq
inductive Ty where
  | int | bool | tuple | list | str | dict
  deriving DecidableEq
inductive Bi where
  | len | all | any | sum | min1 | max1 | min2 | max2 | sorted | tuple | list | listRng | tupRng | int | str | dict | lenSet | sortedSet | repr | isi (ts : List Ty) | isx (c : Nat) | isve
  deriving DecidableEq
inductive Mt where
  | count | index | get | pop0 | pop1 | values | join | split | upper
  deriving DecidableEq
inductive Mm where
  | append | extend | remove | clear
  deriving DecidableEq
/-- what is walked -/
inductive IK where
  | plain | rng1 | rng2 | rng3 | zip | enum | enumN
  deriving DecidableEq
/-- a target: a name's place, or several -/
inductive Tg where
  | nm (i : Nat) | tp (is : List Nat)
  deriving DecidableEq

/-- expressions; nil and cons make argument lists (and nil stands for a part that is left out) -/
inductive E where
  | var (i : Nat) | cst (d : PyData) | gc (x : Str) (d : PyData)
  | nil | cons (a r : E)
  | tup (es : E) | lst (es : E) | dct (k v : E)
  | bin (o : BOp) (a b : E) | neg (a : E)
  | cmp (o : COp) (a b : E) | chain (o p : COp) (a b c : E)
  | isN (a : E) | isNN (a : E) | isB (k : Bool) (a : E) | isNB (k : Bool) (a : E)
  | and_ (es : E) | or_ (es : E) | not_ (a : E) | ite (c a b : E)
  | ix (a i : E) | slc (a lo hi : E) | rev (a : E)
  | new (a : E)
  | call (f : Nat) (es : E) | pick (fs : List Nat) (i es : E)
  | bi (b : Bi) (es : E) | mt (m : Mt) (o es : E)
  | lc (elt : E) (tg : Tg) (k : IK) (ie : E) (cond : E)
  | lvals (a : E) | lcd (elt : E) (t i : Nat)
  | give (i : Nat)

inductive S where
  | skip | seq (a r : S)
  | set (i : Nat) (e : E) | alc (i : Nat) (e : E) | untup (is : List Nat) (e : E) | par (is : List Nat) (es : E)
  | sto (o i e : E) | aug (o i e : E) | sts (o1 i1 o2 i2 e : E)
  | ex (e : E) | mut (m : Mm) (o a : E)
  | ifs (c : E) (a b : S) | for_ (tg : Tg) (k : IK) (ie : E) (b : S) | whl (c : E) (b : S)
  | fdk (i t : Nat) (b : S)
  | tdk (i : Nat) (j : Int) | tdc (i k : Nat) | fdt (i t : Nat) (b : S)
  | forw (i : Nat) (es : E) (b : S)
  | gift (i : Nat) (r : S)
  | ret (e : E) | raise (c : Nat) | tri (b : S) (c : Nat) (i : Nat) (h : S)

/-- what a name holds: data, a place of the heap of changing things, a caught error's class, the script -/
inductive W where
  | d (x : PyData) | r (n : Nat) | e (c : Nat) | s (ns : List Int)
/-- what an expression gives: a held value, or a new list, dict, or a new tuple with places in it -/
inductive R where
  | v (w : W) | fl (xs : List PyData) | fd (kvs : List (Int × PyData)) | ft (ws : List W)
/-- lck: a dict that is walked; gone: a list that is held as data from now on -/
inductive Cell where
  | lst (xs : List PyData) | dct (kvs : List (Int × PyData)) | lck (kvs : List (Int × PyData)) | gone
abbrev Hs := List Cell
abbrev Env := List (Option W)
inductive Res (α : Type) where
  | ok (a : α) (h : Hs) | ex (c : Nat) (h : Hs) | bad
abbrev M (α : Type) := Hs → Res α
@[inline] def Res.bind {α β : Type} (x : Res α) (f : α → Hs → Res β) : Res β := match x with
  | .ok a h => f a h
  | .ex c h => .ex c h
  | .bad => .bad
@[simp] theorem Res.bind_ok {α β : Type} (a : α) (h : Hs) (f : α → Hs → Res β) : (Res.ok a h).bind f = f a h := by cases h <;> rfl
@[simp] theorem Res.bind_ex {α β : Type} (c : Nat) (h : Hs) (f : α → Hs → Res β) : (Res.ex (α := α) c h).bind f = .ex c h := rfl
@[simp] theorem Res.bind_bad {α β : Type} (f : α → Hs → Res β) : (Res.bad (α := α)).bind f = .bad := rfl
def Res.of {α : Type} (x : Option α) (h : Hs) : Res α := match x with
  | some a => .ok a h
  | none => .bad
@[simp] theorem Res.of_some {α : Type} (a : α) (h : Hs) : Res.of (some a) h = .ok a h := rfl
@[simp] theorem Res.of_none {α : Type} (h : Hs) : Res.of (none : Option α) h = .bad := rfl

/-! ### data -/
abbrev line : Nat := 16777216
/-- how the library measures depth -/
abbrev small (x : PyData) : Bool := decide (x.depth ≤ 64)
/-- a result as it is held from now on -/
def R.w : R → Option W
  | .v w => some w
  | .fl xs => some (.d (.list xs))
  | .fd [] => some (.d (.dict []))
  | _ => none
def R.data : R → Option PyData
  | .v (.d x) => some x
  | .fl xs => some (.list xs)
  | .fd [] => some (.dict [])
  | _ => none
/-- a value as data that is read at once -/
def look (h : Hs) : R → Option PyData
  | .v (.d x) => some x
  | .v (.r n) => match h[n]? with
    | some (.lst xs) => some (.list xs)
    | _ => none
  | .fl xs => some (.list xs)
  | .fd [] => some (.dict [])
  | _ => none
def W.look (h : Hs) (w : W) : Option PyData := Mi.look h (.v w)

/-- items of what can be walked -/
def items : PyData → Option (List PyData)
  | .list xs => some xs
  | .tuple xs => some xs
  | _ => none
def asInt : PyData → Option Int
  | .int i => some i
  | _ => none
def asBool : PyData → Option Bool
  | .bool b => some b
  | _ => none
def asStr : PyData → Option Str
  | .str s => some s
  | _ => none
def boolsD : List PyData → Option (List Bool)
  | [] => some []
  | .bool b :: r => (boolsD r).map (b :: ·)
  | _ :: _ => none
def intsD : List PyData → Option (List Int)
  | [] => some []
  | .int i :: r => (intsD r).map (i :: ·)
  | _ :: _ => none
def strsD : List PyData → Option (List Str)
  | [] => some []
  | .str i :: r => (strsD r).map (i :: ·)
  | _ :: _ => none
/-- equality and order are asked of data that the library's rules take -/
def eqOk (x y : PyData) : Bool := x.plain && y.plain && (small x || small y)
def eqD (x y : PyData) : Option Bool := if eqOk x y then some (PyData.eqv x y) else none
def nn : PyData → Bool
  | .none => false
  | _ => true
theorem nn_ne {x : PyData} (h : nn x = true) : x ≠ .none := fun z => by
  subst z
  cases h
def ltOk (x y : PyData) : Bool := PySem.W.alike x y && (small x || small y) && nn x
def ltD (x y : PyData) : Option Bool := if ltOk x y then some (PySem.W.dataLt x y) else none
def inOk (x : PyData) (ys : List PyData) : Bool := x.plain && PyData.plainAll ys && small x

def mulOk (i j : Int) : Bool := (decide (-18446744073709551616 < i) && decide (i < 18446744073709551616)) || (decide (-18446744073709551616 < j) && decide (j < 18446744073709551616)) || decide (i.natAbs.log2 + j.natAbs.log2 < 1000000)
def divOk (j : Int) : Bool := decide (0 < j) && decide (j < 1606938044258990275541962092341162602522202993782792835301376)
def powOk (i j : Int) : Bool := decide (0 ≤ j) && decide (j ≤ 1000000) && decide (i.natAbs < 18446744073709551616)

def binI : BOp → Int → Int → Option Int
  | .add, i, j => some (i + j)
  | .sub, i, j => some (i - j)
  | .mul, i, j => if mulOk i j then some (i * j) else none
  | .fdiv, i, j => if divOk j then some (i / j) else none
  | .mod, i, j => if decide (0 < j) then some (i % j) else none
  | .pow, i, j => if powOk i j then some (i ^ j.toNat) else none
  | .shl, i, j => if powOk i j then some (i * 2 ^ j.toNat) else none
  | .shr, i, j => if decide (0 ≤ j) then some (i / 2 ^ j.toNat) else none
  | .band, i, j => some (Builtin.bitAnd i j)
  | .bor, i, j => some (Builtin.bitOr i j)
def binD : BOp → PyData → PyData → Option R
  | o, .int i, .int j => (binI o i j).map fun k => .v (.d (.int k))
  | .add, .list xs, .list ys => if xs.length + ys.length ≤ line then some (.fl (xs ++ ys)) else none
  | .add, .tuple xs, .tuple ys => if xs.length + ys.length ≤ line then some (.v (.d (.tuple (xs ++ ys)))) else none
  | .add, .str x, .str y => if x.length + y.length ≤ line then some (.v (.d (.str (x ++ y)))) else none
  | .mul, .list xs, .int k => if decide (-9223372036854775808 ≤ k) && decide (k < 9223372036854775808) && decide (xs.length * k.toNat ≤ line) then some (.fl (List.replicate k.toNat xs).flatten) else none
  | _, _, _ => none

def cmpD : COp → PyData → PyData → Option Bool
  | .eq, .int i, .int j => some (decide (i = j))
  | .ne, .int i, .int j => some (!decide (i = j))
  | .lt, .int i, .int j => some (decide (i < j))
  | .le, .int i, .int j => some (decide (i ≤ j))
  | .gt, .int i, .int j => some (decide (j < i))
  | .ge, .int i, .int j => some (decide (j ≤ i))
  | .eq, x, y => eqD x y
  | .ne, x, y => (eqD x y).map (!·)
  | .lt, x, y => ltD x y
  | .le, x, y => (ltD y x).map (!·)
  | .gt, x, y => ltD y x
  | .ge, x, y => (ltD x y).map (!·)
  | .inn, .str x, .str y => some (!(Builtin.Str.occurrences y x 0 y.length 1).isEmpty)
  | .nin, .str x, .str y => some (!(!(Builtin.Str.occurrences y x 0 y.length 1).isEmpty))
  | .inn, x, .list ys => if inOk x ys then some (ys.any fun y => PyData.eqv y x) else none
  | .inn, x, .tuple ys => if inOk x ys then some (ys.any fun y => PyData.eqv y x) else none
  | .nin, x, .list ys => if inOk x ys then some (!ys.any fun y => PyData.eqv y x) else none
  | .nin, x, .tuple ys => if inOk x ys then some (!ys.any fun y => PyData.eqv y x) else none
  | _, _, _ => none

/-- an index or a bound -/
def ixD {α : Type} (xs : List α) (i : Int) : Option α := L2.atI xs i
def sIx (n d : Nat) (o : Option Int) : Nat := HT.sIx n d o
def cut {α : Type} (xs : List α) (lo hi : Option Int) : List α := (xs.drop (sIx xs.length 0 lo)).take (sIx xs.length xs.length hi - sIx xs.length 0 lo)

/-! ### helpers of the evaluator -/
mutual
/-- the same data, to the letter -/
def same : PyData → PyData → Bool
  | .none, .none => true
  | .bool a, .bool b => a == b
  | .int a, .int b => a == b
  | .str a, .str b => a == b
  | .list a, .list b => sameL a b
  | .tuple a, .tuple b => sameL a b
  | .dict [], .dict [] => true
  | _, _ => false
def sameL : List PyData → List PyData → Bool
  | [], [] => true
  | x :: xs, y :: ys => same x y && sameL xs ys
  | _, _ => false
end
def allD : List R → Option (List PyData)
  | [] => some []
  | r :: rs => match r.data, allD rs with
    | some x, some xs => some (x :: xs)
    | _, _ => none
def allW : List R → Option (List W)
  | [] => some []
  | r :: rs => match r.w, allW rs with
    | some x, some xs => some (x :: xs)
    | _, _ => none
def tupR (rs : List R) : Option R := if rs.length ≤ line then (match allD rs with
  | some ds => some (.v (.d (.tuple ds)))
  | none => (allW rs).map .ft) else none
def lstR (rs : List R) : Option R := if rs.length ≤ line then (allD rs).map .fl else none
def rBool (b : Bool) : R := .v (.d (.bool b))
def rInt (i : Int) : R := .v (.d (.int i))
def rStr (s : Str) : R := .v (.d (.str s))
def asB : R → Option Bool
  | .v (.d (.bool b)) => some b
  | _ => none
def look2 {α : Type} (h : Hs) (a b : R) (f : PyData → PyData → Option α) : Option α := match look h a, look h b with
  | some x, some y => f x y
  | _, _ => none
/-- a dict's pairs -/
def lookD (h : Hs) : R → Option (List (Int × PyData))
  | .v (.r n) => match h[n]? with
    | some (.dct kvs) => some kvs
    | some (.lck kvs) => some kvs
    | _ => none
  | .fd kvs => some kvs
  | _ => none
def dget (kvs : List (Int × PyData)) (k : Int) : Option PyData := (kvs.find? fun p => decide (p.1 = k)).map (·.2)
def dput (kvs : List (Int × PyData)) (k : Int) (v : PyData) : List (Int × PyData) :=
  if kvs.any fun p => decide (p.1 = k) then kvs.map fun p => if p.1 = k then (p.1, v) else p else kvs ++ [(k, v)]
def cmpO (o : COp) (a b : R) (h : Hs) : Option Bool := match lookD h b with
  | some kvs => (match o, a with
    | .inn, .v (.d (.int k)) => some (dget kvs k).isSome
    | .nin, .v (.d (.int k)) => some (!(dget kvs k).isSome)
    | _, _ => none)
  | none => look2 h a b (cmpD o)
def isNone : R → Bool
  | .v (.d .none) => true
  | _ => false
def signs (s : Str) : List PyData := s.cps.toList.map fun c => .str ⟨#[c]⟩
def ixO (a i : R) (h : Hs) : Option R := match i with
  | .v (.d (.int k)) => (match a with
    | .v (.s ns) => (ixD ns k).map rInt
    | _ => match lookD h a with
      | some kvs => (dget kvs k).map fun x => .v (.d x)
      | none => match look h a with
        | some (.list xs) => (ixD xs k).map fun x => .v (.d x)
        | some (.tuple xs) => (ixD xs k).map fun x => .v (.d x)
        | some (.str s) => if s.length ≤ line then (ixD s.cps.toList k).map fun c => rStr ⟨#[c]⟩ else none
        | _ => none)
  | _ => none
/-- a bound: nothing, or a number -/
def bnd : List R → Option (Option Int)
  | [] => some none
  | [.v (.d (.int k))] => some (some k)
  | _ => none
def slO (a : R) (lo hi : Option Int) (h : Hs) : Option R := match look h a with
  | some (.list xs) => some (.fl (cut xs lo hi))
  | some (.tuple xs) => some (.v (.d (.tuple (cut xs lo hi))))
  | some (.str s) => if s.length ≤ line then some (rStr ⟨(cut s.cps.toList lo hi).toArray⟩) else none
  | _ => none
def revO (a : R) (h : Hs) : Option R := match look h a with
  | some (.list xs) => some (.fl xs.reverse)
  | some (.tuple xs) => some (.v (.d (.tuple xs.reverse)))
  | _ => none
def isTy : Ty → PyData → Bool
  | .int, .int _ => true
  | .int, .bool _ => true
  | .bool, .bool _ => true
  | .tuple, .tuple _ => true
  | .list, .list _ => true
  | .str, .str _ => true
  | .dict, .dict _ => true
  | _, _ => false
/-- isinstance needs a look alone at what it is, whether it may be changed or not -/
def kind (h : Hs) : R → Option PyData
  | .v (.r n) => match h[n]? with
    | some (.lst _) => some (.list [])
    | some (.dct _) => some (.dict [])
    | some (.lck _) => none
    | some .gone => none
    | none => none
  | .v (.d x) => some x
  | .fl _ => some (.list [])
  | .fd _ => some (.dict [])
  | _ => none
/-- all data of a list can be ordered -/
def ordOk : List PyData → Bool
  | [] => true
  | x :: xs => (x :: xs).all (fun a => (x :: xs).all fun b => PySem.W.alike a b) && (x :: xs).all (fun a => small a && nn a)
/-- .. and sorted by the library's rule: tuples have an item at least, or there are none -/
def notTup : PyData → Bool
  | .tuple _ => false
  | _ => true
def hasItem : PyData → Bool
  | .tuple (_ :: _) => true
  | _ => false
/-- the empty tuple ahead -/
def emptyFirst : List PyData → Bool
  | .tuple [] :: _ => true
  | _ => false
def sortOk (xs : List PyData) : Bool := ordOk xs && (xs.all hasItem || xs.all notTup || (emptyFirst xs && xs.all fun x => !notTup x))
def leD (x y : PyData) : Bool := !PySem.W.dataLt y x
/-- put in ahead of the first one that is no less -/
def insD (a : PyData) : List PyData → List PyData
  | [] => [a]
  | b :: l => if leD a b then a :: b :: l else b :: insD a l
def sortD : List PyData → List PyData
  | [] => []
  | a :: l => insD a (sortD l)
/-- distinct numbers, the last ones -/
def nubI : List Int → List Int
  | [] => []
  | x :: xs => if xs.contains x then nubI xs else x :: nubI xs
def nub : List PyData → List PyData
  | [] => []
  | x :: xs => if xs.any (same x) then nub xs else x :: nub xs

def upto (lo : Int) : Nat → List PyData
  | 0 => []
  | n + 1 => .int lo :: upto (lo + 1) n
def downto (lo : Int) : Nat → List PyData
  | 0 => []
  | n + 1 => .int lo :: downto (lo - 1) n
abbrev far (i : Int) : Bool := decide (-8388608 ≤ i) && decide (i ≤ 8388608)
def lenO (r : R) (h : Hs) : Option R := (match r with
    | .v (.s ns) => some (rInt ns.length)
    | _ => match lookD h r with
      | some kvs => if kvs.length ≤ line then some (rInt kvs.length) else none
      | none => match look h r with
        | some (.list xs) => some (rInt xs.length)
        | some (.tuple xs) => some (rInt xs.length)
        | some (.str s) => if s.length ≤ line then some (rInt s.length) else none
        | _ => none)
def allO (r : R) (h : Hs) : Option R := (match look h r with
    | some (.list xs) => (boolsD xs).map fun bs => rBool (bs.all id)
    | _ => none)
def anyO (r : R) (h : Hs) : Option R := (match look h r with
    | some (.list xs) => (boolsD xs).map fun bs => rBool (bs.any id)
    | _ => none)
def sumO (r : R) (h : Hs) : Option R := (match look h r with
    | some (.list xs) => (intsD xs).map fun is => rInt is.sum
    | some (.tuple xs) => (intsD xs).map fun is => rInt is.sum
    | _ => none)
def min1O (r : R) (h : Hs) : Option R := (match look h r with
    | some (.list (x :: xs)) => if ordOk (x :: xs) then some (.v (.d (PySem.W.minD x xs))) else none
    | some (.tuple (x :: xs)) => if ordOk (x :: xs) then some (.v (.d (PySem.W.minD x xs))) else none
    | _ => none)
def max1O (r : R) (h : Hs) : Option R := (match look h r with
    | some (.list (x :: xs)) => if ordOk (x :: xs) then some (.v (.d (PySem.W.maxD x xs))) else none
    | some (.tuple (x :: xs)) => if ordOk (x :: xs) then some (.v (.d (PySem.W.maxD x xs))) else none
    | _ => none)
def sortedO (r : R) (h : Hs) : Option R := (match (look h r).bind items with
    | some xs => if sortOk xs then some (.fl (sortD xs)) else none
    | _ => none)
/-- put in where its code stands, once -/
def insU {α : Type} (c : α → Int) (a : α) : List α → List α
  | [] => [a]
  | b :: l => if c a < c b then a :: b :: l else if c a = c b then b :: l else b :: insU c a l
def upU {α : Type} (c : α → Int) : List α → List α
  | [] => []
  | a :: l => insU c a (upU c l)
/-- a tuple of numbers below B, as one number -/
def codeI (B : Int) : List Int → Int
  | [] => 0
  | d :: r => d * B ^ r.length + codeI B r
def tupsD : List PyData → Option (List (List Int))
  | [] => some []
  | .tuple ys :: r => (match intsD ys, tupsD r with
    | some is, some ts => some (is :: ts)
    | _, _ => none)
  | _ :: _ => none
def tupsOk (ts : List (List Int)) : Bool := decide (ts.length < 64) && decide (1 ≤ (ts.headD []).length) && ts.all fun t => decide (t.length = (ts.headD []).length) && t.all fun m => decide (0 ≤ m) && decide (m < 64)
def tupsOkL (ts : List (List Int)) : Bool := decide ((upU (codeI 64) ts).length < 63) && decide (1 ≤ (ts.headD []).length) && ts.all fun t => decide (t.length = (ts.headD []).length) && t.all fun m => decide (0 ≤ m) && decide (m < 64)
mutual
/-- data as keys of a set: whole numbers, or truth values, and tuples of these -/
def keyD (b : Bool) : PyData → Option NestedKey
  | .int i => if b then none else some (.num i)
  | .bool c => if b then some (.num (if c = true then 1 else 0)) else none
  | .tuple xs => (keysD b xs).map .tup
  | _ => none
def keysD (b : Bool) : List PyData → Option (List NestedKey)
  | [] => some []
  | x :: xs => match keyD b x, keysD b xs with
    | some k, some ks => some (k :: ks)
    | _, _ => none
end
def keysOk (b : Bool) (xs : List PyData) : Bool := match keysD b xs with
  | some ks => ks.all fun k => decide (k.depth ≤ 8)
  | none => false
def triOk (xs : List PyData) : Bool := xs.all fun x => xs.all fun y => same x y || PySem.W.dataLt x y || PySem.W.dataLt y x
def nestOk (xs : List PyData) : Bool := (xs.all fun x => !notTup x) && (keysOk false xs || keysOk true xs) && decide ((nub xs).length ≤ 306) && ordOk xs && (xs.all hasItem || decide ((nub xs).length ≤ 1)) && triOk xs
/-- sorted(set(..)) of nested tuples -/
def nestO (xs : List PyData) : Option R := if nestOk xs then some (.fl (sortD (nub xs))) else none
def sortedSetO (r : R) (h : Hs) : Option R := (match look h r with
    | some (.list xs) => (match intsD xs with
      | some is => if is.length < 64 then some (.fl ((upU id is).map .int)) else none
      | none => match tupsD xs with
        | some ts => if tupsOk ts then some (.fl ((upU (codeI 64) ts).map fun t => .tuple (t.map .int))) else if tupsOkL ts then some (.fl ((upU (codeI 64) ts).map fun t => .tuple (t.map .int))) else nestO xs
        | none => nestO xs)
    | some (.tuple xs) => (match tupsD xs with
      | some ts => if tupsOk ts then some (.fl ((upU (codeI 64) ts).map fun t => .tuple (t.map .int))) else none
      | none => none)
    | _ => none)
def lenSetO (r : R) (h : Hs) : Option R := (match look h r with
    | some (.list xs) => (match intsD xs with
      | some is => if is.length ≤ 1000 then some (rInt (nubI is).length) else none
      | none => none)
    | _ => none)
def tupleO (r : R) (h : Hs) : Option R := (match look h r with
    | some (.list xs) => some (.v (.d (.tuple xs)))
    | some (.tuple xs) => some (.v (.d (.tuple xs)))
    | _ => none)
def listO (r : R) (h : Hs) : Option R := (match lookD h r with
    | some kvs => some (.fl (kvs.map fun p => .int p.1))
    | none => match look h r with
      | some (.list xs) => some (.fl xs)
      | some (.tuple xs) => some (.fl xs)
      | _ => none)
def tupRngO (r : R) (h : Hs) : Option R := match r with
  | .v (.d (.int n)) => if far n then some (.v (.d (.tuple (upto 0 n.toNat)))) else none
  | _ => none
def listRngO (r : R) (h : Hs) : Option R := match r with
  | .v (.d (.int n)) => if far n then some (.fl (upto 0 n.toNat)) else none
  | _ => none
def intO (r : R) (h : Hs) : Option R := (match r with
    | .v (.d (.int i)) => some (rInt i)
    | .v (.d (.bool b)) => some (rInt (if b then 1 else 0))
    | .v (.d (.str s)) => (match PySem.intText? s with
      | some n => if s.length ≤ 640 then some (rInt n) else none
      | none => none)
    | _ => none)
def strO (r : R) (h : Hs) : Option R := (match r with
    | .v (.d (.int i)) => if i.natAbs.log2 < 1920 then some (rStr (toString i)) else none
    | _ => none)
/-- a list of pairs -/
def pairsD : List PyData → Option (List (Int × PyData))
  | [] => some []
  | .tuple [.int k, x] :: r => (pairsD r).map ((k, x) :: ·)
  | _ :: _ => none
def putsD (kvs : List (Int × PyData)) : List (Int × PyData) := kvs.foldl (fun acc p => dput acc p.1 p.2) []
def dictO (r : R) (h : Hs) : Option R := match lookD h r with
  | some kvs => some (.fd kvs)
  | none => match look h r with
    | some (.list xs) => (pairsD xs).map fun kvs => .fd (putsD kvs)
    | _ => none
def isiO (ts : List Ty) (r : R) (h : Hs) : Option R := (kind h r).map fun x => rBool (ts.any fun t => isTy t x)
def isxO (c : Nat) (r : R) (h : Hs) : Option R := match r with
  | .v (.e c') => some (rBool (decide (c = c')))
  | _ => none
def isveO (r : R) (h : Hs) : Option R := match r with
  | .v (.e _) => some (rBool true)
  | _ => none
/-- built-ins of one argument, of two -/
def oneO : Bi → R → Hs → Option R
  | .len => lenO
  | .all => allO
  | .any => anyO
  | .sum => sumO
  | .min1 => min1O
  | .max1 => max1O
  | .sorted => sortedO
  | .sortedSet => sortedSetO
  | .lenSet => lenSetO
  | .tuple => tupleO
  | .list => listO
  | .tupRng => tupRngO
  | .listRng => listRngO
  | .int => intO
  | .str => strO
  | .dict => dictO
  | .isi ts => isiO ts
  | .isx c => isxO c
  | .isve => isveO
  | _ => fun _ _ => none
def two : Bi → Int → Int → Option R
  | .min2, i, j => some (rInt (if j < i then j else i))
  | .max2, i, j => some (rInt (if j > i then j else i))
  | _, _, _ => none
def twoO (b : Bi) (r q : R) : Option R := match r, q with
  | .v (.d (.int i)), .v (.d (.int j)) => two b i j
  | _, _ => none
def biO (b : Bi) (rs : List R) (h : Hs) : Option R := match rs with
  | [r] => oneO b r h
  | [r, q] => twoO b r q
  | _ => none

/-- the first place of an equal item -/
def placeOf (d : PyData) : List PyData → Nat → Option Nat
  | [], _ => none
  | x :: xs, n => if PyData.eqv x d then some n else placeOf d xs (n + 1)
def setCell (h : Hs) (n : Nat) (c : Cell) : Hs := h.set n c
def mtO (m : Mt) (o : R) (as : List R) (h : Hs) : Option R := match m, as with
  | .count, [a] => (match look h o, look h a with
    | some (.list xs), some d => if inOk d xs then some (rInt (xs.countP fun y => PyData.eqv y d : Nat)) else none
    | some (.tuple xs), some d => if inOk d xs then some (rInt (xs.countP fun y => PyData.eqv y d : Nat)) else none
    | _, _ => none)
  | .index, [a] => (match look h o, look h a with
    | some (.list xs), some d => if inOk d xs then (placeOf d xs 0).map fun n => rInt n else none
    | some (.tuple xs), some d => if inOk d xs then (placeOf d xs 0).map fun n => rInt n else none
    | _, _ => none)
  | .get, [.v (.d (.int k)), .v (.d dv)] => (lookD h o).map fun kvs => .v (.d ((dget kvs k).getD dv))
  | .join, [a] => (match o, look h a with
    | .v (.d (.str s)), some (.list xs) => (match strsD xs with
      | some ys => if (ys.map (·.length)).sum + ys.length * s.length ≤ line then some (rStr (Txt.join s ys)) else none
      | none => none)
    | _, _ => none)
  | .split, [.v (.d (.str b))] => (match o with
    | .v (.d (.str a)) => if (b.length == 0) = false ∧ a.length + 2 ≤ line then some (.fl ((Txt.split a b).map .str)) else none
    | _ => none)
  | _, _ => none
/-- pop: the item, the place, what is left -/
def popO (m : Mt) (o : R) (as : List R) (h : Hs) : Option (PyData × Nat × List PyData) := match o with
  | .v (.r n) => (match h[n]? with
    | some (.lst xs) => (match m, as with
      | .pop0, [] => (xs[xs.length - 1]?).map fun x => (x, n, xs.dropLast)
      | .pop1, [.v (.d (.int i))] => if line < xs.length then none else (match L2.ixN xs.length i with
        | some k => (xs[k]?).map fun x => (x, n, xs.eraseIdx k)
        | none => none)
      | _, _ => none)
    | _ => none)
  | _ => none
/-- is there such a method of such a thing -/
def mtAt (m : Mt) (o : R) (h : Hs) : Bool := match m with
  | .count | .index => (match look h o with
    | some (.list _) => true
    | some (.tuple _) => true
    | _ => false)
  | .pop0 | .pop1 => (match look h o with
    | some (.list _) => true
    | _ => false)
  | .get => (lookD h o).isSome
  | .values => (lookD h o).isSome
  | .join | .split | .upper => (match o with
    | .v (.d (.str _)) => true
    | _ => false)
def mtR (m : Mt) (o : R) (as : List R) (h : Hs) : Res R := match popO m o as h with
  | some (x, n, xs) => .ok (.v (.d x)) (setCell h n (.lst xs))
  | none => Res.of (mtO m o as h) h
def appR (xs : List PyData) (n : Nat) (a : R) (h : Hs) : Res Unit := match a.data with
  | some x => if xs.length < line then .ok () (setCell h n (.lst (xs ++ [x]))) else .bad
  | none => .bad
def extR (xs : List PyData) (n : Nat) (a : R) (h : Hs) : Res Unit := match (look h a).bind items with
  | some ys => if xs.length + ys.length ≤ line then .ok () (setCell h n (.lst (xs ++ ys))) else .bad
  | none => .bad
def remR (xs : List PyData) (n : Nat) (a : R) (h : Hs) : Res Unit := match a with
  | .v (.d d) => if inOk d xs then (match placeOf d xs 0 with
    | some k => .ok () (setCell h n (.lst (xs.eraseIdx k)))
    | none => .bad) else .bad
  | _ => .bad
def lstR1 (o : R) (h : Hs) : Option (Nat × List PyData) := match o with
  | .v (.r n) => (match h[n]? with
    | some (.lst xs) => some (n, xs)
    | _ => none)
  | _ => none
def mutR (m : Mm) (o a : R) (h : Hs) : Res Unit := match lstR1 o h with
  | some (n, xs) => (match m with
    | .append => appR xs n a h
    | .extend => extR xs n a h
    | .remove => remR xs n a h
    | .clear => .ok () (setCell h n (.lst [])))
  | none => .bad
def stoR (o i v : R) (h : Hs) : Res Unit := match o, i, v.data with
  | .v (.r n), .v (.d (.int k)), some x => (match h[n]? with
    | some (.lst xs) => (match L2.ixN xs.length k with
      | some j => .ok () (setCell h n (.lst (xs.set j x)))
      | none => .bad)
    | some (.dct kvs) => if kvs.length < line then .ok () (setCell h n (.dct (dput kvs k x))) else .bad
    | _ => .bad)
  | _, _, _ => .bad

def zipD : List PyData → List PyData → List PyData
  | x :: xs, y :: ys => .tuple [x, y] :: zipD xs ys
  | _, _ => []
def enumD : List PyData → Int → List PyData
  | [], _ => []
  | x :: xs, n => .tuple [.int n, x] :: enumD xs (n + 1)
/-- what is walked, item by item, and whether it stands -/
abbrev Wk := Option (List PyData × (Hs → Bool))
def yes : Hs → Bool := fun _ => true
def stands (n : Nat) (xs : List PyData) : Hs → Bool := fun h' => match h'[n]? with
  | some (.lst ys) => sameL xs ys
  | _ => false
def cellOf : R → Option Nat
  | .v (.r n) => some n
  | _ => none
def plainW (r : R) (h : Hs) : Wk := match cellOf r with
  | some n => (match h[n]? with
    | some (.lst xs) => some (xs, stands n xs)
    | _ => none)
  | none => (match look h r with
    | some (.list xs) => some (xs, yes)
    | some (.tuple xs) => some (xs, yes)
    | some (.str s) => if s.length ≤ line then some (signs s, yes) else none
    | _ => none)
def enumW (r : R) (h : Hs) : Wk := match cellOf r with
  | some n => (match h[n]? with
    | some (.lst xs) => some (enumD xs 0, stands n xs)
    | _ => none)
  | none => (match look h r with
    | some (.list xs) => some (enumD xs 0, yes)
    | some (.tuple xs) => some (enumD xs 0, yes)
    | _ => none)
def rng1W (r : R) : Wk := match r with
  | .v (.d (.int n)) => if far n then some (upto 0 n.toNat, yes) else none
  | _ => none
def rng2W (r q : R) : Wk := match r, q with
  | .v (.d (.int a)), .v (.d (.int b)) => if far a && far b then some (upto a (b - a).toNat, yes) else none
  | _, _ => none
def rng3W (r q t : R) : Wk := match r, q, t with
  | .v (.d (.int a)), .v (.d (.int b)), .v (.d (.int c)) => if far a && far b && decide (c = -1) then some (downto a (a - b).toNat, yes) else none
  | _, _, _ => none
def lstSrc (r : R) (h : Hs) : Wk := match cellOf r with
  | some n => (match h[n]? with
    | some (.lst xs) => some (xs, stands n xs)
    | _ => none)
  | none => (match look h r with
    | some (.list xs) => some (xs, yes)
    | _ => none)
def zipW (r q : R) (h : Hs) : Wk := match lstSrc r h, lstSrc q h with
  | some p, some u => some (zipD p.1 u.1, fun h => p.2 h && u.2 h)
  | _, _ => (match look h r, look h q with
    | some (.tuple xs), some (.tuple ys) => some (zipD xs ys, yes)
    | _, _ => none)
def walk (k : IK) (rs : List R) (h : Hs) : Wk := match k, rs with
  | .plain, [r] => plainW r h
  | .rng1, [r] => rng1W r
  | .rng2, [r, q] => rng2W r q
  | .rng3, [r, q, t] => rng3W r q t
  | .enum, [r] => enumW r h
  | .enumN, [r] => (match look h r with
    | some (.tuple xs) => some (enumD xs 0, yes)
    | _ => none)
  | .zip, [r, q] => zipW r q h
  | _, _ => none
/-- a target's names take their values -/
def putAll : List Nat → List PyData → Env → Option Env
  | [], [], env => some env
  | i :: is, x :: xs, env => putAll is xs (env.set i (some (.d x)))
  | _, _, _ => none
def aim (t : Tg) (x : PyData) (env : Env) : Option Env := match t with
  | .nm i => some (env.set i (some (.d x)))
  | .tp is => match x with
    | .tuple xs => putAll is xs env
    | _ => none

abbrev Cf := Nat → List W → Hs → Res R
/-- a comprehension's list -/
def lcS (body : PyData → Hs → Res (Option PyData)) (st : Hs → Bool) : List PyData → Hs → Res (List PyData)
  | [], h => if st h then .ok [] h else .bad
  | x :: xs, h => if st h then (match body x h with
    | .ok o h' => (match lcS body st xs h' with
      | .ok r h'' => .ok (o.toList ++ r) h''
      | _ => .bad)
    | _ => .bad) else .bad
/-- a dict's place -/
def dctAt (i : Nat) (env : Env) (h : Hs) : Option (Nat × List (Int × PyData)) := match env[i]? with
  | some (some (.r n)) => (match h[n]? with
    | some (.dct kvs) => some (n, kvs)
    | _ => none)
  | _ => none
/-- a list's place -/
def lstAtI (i : Nat) (env : Env) (h : Hs) : Option (Nat × List PyData) := match env[i]? with
  | some (some (.r n)) => (match h[n]? with
    | some (.lst xs) => some (n, xs)
    | _ => none)
  | _ => none
mutual
def evalE (C : Cf) : E → Env → Hs → Res R
  | .var i, env, h => match env[i]? with
    | some (some w) => .ok (.v w) h
    | _ => .bad
  | .cst d, _, h => .ok (.v (.d d)) h
  | .gc _ d, _, h => .ok (.v (.d d)) h
  | .tup es, env, h => (evalL C es env h).bind fun rs h => Res.of (tupR rs) h
  | .lst es, env, h => (evalL C es env h).bind fun rs h => Res.of (lstR rs) h
  | .dct k v, env, h => (evalL C k env h).bind fun ks h => (evalL C v env h).bind fun vs h => match ks, vs with
    | [], [] => .ok (.fd []) h
    | [.v (.d (.int k))], [.v (.d x)] => .ok (.fd [(k, x)]) h
    | _, _ => .bad
  | .bin o a b, env, h => (evalE C a env h).bind fun x h => (evalE C b env h).bind fun y h => Res.of (look2 h x y (binD o)) h
  | .neg a, env, h => (evalE C a env h).bind fun x h => match x with
    | .v (.d (.int i)) => .ok (rInt (-i)) h
    | _ => .bad
  | .cmp o a b, env, h => (evalE C a env h).bind fun x h => (evalE C b env h).bind fun y h => Res.of ((cmpO o x y h).map rBool) h
  | .chain o p a b c, env, h => (evalE C a env h).bind fun x h => (evalE C b env h).bind fun y h => match cmpO o x y h with
    | some true => (evalE C c env h).bind fun z h => Res.of ((cmpO p y z h).map rBool) h
    | some false => .ok (rBool false) h
    | none => .bad
  | .isN a, env, h => (evalE C a env h).bind fun x h => .ok (rBool (isNone x)) h
  | .isNN a, env, h => (evalE C a env h).bind fun x h => .ok (rBool (!isNone x)) h
  | .isB k a, env, h => (evalE C a env h).bind fun x h => match asB x with
    | some b => .ok (rBool (decide (b = k))) h
    | none => .bad
  | .isNB k a, env, h => (evalE C a env h).bind fun x h => match asB x with
    | some b => .ok (rBool (!decide (b = k))) h
    | none => .bad
  | .and_ es, env, h => evalA C es env h
  | .or_ es, env, h => evalO C es env h
  | .not_ a, env, h => (evalE C a env h).bind fun x h => match asB x with
    | some b => .ok (rBool (!b)) h
    | none => .bad
  | .ite c a b, env, h => (evalE C c env h).bind fun x h => match asB x with
    | some true => evalE C a env h
    | some false => evalE C b env h
    | none => .bad
  | .ix a i, env, h => (evalE C a env h).bind fun x h => (evalE C i env h).bind fun y h => Res.of (ixO x y h) h
  | .slc a lo hi, env, h => (evalE C a env h).bind fun x h => ((evalL C lo env h).bind fun r h => Res.of (bnd r) h).bind fun l h => ((evalL C hi env h).bind fun r h => Res.of (bnd r) h).bind fun u h => Res.of (slO x l u h) h
  | .rev a, env, h => (evalE C a env h).bind fun x h => Res.of (revO x h) h
  | .new a, env, h => (evalE C a env h).bind fun x h => match x with
    | .fl xs => .ok (.v (.r h.length)) (h ++ [.lst xs])
    | .fd kvs => .ok (.v (.r h.length)) (h ++ [.dct kvs])
    | _ => .bad
  | .call f es, env, h => (evalL C es env h).bind fun rs h => match allW rs with
    | some ws => C f ws h
    | none => .bad
  | .pick fs i es, env, h => (evalE C i env h).bind fun x h => match x with
    | .v (.d (.int k)) => (match ixD fs k with
      | some f => (evalL C es env h).bind fun rs h => (match allW rs with
        | some ws => C f ws h
        | none => .bad)
      | none => .bad)
    | _ => .bad
  | .bi b es, env, h => (evalL C es env h).bind fun rs h => Res.of (biO b rs h) h
  | .mt m o es, env, h => (evalE C o env h).bind fun x h => if mtAt m x h then (evalL C es env h).bind fun rs h => mtR m x rs h else .bad
  | .lc elt tg k ie cond, env, h => ((evalL C ie env h).bind fun rs h => Res.of (walk k rs h) h).bind fun p h => (lcS (fun x h => match aim tg x env with
      | some env' => (evalC C cond env' h).bind fun b h => if b then (evalE C elt env' h).bind fun y h => Res.of (y.data.map some) h else .ok none h
      | none => .bad) p.2 p.1 h).bind fun ys h => .ok (.fl ys) h
  | .lvals a, env, h => (evalE C a env h).bind fun x h => match lookD h x with
    | some kvs => .ok (.fl (kvs.map (·.2))) h
    | none => .bad
  | .lcd elt t i, env, h => match dctAt i env h with
    | some (n, kvs) => if kvs.length ≤ line then (lcS (fun x h => (evalE C elt (env.set t (some (.d x))) h).bind fun y h => Res.of (y.data.map some) h) yes (kvs.map fun p => .int p.1) (h.set n (.lck kvs))).bind fun ys h => .ok (.fl ys) (h.set n (.dct kvs)) else .bad
    | none => .bad
  | .give i, env, h => match lstAtI i env h with
    | some (n, xs) => .ok (.v (.d (.list xs))) (h.set n .gone)
    | none => .bad
  | .nil, _, _ => .bad
  | .cons _ _, _, _ => .bad
/-- a list of arguments -/
def evalL (C : Cf) : E → Env → Hs → Res (List R)
  | .nil, _, h => .ok [] h
  | .cons a r, env, h => (evalE C a env h).bind fun x h => (evalL C r env h).bind fun xs h => .ok (x :: xs) h
  | _, _, _ => .bad
/-- and, or: all but the last are truth values -/
def evalA (C : Cf) : E → Env → Hs → Res R
  | .cons a .nil, env, h => evalE C a env h
  | .cons a r, env, h => (evalE C a env h).bind fun x h => match asB x with
    | some true => evalA C r env h
    | some false => .ok (rBool false) h
    | none => .bad
  | _, _, _ => .bad
def evalO (C : Cf) : E → Env → Hs → Res R
  | .cons a .nil, env, h => evalE C a env h
  | .cons a r, env, h => (evalE C a env h).bind fun x h => match asB x with
    | some false => evalO C r env h
    | some true => .ok (rBool true) h
    | none => .bad
  | _, _, _ => .bad
/-- a comprehension's test: nil where there is none -/
def evalC (C : Cf) : E → Env → Hs → Res Bool
  | .cons a .nil, env, h => (evalE C a env h).bind fun x h => Res.of (asB x) h
  | .nil, _, h => .ok true h
  | _, _, _ => .bad
end
def evalT (C : Cf) (e : E) (env : Env) (h : Hs) : Res Bool := (evalE C e env h).bind fun x h => Res.of (asB x) h

/-! ### statements -/
inductive SRes where
  | nx (env : Env) (h : Hs) | rt (r : R) (h : Hs) | ex (c : Nat) (env : Env) (h : Hs) | bad
def Res.then {α : Type} (x : Res α) (env : Env) (f : α → Hs → SRes) : SRes := match x with
  | .ok a h => f a h
  | .ex c h => .ex c env h
  | .bad => .bad
@[simp] theorem Res.then_ok {α : Type} (a : α) (h : Hs) (env : Env) (f : α → Hs → SRes) : (Res.ok a h).then env f = f a h := by cases h <;> rfl
@[simp] theorem Res.then_ex {α : Type} (c : Nat) (h : Hs) (env : Env) (f : α → Hs → SRes) : (Res.ex (α := α) c h).then env f = .ex c env h := rfl
@[simp] theorem Res.then_bad {α : Type} (env : Env) (f : α → Hs → SRes) : (Res.bad (α := α)).then env f = .bad := rfl
def SRes.next (x : SRes) (f : Env → Hs → SRes) : SRes := match x with
  | .nx env h => f env h
  | y => y
@[simp] theorem SRes.next_nx (env : Env) (h : Hs) (f : Env → Hs → SRes) : (SRes.nx env h).next f = f env h := by cases h <;> rfl
@[simp] theorem SRes.next_rt (r : R) (h : Hs) (f : Env → Hs → SRes) : (SRes.rt r h).next f = .rt r h := rfl
@[simp] theorem SRes.next_ex (c : Nat) (env : Env) (h : Hs) (f : Env → Hs → SRes) : (SRes.ex c env h).next f = .ex c env h := rfl
@[simp] theorem SRes.next_bad (f : Env → Hs → SRes) : SRes.bad.next f = .bad := rfl
def forS (body : PyData → Env → Hs → SRes) (st : Hs → Bool) : List PyData → Env → Hs → SRes
  | [], env, h => if st h then .nx env h else .bad
  | x :: xs, env, h => if st h then (body x env h).next fun env h => forS body st xs env h else .bad
/-- for x in [a, b]: the held values one by one -/
def forW (body : W → Env → Hs → SRes) : List W → Env → Hs → SRes
  | [], env, h => .nx env h
  | w :: ws, env, h => (body w env h).next fun env h => forW body ws env h
def whlS (c : Env → Hs → Res Bool) (body : Env → Hs → SRes) : Nat → Env → Hs → SRes
  | 0, _, _ => .bad
  | n + 1, env, h => (c env h).then env fun b h => if b then (body env h).next fun env h => whlS c body n env h else .nx env h
abbrev laps : Nat := 1000000
/-- several names take values at once -/
def putW : List Nat → List W → Env → Option Env
  | [], [], env => some env
  | i :: is, w :: ws, env => putW is ws (env.set i (some w))
  | _, _, _ => none
def alcR (i : Nat) (r : R) (env : Env) (h : Hs) : SRes := match r with
  | .v w => .nx (env.set i (some w)) h
  | .fl xs => .nx (env.set i (some (.r h.length))) (h ++ [.lst xs])
  | .fd kvs => .nx (env.set i (some (.r h.length))) (h ++ [.dct kvs])
  | .ft _ => .bad
/-- xs[i] += e: the number that stands there, and what is put there -/
def augG (o i : R) (h : Hs) : Option Int := match o, i with
  | .v (.r n), .v (.d (.int k)) => (match h[n]? with
    | some (.lst xs) => if 0 ≤ k ∧ k < 9223372036854775808 then (match xs[k.toNat]? with
      | some (.int x) => some x
      | _ => none) else none
    | _ => none)
  | _, _ => none
def augS (o i : R) (x : Int) (v : R) (h : Hs) : Res Unit := match v with
  | .v (.d (.int y)) => stoR o i (.v (.d (.int (x + y)))) h
  | _ => .bad
/-- the walked dict is free again -/
def unlk (n : Nat) (kvs : List (Int × PyData)) : SRes → SRes
  | .nx env h => .nx env (h.set n (.dct kvs))
  | .rt r h => .rt r (h.set n (.dct kvs))
  | _ => .bad
def lstAt (r : R) (h : Hs) : Bool := match r with
  | .v (.r n) => (match h[n]? with
    | some (.lst _) => true
    | _ => false)
  | _ => false
def mutA (m : Mm) (x : R) (as : List R) (h : Hs) : Res Unit := match as with
  | [y] => mutR m x y h
  | [] => if m = .clear then mutR .clear x (rInt 0) h else .bad
  | _ => .bad
def evalS (C : Cf) : S → Env → Hs → SRes
  | .skip, env, h => .nx env h
  | .seq a r, env, h => (evalS C a env h).next fun env h => evalS C r env h
  | .set i e, env, h => (evalE C e env h).then env fun x h => match x.w with
    | some w => .nx (env.set i (some w)) h
    | none => .bad
  | .alc i e, env, h => (evalE C e env h).then env fun x h => alcR i x env h
  | .untup is e, env, h => (evalE C e env h).then env fun x h => match x with
    | .v (.d (.tuple xs)) => (match putAll is xs env with
      | some env => .nx env h
      | none => .bad)
    | .ft ws => (match putW is ws env with
      | some env => .nx env h
      | none => .bad)
    | _ => .bad
  | .par is es, env, h => (evalL C es env h).then env fun rs h => match allW rs with
    | some ws => (match putW is ws env with
      | some env => .nx env h
      | none => .bad)
    | none => .bad
  | .sto o i e, env, h => (evalE C e env h).then env fun v h => (evalE C o env h).then env fun x h => (evalE C i env h).then env fun y h => (stoR x y v h).then env fun _ h => .nx env h
  | .sts o1 i1 o2 i2 e, env, h => (evalE C e env h).then env fun v h => match v with
    | .v (.d (.tuple [x, y])) => (evalE C o1 env h).then env fun a h => (evalE C i1 env h).then env fun b h => (stoR a b (.v (.d x)) h).then env fun _ h =>
      (evalE C o2 env h).then env fun a h => (evalE C i2 env h).then env fun b h => (stoR a b (.v (.d y)) h).then env fun _ h => .nx env h
    | _ => .bad
  | .aug o i e, env, h => (evalE C o env h).then env fun x h => (evalE C i env h).then env fun y h => match augG x y h with
    | some z => (evalE C e env h).then env fun v h => (augS x y z v h).then env fun _ h => .nx env h
    | none => .bad
  | .ex e, env, h => (evalE C e env h).then env fun _ h => .nx env h
  | .mut m o a, env, h => (evalE C o env h).then env fun x h => if lstAt x h then (evalL C a env h).then env fun as h => (mutA m x as h).then env fun _ h => .nx env h else .bad
  | .ifs c a b, env, h => (evalT C c env h).then env fun t h => if t then evalS C a env h else evalS C b env h
  | .for_ tg k ie b, env, h => ((evalL C ie env h).bind fun rs h => Res.of (walk k rs h) h).then env fun p h => forS (fun x env h => match aim tg x env with
      | some env => evalS C b env h
      | none => .bad) p.2 p.1 env h
  | .whl c b, env, h => whlS (fun env h => evalT C c env h) (fun env h => evalS C b env h) laps env h
  | .fdk i t b, env, h => match dctAt i env h with
    | some (n, kvs) => unlk n kvs (forS (fun x env h => evalS C b (env.set t (some (.d x))) h) yes (kvs.map fun p => .int p.1) env (h.set n (.lck kvs)))
    | none => .bad
  | .tdk _ _, _, _ => .bad
  | .tdc _ _, _, _ => .bad
  | .fdt _ _ _, _, _ => .bad
  | .forw i es b, env, h => (evalL C es env h).then env fun rs h => match allW rs with
    | some ws => if rs.length ≤ line then forW (fun w env h => evalS C b (env.set i (some w)) h) ws env h else .bad
    | none => .bad
  | .gift i r, env, h => match lstAtI i env h with
    | some (n, xs) => evalS C r (env.set i (some (.d (.list xs)))) (h.set n .gone)
    | none => .bad
  | .ret e, env, h => (evalE C e env h).then env fun x h => .rt x h
  | .raise c, env, h => .ex c env h
  | .tri b c i hs, env, h => match evalS C b env h with
    | .ex c' env h => if c' < c then (match evalS C hs (env.set i (some (.e c'))) h with
      | .rt (.v (.d (.str x))) h => .rt (.v (.d (.str x))) h
      | _ => .bad) else .bad
    | r => r

/-! ### defs -/
structure Def where
  np : Nat
  nn : Nat
  body : S
/-- what comes back: the places made within the call are let go; what is told of them is new -/
def W.out (n : Nat) (h : Hs) : W → Option PyData
  | .d x => some x
  | .r k => if k < n then none else match h[k]? with
    | some (.lst xs) => some (.list xs)
    | _ => none
  | .e _ => none
  | .s _ => none
def outs (n : Nat) (h : Hs) : List W → Option (List PyData)
  | [] => some []
  | w :: ws => match w.out n h, outs n h ws with
    | some x, some xs => some (x :: xs)
    | _, _ => none
def back (n : Nat) (r : R) (h : Hs) : Res R := match r with
  | .v (.r k) => if k < n then .ok (.v (.r k)) (h.take n) else match h[k]? with
    | some (.lst xs) => .ok (.fl xs) (h.take n)
    | some (.dct kvs) => .ok (.fd kvs) (h.take n)
    | some (.lck _) => .bad
    | some .gone => .bad
    | none => .bad
  | .ft ws => (match outs n h ws with
    | some xs => .ok (.v (.d (.tuple xs))) (h.take n)
    | none => .bad)
  | r => .ok r (h.take n)
def runS (n : Nat) : SRes → Res R
  | .nx _ h => .ok (.v (.d .none)) (h.take n)
  | .rt r h => back n r h
  | .ex c _ h => .ex c (h.take n)
  | .bad => .bad
abbrev Tb := Nat → Option Def
/-- nothing that may be changed is handed over -/
def still : List W → Bool
  | [] => true
  | .r _ :: _ => false
  | _ :: ws => still ws
def Res.put {α : Type} (h : Hs) : Res α → Res α
  | .ok a _ => .ok a h
  | .ex c _ => .ex c h
  | .bad => .bad
def entry (df : Def) (ws : List W) : Env := ws.map some ++ List.replicate (df.nn - df.np) none
def callF (T : Tb) : Nat → Cf
  | 0, _, _, _ => .bad
  | k + 1, f, ws, h => match T f with
    | some df => if ws.length = df.np then (if still ws then (runS 0 (evalS (callF T k) df.body (entry df ws) [])).put h else runS h.length (evalS (callF T k) df.body (entry df ws) h)) else .bad
    | none => .bad
end Mi

/-! Mi: what the evaluator's values are in the model's heap. -/
namespace Mi
open PySem PySem.Spec PyProof.Rows L2

section
mutual
/-- the value v reads as x where the heap says F -/
def Rp (F : Hp) : PyData → V → Prop
  | .none, v => v = .non
  | .bool b, v => v = .bl b
  | .int i, v => v = .int i
  | .str s, v => v = .str s
  | .list ds, v => ∃ a vs, v = .ref a ∧ F a = some (.lst vs) ∧ RpL F ds vs
  | .tuple ds, v => ∃ a vs, v = .ref a ∧ F a = some (.tup vs) ∧ RpL F ds vs
  | .dict kvs, v => kvs = [] ∧ ∃ a, v = .ref a ∧ F a = some (.dK [])
def RpL (F : Hp) : List PyData → List V → Prop
  | [], vs => vs = []
  | d :: ds, vs => ∃ v r, vs = v :: r ∧ Rp F d v ∧ RpL F ds r
end
end
/-- H says all that F says -/
def Sub (F H : Hp) : Prop := ∀ a o, F a = some o → H a = some o
theorem Sub.refl (F : Hp) : Sub F F := fun _ _ h => h
theorem Sub.trans {F G H : Hp} (a : Sub F G) (b : Sub G H) : Sub F H := fun x o h => b x o (a x o h)
theorem Sub.upd {F H : Hp} (s : Sub F H) {a : Addr} {o : HO} (n : F a = none) : Sub F (L2.upd H a o) := fun b u e => by
  rw [upd_ne (ne_of_none e n)]
  exact s b u e
theorem Sub.upd2 {F H : Hp} (s : Sub F H) {a : Addr} {o : HO} : Sub (L2.upd F a o) (L2.upd H a o) := fun b u e => by
  by_cases hb : b = a
  · subst hb
    rw [upd_same] at e ⊢
    exact e
  · rw [upd_ne hb] at e ⊢
    exact s b u e
theorem sub_upd {F : Hp} {a : Addr} {o : HO} (n : F a = none) : Sub F (L2.upd F a o) := (Sub.refl F).upd n
section
variable {F H : Hp}
mutual
theorem Rp.sub (s : Sub F H) : ∀ (d : PyData) (v : V), Rp F d v → Rp H d v
  | .none, _, h => h
  | .bool _, _, h => h
  | .int _, _, h => h
  | .str _, _, h => h
  | .list ds, v, h => by
    obtain ⟨a, vs, e, q, r⟩ := (by simpa only [Rp] using h : ∃ a vs, v = .ref a ∧ F a = some (.lst vs) ∧ RpL F ds vs)
    have r' := RpL.sub s ds vs r
    simp only [Rp]
    exact ⟨a, vs, e, s _ _ q, r'⟩
  | .tuple ds, v, h => by
    obtain ⟨a, vs, e, q, r⟩ := (by simpa only [Rp] using h : ∃ a vs, v = .ref a ∧ F a = some (.tup vs) ∧ RpL F ds vs)
    have r' := RpL.sub s ds vs r
    simp only [Rp]
    exact ⟨a, vs, e, s _ _ q, r'⟩
  | .dict kvs, v, h => by
    simp only [Rp] at h ⊢
    obtain ⟨e, a, e2, q⟩ := h
    exact ⟨e, a, e2, s _ _ q⟩
theorem RpL.sub (s : Sub F H) : ∀ (ds : List PyData) (vs : List V), RpL F ds vs → RpL H ds vs
  | [], _, h => h
  | d :: ds, vs, h => by
    obtain ⟨v, r, e, h1, h2⟩ := (by simpa only [RpL] using h : ∃ v r, vs = v :: r ∧ Rp F d v ∧ RpL F ds r)
    have a1 := Rp.sub s d v h1
    have a2 := RpL.sub s ds r h2
    simp only [RpL]
    exact ⟨v, r, e, a1, a2⟩
end
theorem Rp.list_iff {ds : List PyData} {v : V} : Rp F (.list ds) v ↔ ∃ a vs, v = .ref a ∧ F a = some (.lst vs) ∧ RpL F ds vs := by simp only [Rp]
theorem Rp.tuple_iff {ds : List PyData} {v : V} : Rp F (.tuple ds) v ↔ ∃ a vs, v = .ref a ∧ F a = some (.tup vs) ∧ RpL F ds vs := by simp only [Rp]
theorem RpL.cons_iff {d : PyData} {ds : List PyData} {vs : List V} : RpL F (d :: ds) vs ↔ ∃ v r, vs = v :: r ∧ Rp F d v ∧ RpL F ds r := by simp only [RpL]
theorem RpL.nil_iff {vs : List V} : RpL F [] vs ↔ vs = [] := by simp only [RpL]
theorem RpL.cons {d : PyData} {ds : List PyData} {v : V} {vs : List V} (h : Rp F d v) (t : RpL F ds vs) : RpL F (d :: ds) (v :: vs) := RpL.cons_iff.mpr ⟨v, vs, rfl, h, t⟩
theorem RpL.length : ∀ {ds : List PyData} {vs : List V}, RpL F ds vs → vs.length = ds.length
  | [], vs, h => by rw [RpL.nil_iff.mp h]; rfl
  | d :: ds, vs, h => by
    obtain ⟨v, r, rfl, _, h2⟩ := RpL.cons_iff.mp h
    simp [RpL.length h2]
theorem RpL.get : ∀ {ds : List PyData} {vs : List V} {i : Nat} {v : V}, RpL F ds vs → vs[i]? = some v → ∃ d, ds[i]? = some d ∧ Rp F d v
  | [], vs, i, v, h, e => by
    rw [RpL.nil_iff.mp h] at e
    simp at e
  | d :: ds, vs, 0, v, h, e => by
    obtain ⟨w, r, rfl, h1, h2⟩ := RpL.cons_iff.mp h
    simp at e
    subst e
    exact ⟨d, rfl, h1⟩
  | d :: ds, vs, i + 1, v, h, e => by
    obtain ⟨w, r, rfl, h1, h2⟩ := RpL.cons_iff.mp h
    simp at e
    obtain ⟨x, e1, e2⟩ := RpL.get h2 e
    exact ⟨x, by simpa using e1, e2⟩
theorem RpL.get' : ∀ {ds : List PyData} {vs : List V} {i : Nat} {d : PyData}, RpL F ds vs → ds[i]? = some d → ∃ v, vs[i]? = some v ∧ Rp F d v
  | [], vs, i, v, h, e => by simp at e
  | x :: ds, vs, 0, d, h, e => by
    obtain ⟨w, r, rfl, h1, h2⟩ := RpL.cons_iff.mp h
    simp at e
    subst e
    exact ⟨w, rfl, h1⟩
  | x :: ds, vs, i + 1, d, h, e => by
    obtain ⟨w, r, rfl, h1, h2⟩ := RpL.cons_iff.mp h
    simp at e
    obtain ⟨y, e1, e2⟩ := RpL.get' h2 e
    exact ⟨y, by simpa using e1, e2⟩
theorem RpL.append : ∀ {ds es : List PyData} {vs us : List V}, RpL F ds vs → RpL F es us → RpL F (ds ++ es) (vs ++ us)
  | [], es, vs, us, h, g => by
    rw [RpL.nil_iff.mp h]
    exact g
  | d :: ds, es, vs, us, h, g => by
    obtain ⟨w, r, rfl, h1, h2⟩ := RpL.cons_iff.mp h
    exact .cons h1 (RpL.append h2 g)
theorem RpL.take : ∀ {ds : List PyData} {vs : List V} (n : Nat), RpL F ds vs → RpL F (ds.take n) (vs.take n)
  | ds, vs, 0, h => by simp [RpL]
  | [], vs, n + 1, h => by
    rw [RpL.nil_iff.mp h]
    simp [RpL]
  | d :: ds, vs, n + 1, h => by
    obtain ⟨w, r, rfl, h1, h2⟩ := RpL.cons_iff.mp h
    exact .cons h1 (RpL.take n h2)
theorem RpL.drop : ∀ {ds : List PyData} {vs : List V} (n : Nat), RpL F ds vs → RpL F (ds.drop n) (vs.drop n)
  | ds, vs, 0, h => h
  | [], vs, n + 1, h => by
    rw [RpL.nil_iff.mp h]
    simp [RpL]
  | d :: ds, vs, n + 1, h => by
    obtain ⟨w, r, rfl, h1, h2⟩ := RpL.cons_iff.mp h
    exact RpL.drop n h2
theorem RpL.set : ∀ {ds : List PyData} {vs : List V} {d : PyData} {v : V} (n : Nat), RpL F ds vs → Rp F d v → RpL F (ds.set n d) (vs.set n v)
  | [], vs, d, v, n, h, g => by
    rw [RpL.nil_iff.mp h]
    simp [RpL]
  | e :: ds, vs, d, v, 0, h, g => by
    obtain ⟨w, r, rfl, h1, h2⟩ := RpL.cons_iff.mp h
    exact .cons g h2
  | e :: ds, vs, d, v, n + 1, h, g => by
    obtain ⟨w, r, rfl, h1, h2⟩ := RpL.cons_iff.mp h
    exact .cons h1 (RpL.set n h2 g)
theorem RpL.eraseIdx : ∀ {ds : List PyData} {vs : List V} (n : Nat), RpL F ds vs → RpL F (ds.eraseIdx n) (vs.eraseIdx n)
  | [], vs, n, h => by
    rw [RpL.nil_iff.mp h]
    simp [RpL]
  | e :: ds, vs, 0, h => by
    obtain ⟨w, r, rfl, h1, h2⟩ := RpL.cons_iff.mp h
    exact h2
  | e :: ds, vs, n + 1, h => by
    obtain ⟨w, r, rfl, h1, h2⟩ := RpL.cons_iff.mp h
    exact .cons h1 (RpL.eraseIdx n h2)
theorem RpL.dropLast {ds : List PyData} {vs : List V} (h : RpL F ds vs) : RpL F ds.dropLast vs.dropLast := by
  rw [List.dropLast_eq_take, List.dropLast_eq_take, h.length]
  exact h.take _
theorem RpL.reverse : ∀ {ds : List PyData} {vs : List V}, RpL F ds vs → RpL F ds.reverse vs.reverse
  | [], vs, h => by
    rw [RpL.nil_iff.mp h]
    simp [RpL]
  | e :: ds, vs, h => by
    obtain ⟨w, r, rfl, h1, h2⟩ := RpL.cons_iff.mp h
    rw [List.reverse_cons, List.reverse_cons]
    exact (RpL.reverse h2).append (.cons h1 (RpL.nil_iff.mpr rfl))
theorem RpL.flat {ds : List PyData} {vs : List V} (h : RpL F ds vs) : ∀ n : Nat, RpL F (List.replicate n ds).flatten (List.replicate n vs).flatten
  | 0 => by simp [RpL]
  | n + 1 => by
    rw [List.replicate_succ, List.replicate_succ, List.flatten_cons, List.flatten_cons]
    exact h.append (RpL.flat h n)
theorem Rp.int_of {i : Int} {v : V} (h : Rp F (.int i) v) : v = .int i := by simpa only [Rp] using h
theorem Rp.bool_of {i : Bool} {v : V} (h : Rp F (.bool i) v) : v = .bl i := by simpa only [Rp] using h
theorem Rp.str_of {i : Str} {v : V} (h : Rp F (.str i) v) : v = .str i := by simpa only [Rp] using h
theorem Rp.none_of {v : V} (h : Rp F .none v) : v = .non := by simpa only [Rp] using h
theorem rp_int {i : Int} : Rp F (.int i) (.int i) := by simp only [Rp]
theorem rp_bool {i : Bool} : Rp F (.bool i) (.bl i) := by simp only [Rp]
theorem rp_str {i : Str} : Rp F (.str i) (.str i) := by simp only [Rp]
theorem rp_none : Rp F .none .non := by simp only [Rp]
end

/-! ### a tuple's own object left out of sight -/
/-- what the heap says, of a tuple that it is one with no dict of its own -/
def dn (H : Hp) : Hp := fun a => match H a with
  | some (.frz o (.tup vs)) => if o.dict = none then some (.tup vs) else none
  | some (.tup _) => none
  | x => x
section
variable {H : Hp} {a b : Addr} {o : HO}
theorem dn_none (h : H a = none) : dn H a = none := by simp only [dn, h]
theorem dn_some (h : dn H a = some o) : ∃ u, H a = some u := by
  cases e : H a with
  | none => rw [dn_none e] at h; cases h
  | some u => exact ⟨u, rfl⟩
theorem dn_tup {vs : List V} (h : dn H a = some (.tup vs)) : ∃ u : Obj, H a = some (.frz u (.tup vs)) ∧ u.dict = none := by
  unfold dn at h
  split at h
  · rename_i u ws e
    split at h
    · rename_i hd
      cases h
      exact ⟨u, e, hd⟩
    · cases h
  · cases h
  · rename_i e1 e2
    exact absurd h (e2 vs)
theorem dn_of (h : dn H a = some o) (n : ∀ vs, o ≠ .tup vs) : H a = some o := by
  unfold dn at h
  split at h
  · rename_i u ws e
    split at h
    · cases h
      exact absurd rfl (n ws)
    · cases h
  · cases h
  · exact h
theorem dn_mk {u : Obj} {vs : List V} (h : H a = some (.frz u (.tup vs))) (d : u.dict = none) : dn H a = some (.tup vs) := by
  simp only [dn, h, d, if_true]
theorem dn_lst {vs : List V} (h : H a = some (.lst vs)) : dn H a = some (.lst vs) := by simp only [dn, h]
theorem dn_dK {ks : List (Key × V)} (h : H a = some (.dK ks)) : dn H a = some (.dK ks) := by simp only [dn, h]
theorem dn_eq {H' : Hp} (h : H' a = H a) : dn H' a = dn H a := by simp only [dn, h]
theorem dn_ne (h : b ≠ a) : dn (upd H a o) b = dn H b := dn_eq (upd_ne h)
theorem dn_sub_upd (n : H a = none) : Sub (dn H) (dn (upd H a o)) := fun b u e => by
  obtain ⟨w, hw⟩ := dn_some e
  rw [dn_ne (ne_of_none hw n)]
  exact e
theorem SqT.dn {K : PySem.W.Frag} {vs : List V} (h : Mi.dn H a = some (.tup vs)) : SqT K H a vs := by
  obtain ⟨u, e, _⟩ := dn_tup h
  exact .inl (.inr ⟨u, e⟩)
theorem SqL.dn {K : PySem.W.Frag} {vs : List V} (h : Mi.dn H a = some (.lst vs)) : SqL K H a vs := .of (dn_of h fun _ z => nomatch z)
end
/-! ### data of the library's rules -/
section
variable {X : Cx} {pins : List (Addr × Obj)} {σ : L2.St} {H : Hp} {s : Shared}
mutual
theorem Rp.reads (I : Inv X pins σ H s) : ∀ (d : PyData) (v : V) (u : Value), Rp (dn H) d v → RelV v u → ∃ as, Reads s.heap u d as
  | .none, v, u, h, r => by
    rw [h.none_of] at r
    cases r
    exact ⟨_, .none⟩
  | .bool b, v, u, h, r => by
    rw [h.bool_of] at r
    cases r
    exact ⟨_, .bool b⟩
  | .int i, v, u, h, r => by
    rw [h.int_of] at r
    obtain ⟨t, rfl⟩ := r
    exact ⟨_, .int i t⟩
  | .str x, v, u, h, r => by
    rw [h.str_of] at r
    obtain ⟨t, rfl⟩ := r
    exact ⟨_, .str x t⟩
  | .list ds, v, u, h, r => by
    obtain ⟨a, vs, rfl, q, l⟩ := Rp.list_iff.mp h
    cases r
    obtain ⟨its, rv, ⟨o, n, ho, hc, _, hd⟩, _⟩ := I.list (Mi.SqL.dn q)
    obtain ⟨as, hr⟩ := RpL.reads I ds vs its l rv
    exact ⟨_, .list ho hc hd hr⟩
  | .tuple ds, v, u, h, r => by
    obtain ⟨a, vs, rfl, q, l⟩ := Rp.tuple_iff.mp h
    cases r
    obtain ⟨its, rv, ⟨o, ho, hc, n, hd⟩, _⟩ := I.tuple (Mi.SqT.dn q)
    obtain ⟨as, hr⟩ := RpL.reads I ds vs its l rv
    exact ⟨_, .tuple ho hc hd hr⟩
  | .dict kvs, v, u, h, r => by
    simp only [Rp] at h
    obtain ⟨rfl, a, rfl, e⟩ := h
    cases r
    obtain ⟨_, _, vs, kv, o, es, ep, ho, hx, hd, _, he, _⟩ := I.hok a _ (dn_of e fun _ z => nomatch z)
    cases kv
    have he' : es.toList = [] := by
      generalize es.toList = l at he
      cases he
      rfl
    refine ⟨_, .dict (kvs := []) (as := []) (bs := []) ho hx.1 hd ?_ ?_⟩
    · rw [he']
      exact .nil
    · rw [he']
      exact .nil
theorem RpL.reads (I : Inv X pins σ H s) : ∀ (ds : List PyData) (vs : List V) (us : List Value), RpL (dn H) ds vs → Vals vs us → ∃ as, ReadsAll s.heap us ds as
  | [], vs, us, h, r => by
    rw [RpL.nil_iff.mp h] at r
    cases r
    exact ⟨_, .nil⟩
  | d :: ds, vs, us, h, r => by
    obtain ⟨v, w, rfl, h1, h2⟩ := RpL.cons_iff.mp h
    cases r with
    | cons r1 r2 =>
      obtain ⟨as, q1⟩ := Rp.reads I d v _ h1 r1
      obtain ⟨bs, q2⟩ := RpL.reads I ds w _ h2 r2
      exact ⟨_, .cons q1 q2⟩
end
end

/-! ### weaker readings -/
section
variable {X : Cx}
theorem pe_imp {e : Expr} {t t' : TE} (h : PE X e t) (w : ∀ σ H Q, t' σ H Q → t σ H Q) : PE X e t' := ⟨fun pins s σ H Q I q => h.run pins s σ H Q I (w σ H Q q)⟩
theorem pa_imp {e : List Expr} {t t' : TA} (h : PA X e t) (w : ∀ σ H Q, t' σ H Q → t σ H Q) : PA X e t' := ⟨fun pos pins s σ H Q I q => h.run pos pins s σ H Q I (w σ H Q q)⟩
theorem pt_imp {e : Expr} {t t' : TT} (h : PT X e t) (w : ∀ σ H Q, t' σ H Q → t σ H Q) : PT X e t' := ⟨fun pins s σ H Q I q => h.run pins s σ H Q I (w σ H Q q)⟩
theorem pw_imp {e : Expr} {t t' : TT} (h : PW X e t) (w : ∀ σ H Q, t' σ H Q → t σ H Q) : PW X e t' := ⟨fun wh pins s σ H Q I q => h.run wh pins s σ H Q I (w σ H Q q)⟩
theorem ps_imp {e : Stmt} {t t' : TS} (h : PS X e t) (w : ∀ D σ H, t' D σ H → t D σ H) : PS X e t' := ⟨fun pins s σ H D I q => h.run pins s σ H D I (w D σ H q)⟩
theorem pss_imp {e : List Stmt} {t t' : TS} (h : PSs X e t) (w : ∀ D σ H, t' D σ H → t D σ H) : PSs X e t' := ⟨fun pins s σ H D I q => h.run pins s σ H D I (w D σ H q)⟩
end

/-! ### the state -/
section
/-- what a place of the changing heap is -/
def CellR (F H : Hp) (a : Addr) : Cell → Prop
  | .lst xs => ∃ vs, H a = some (.lst vs) ∧ RpL F xs vs
  | .dct kvs => ∃ ks, H a = some (.dK ks) ∧ kvs.map (·.1) = ks.map (fun p => p.1.elim id fun _ => 0) ∧ (∀ p ∈ ks, ∃ i, p.1 = Sum.inl i) ∧ RpL F (kvs.map (·.2)) (ks.map (·.2))
  | .lck kvs => ∃ o ks, H a = some (.frz o (.dK ks)) ∧ kvs.map (·.1) = ks.map (fun p => p.1.elim id fun _ => 0) ∧ (∀ p ∈ ks, ∃ i, p.1 = Sum.inl i) ∧ RpL F (kvs.map (·.2)) (ks.map (·.2))
  | .gone => ∃ vs, H a = some (.lst vs) ∧ F a = some (.lst vs)
/-- new, or a tuple, or a place's list that is held from now on -/
def Fz (m : List Addr) (H F' : Hp) (a : Addr) : Prop := H a = none ∨ (a ∉ m ∧ ∃ vs, dn H a = some (.tup vs)) ∨ (a ∈ m ∧ ∃ vs, F' a = some (.lst vs))
theorem Fz.mono {m : List Addr} {H F F' : Hp} {a : Addr} (s : Sub F F') (h : Fz m H F a) : Fz m H F' a := by
  rcases h with h | h | ⟨h, vs, e⟩
  · exact .inl h
  · exact .inr (.inl h)
  · exact .inr (.inr ⟨h, vs, s _ _ e⟩)
/-- a dict that is read -/
def DRd (F H : Hp) (a : Addr) (kvs : List (Int × PyData)) : Prop := ∃ ks, Rd H a (.dK ks) ∧ kvs.map (·.1) = ks.map (fun p => p.1.elim id fun _ => 0) ∧ (∀ p ∈ ks, ∃ i, p.1 = Sum.inl i) ∧ RpL F (kvs.map (·.2)) (ks.map (·.2))
theorem DRd.dct {F H : Hp} {a : Addr} {kvs : List (Int × PyData)} (h : CellR F H a (.dct kvs)) : DRd F H a kvs := by
  obtain ⟨ks, h1, h2⟩ := h
  exact ⟨ks, .inl h1, h2⟩
theorem DRd.lck {F H : Hp} {a : Addr} {kvs : List (Int × PyData)} (h : CellR F H a (.lck kvs)) : DRd F H a kvs := by
  obtain ⟨o, ks, h1, h2⟩ := h
  exact ⟨ks, .inr ⟨o, h1⟩, h2⟩
/-- not locked -/
def Free (o : HO) : Prop := ∀ b u, o ≠ .frz b u
/-- m: where the places are; F: what stands for good -/
structure Cells (m : List Addr) (F : Hp) (hs : Hs) (H : Hp) : Prop where
  frz : Sub F (dn H)
  len : m.length = hs.length
  cell : ∀ (n : Nat) (c : Cell) (a : Addr), hs[n]? = some c → m[n]? = some a → CellR F H a c
  ap : ∀ (n : Nat) (c : Cell) (a : Addr), hs[n]? = some c → m[n]? = some a → c ≠ .gone → F a = none
  nd : m.Nodup
/-- from a state to a later one -/
structure Ext (m : List Addr) (F H : Hp) (m' : List Addr) (F' H' : Hp) : Prop where
  pre : ∃ t, m' = m ++ t
  frz : Sub F F'
  old : ∀ a o, H a = some o → a ∉ m → H' a = some o
  trk : ∀ a, H' a = none → H a = none
  new : ∀ a ∈ m', a ∈ m ∨ H a = none
  nfz : ∀ a, F a = none → F' a ≠ none → Fz m H F' a
  lck : ∀ a o u, H a = some (.frz o u) → H' a = some (.frz o u)
end
/-- a caught error -/
def ErrR (X : Cx) (ca : Nat → Addr) (c : Nat) (v : V) : Prop := X.calm = false ∧ ∃ a oe, v = .ref a ∧ (a, oe) ∈ X.pn ∧ Zc (.ref (ca c)) none oe ∧ ∃ vs, oe.data = .fields vs
/-- what a name holds; er: what a caught error is -/
def RelW (K : PySem.W.Frag) (er : Nat → V → Prop) (m : List Addr) (F : Hp) : W → V → Prop
  | .d x, v => Rp F x v
  | .r n, v => ∃ a, m[n]? = some a ∧ v = .ref a
  | .e c, v => er c v
  | .s ns, v => ∃ a, v = .ref a ∧ SqL K F a (ns.map V.int)
def RelWs (K : PySem.W.Frag) (er : Nat → V → Prop) (m : List Addr) (F : Hp) : List W → List V → Prop := Paired (RelW K er m F)
/-- what an expression gives; H0: the heap ahead of it -/
def RelR (K : PySem.W.Frag) (er : Nat → V → Prop) (m : List Addr) (F H0 H : Hp) : R → V → Prop
  | .v w, v => RelW K er m F w v
  | .fl xs, v => ∃ a vs, v = .ref a ∧ H a = some (.lst vs) ∧ RpL F xs vs ∧ F a = none ∧ a ∉ m ∧ H0 a = none
  | .fd kvs, v => ∃ a, v = .ref a ∧ CellR F H a (.dct kvs) ∧ F a = none ∧ a ∉ m ∧ H0 a = none
  | .ft ws, v => ∃ a vs, v = .ref a ∧ F a = some (.tup vs) ∧ RelWs K er m F ws vs
def RelRs (K : PySem.W.Frag) (er : Nat → V → Prop) (m : List Addr) (F H0 H : Hp) : List R → List V → Prop := Paired (RelR K er m F H0 H)
def EnvR (K : PySem.W.Frag) (er : Nat → V → Prop) (m : List Addr) (F : Hp) (env : Env) (σ : L2.St) : Prop :=
  env.length = σ.length ∧ ∀ (i : Nat) (w : W), env[i]? = some (some w) → ∃ v, σ[i]? = some (some v) ∧ RelW K er m F w v

section
variable {K : PySem.W.Frag} {er : Nat → V → Prop} {m m' m2 : List Addr} {F F' F2 H H' H2 H0 : Hp} {hs hs' : Hs} {env : Env} {σ : L2.St}
theorem Ext.refl : Ext m F H m F H := ⟨⟨[], by simp⟩, Sub.refl F, fun _ _ h _ => h, fun _ h => h, fun _ h => .inl h, fun _ h g => absurd h g, fun _ _ _ h => h⟩
theorem Ext.mem (x : Ext m F H m' F' H') {a : Addr} (h : a ∈ m) : a ∈ m' := by
  obtain ⟨t, rfl⟩ := x.pre
  exact List.mem_append_left _ h
theorem Ext.get (x : Ext m F H m' F' H') {n : Nat} {a : Addr} (h : m[n]? = some a) : m'[n]? = some a := by
  obtain ⟨t, rfl⟩ := x.pre
  rw [List.getElem?_append_left (List.getElem?_eq_some_iff.mp h).1]
  exact h
/-- what is new to the places is not one that was tracked -/
theorem Ext.out (x : Ext m F H m' F' H') {a : Addr} (h : a ∉ m) (t : H a ≠ none) : a ∉ m' := fun z => (x.new a z).elim h t
theorem Ext.trans (x : Ext m F H m' F' H') (y : Ext m' F' H' m2 F2 H2) : Ext m F H m2 F2 H2 where
  pre := by
    obtain ⟨t, rfl⟩ := x.pre
    obtain ⟨u, rfl⟩ := y.pre
    exact ⟨t ++ u, by rw [List.append_assoc]⟩
  frz := x.frz.trans y.frz
  old := fun a o e n => y.old a o (x.old a o e n) (x.out n (by rw [e]; simp))
  trk := fun a e => x.trk a (y.trk a e)
  new := fun a h => by
    rcases y.new a h with q | q
    · exact x.new a q
    · exact .inr (x.trk a q)
  nfz := fun a e g => by
    cases q : F' a with
    | none =>
      rcases y.nfz a q g with z | ⟨z, vs, u⟩ | ⟨z, u⟩
      · exact .inl (x.trk a z)
      · have hm : a ∉ m := fun k => z (x.mem k)
        cases e2 : H a with
        | none => exact .inl e2
        | some o =>
          have := x.old a o e2 hm
          exact .inr (.inl ⟨hm, vs, by rw [← u]; exact (dn_eq (this.trans e2.symm)).symm⟩)
      · rcases x.new a z with w | w
        · exact .inr (.inr ⟨w, u⟩)
        · exact .inl w
    | some o => exact (x.nfz a e (by rw [q]; simp)).mono y.frz
  lck := fun a o u e => y.lck a o u (x.lck a o u e)
theorem CellR.step (x : Sub F F') {a : Addr} {c : Cell} (e : H' a = H a) (h : CellR F H a c) : CellR F' H' a c := by
  cases c with
  | lst xs =>
    obtain ⟨vs, h1, h2⟩ := h
    exact ⟨vs, e.trans h1, RpL.sub x _ _ h2⟩
  | dct kvs =>
    obtain ⟨ks, h1, h2, h3, h4⟩ := h
    exact ⟨ks, e.trans h1, h2, h3, RpL.sub x _ _ h4⟩
  | lck kvs =>
    obtain ⟨o, ks, h1, h2, h3, h4⟩ := h
    exact ⟨o, ks, e.trans h1, h2, h3, RpL.sub x _ _ h4⟩
  | gone =>
    obtain ⟨vs, h1, h2⟩ := h
    exact ⟨vs, e.trans h1, x _ _ h2⟩
theorem CellR.some {a : Addr} {c : Cell} (h : CellR F H a c) : ∃ o, H a = some o := by
  cases c with
  | lst xs =>
    obtain ⟨vs, h1, h2⟩ := h
    exact ⟨_, h1⟩
  | dct kvs =>
    obtain ⟨ks, h1, _⟩ := h
    exact ⟨_, h1⟩
  | lck kvs =>
    obtain ⟨o, ks, h1, _⟩ := h
    exact ⟨_, h1⟩
  | gone =>
    obtain ⟨vs, h1, _⟩ := h
    exact ⟨_, h1⟩
theorem RelW.ext (x : Ext m F H m' F' H') {w : W} {v : V} (h : RelW K er m F w v) : RelW K er m' F' w v := by
  cases w with
  | d y => exact Rp.sub x.frz _ _ h
  | r n =>
    obtain ⟨a, h1, h2⟩ := h
    exact ⟨a, x.get h1, h2⟩
  | e c => exact h
  | s ns =>
    obtain ⟨a, h1, h2⟩ := h
    refine ⟨a, h1, ?_⟩
    rcases h2 with (h2 | ⟨o, h2⟩) | h2
    · exact .inl (.inl (x.frz _ _ h2))
    · exact .inl (.inr ⟨o, x.frz _ _ h2⟩)
    · exact .inr h2
theorem RelWs.ext (x : Ext m F H m' F' H') : ∀ {ws : List W} {vs : List V}, RelWs K er m F ws vs → RelWs K er m' F' ws vs
  | _, _, .nil => .nil
  | _, _, .cons a b => .cons (RelW.ext x a) (RelWs.ext x b)
theorem EnvR.ext (x : Ext m F H m' F' H') (h : EnvR K er m F env σ) : EnvR K er m' F' env σ :=
  ⟨h.1, fun i w e => let ⟨v, h1, h2⟩ := h.2 i w e; ⟨v, h1, RelW.ext x h2⟩⟩
theorem RelR.ext (x : Ext m F H m' F' H') {r : R} {v : V} (h : RelR K er m F H0 H r v) : RelR K er m' F' H0 H' r v := by
  cases r with
  | v w => exact RelW.ext x h
  | fl xs =>
    obtain ⟨a, vs, e, h1, h2, h3, h4, h5⟩ := h
    have t : H a ≠ none := by rw [h1]; simp
    refine ⟨a, vs, e, x.old a _ h1 h4, RpL.sub x.frz _ _ h2, ?_, x.out h4 t, h5⟩
    cases q : F' a with
    | none => rfl
    | some o =>
      rcases x.nfz a h3 (by rw [q]; simp) with z | ⟨_, vs, z⟩ | ⟨z, _⟩
      · exact absurd z t
      · rw [dn_lst h1] at z; cases z
      · exact absurd z h4
  | fd kvs =>
    obtain ⟨a, e, h1, h3, h4, h5⟩ := h
    obtain ⟨o, ho⟩ := h1.some
    have t : H a ≠ none := by rw [ho]; simp
    refine ⟨a, e, h1.step x.frz ?_, ?_, x.out h4 t, h5⟩
    · rw [ho]
      exact x.old a _ ho h4
    · cases q : F' a with
      | none => rfl
      | some o =>
        obtain ⟨ks, g, _⟩ := h1
        rcases x.nfz a h3 (by rw [q]; simp) with z | ⟨_, vs, z⟩ | ⟨z, _⟩
        · exact absurd z t
        · rw [dn_dK g] at z; cases z
        · exact absurd z h4
  | ft ws =>
    obtain ⟨a, vs, e, h1, h2⟩ := h
    exact ⟨a, vs, e, x.frz _ _ h1, RelWs.ext x h2⟩
theorem RelRs.ext (x : Ext m F H m' F' H') : ∀ {ws : List R} {vs : List V}, RelRs K er m F H0 H ws vs → RelRs K er m' F' H0 H' ws vs
  | _, _, .nil => .nil
  | _, _, .cons a b => .cons (RelR.ext x a) (RelRs.ext x b)
/-- seen from further back -/
theorem RelR.back {H1 : Hp} (x : ∀ a, H1 a = none → H0 a = none) {r : R} {v : V} (h : RelR K er m F H1 H r v) : RelR K er m F H0 H r v := by
  cases r with
  | v w => exact h
  | fl xs =>
    obtain ⟨a, vs, e, h1, h2, h3, h4, h5⟩ := h
    exact ⟨a, vs, e, h1, h2, h3, h4, x a h5⟩
  | fd kvs =>
    obtain ⟨a, e, h1, h3, h4, h5⟩ := h
    exact ⟨a, e, h1, h3, h4, x a h5⟩
  | ft ws => exact h
theorem RelRs.back {H1 : Hp} (x : ∀ a, H1 a = none → H0 a = none) : ∀ {ws : List R} {vs : List V}, RelRs K er m F H1 H ws vs → RelRs K er m F H0 H ws vs
  | _, _, .nil => .nil
  | _, _, .cons a b => .cons (RelR.back x a) (RelRs.back x b)

/-! ### small steps -/
/-- a new object that is neither held nor a place -/
theorem Cells.new (c : Cells m F hs H) {p : Addr} {o : HO} (n : H p = none) : Cells m F hs (upd H p o) ∧ Ext m F H m F (upd H p o) := by
  have fp : F p = none := by
    cases q : F p with
    | none => rfl
    | some u => have z := c.frz _ _ q; rw [dn_none n] at z; cases z
  have ne : ∀ a o, H a = some o → a ≠ p := fun a o e z => by rw [z, n] at e; cases e
  refine ⟨⟨c.frz.trans (dn_sub_upd n), c.len, fun k x a h1 h2 => ?_, c.ap, c.nd⟩, ⟨⟨[], by simp⟩, Sub.refl F, fun a o e _ => ?_, fun a e => ?_, fun a h => .inl h, fun a e g => absurd e g, fun a o u e => ?_⟩⟩
  · have h3 := c.cell k x a h1 h2
    obtain ⟨u, hu⟩ := h3.some
    exact h3.step (Sub.refl F) (upd_ne (ne a u hu))
  · rw [upd_ne (ne a o e)]
    exact e
  · by_cases h : a = p
    · rw [h]
      exact n
    · rw [upd_ne h] at e
      exact e
  · rw [upd_ne (ne a _ e)]
    exact e
/-- a new object is held from now on -/
theorem Cells.hold (c : Cells m F hs H) {a : Addr} {o : HO} (h : dn H a = some o) (f : F a = none) (n : a ∉ m) : Cells m (upd F a o) hs H where
  frz := fun b u e => by
    by_cases hb : b = a
    · rw [hb, upd_same] at e
      cases e
      rw [hb]
      exact h
    · rw [upd_ne hb] at e
      exact c.frz b u e
  len := c.len
  cell := fun k x b h1 h2 => (c.cell k x b h1 h2).step (sub_upd f) rfl
  ap := fun k x b h1 h2 h3 => by
    rw [upd_ne (fun z => n (by rw [← z]; exact List.mem_of_getElem? h2))]
    exact c.ap k x b h1 h2 h3
  nd := c.nd
theorem Cells.apl (c : Cells m F hs H) {n : Nat} {a : Addr} {xs : List PyData} (hx : hs[n]? = some (.lst xs)) (hn : m[n]? = some a) : F a = none := c.ap n _ a hx hn (fun z => nomatch z)
theorem Cells.apd (c : Cells m F hs H) {n : Nat} {a : Addr} {xs : List (Int × PyData)} (hx : hs[n]? = some (.dct xs)) (hn : m[n]? = some a) : F a = none := c.ap n _ a hx hn (fun z => nomatch z)
/-- a place's list is held from now on: the place is gone -/
theorem Cells.give (c : Cells m F hs H) {n : Nat} {a : Addr} {xs : List PyData} {vs : List V} (hn : m[n]? = some a) (hx : hs[n]? = some (.lst xs)) (h1 : H a = some (.lst vs)) (h2 : RpL F xs vs) : Cells m (upd F a (.lst vs)) (hs.set n .gone) H ∧ Ext m F H m (upd F a (.lst vs)) H ∧ Rp (upd F a (.lst vs)) (.list xs) (.ref a) := by
  have fa : F a = none := c.ap n _ a hx hn (fun z => nomatch z)
  refine ⟨⟨fun b u e => ?_, by simp [c.len], fun k y b g1 g2 => ?_, fun k y b g1 g2 g3 => ?_, c.nd⟩, ⟨⟨[], by simp⟩, sub_upd fa, fun _ _ h _ => h, fun _ h => h, fun _ h => .inl h, fun b e g => ?_, fun _ _ _ h => h⟩, ?_⟩
  · by_cases hb : b = a
    · rw [hb, upd_same] at e
      cases e
      rw [hb]
      exact dn_lst h1
    · rw [upd_ne hb] at e
      exact c.frz b u e
  · by_cases hk : k = n
    · subst hk
      rw [hn] at g2
      cases g2
      rw [List.getElem?_set_self (List.getElem?_eq_some_iff.mp hx).1] at g1
      cases g1
      exact ⟨vs, h1, upd_same⟩
    · rw [List.getElem?_set_ne (Ne.symm hk)] at g1
      exact (c.cell k y b g1 g2).step (sub_upd fa) rfl
  · by_cases hk : k = n
    · subst hk
      rw [List.getElem?_set_self (List.getElem?_eq_some_iff.mp hx).1] at g1
      cases g1
      exact absurd rfl g3
    · rw [List.getElem?_set_ne (Ne.symm hk)] at g1
      have hb : b ≠ a := fun z => by
        subst z
        exact hk (by
          obtain ⟨l1, e1⟩ := List.getElem?_eq_some_iff.mp hn
          obtain ⟨l2, e2⟩ := List.getElem?_eq_some_iff.mp g2
          exact (List.getElem_inj c.nd).mp (e2.trans e1.symm))
      rw [upd_ne hb]
      exact c.ap k y b g1 g2 g3
  · by_cases hb : b = a
    · rw [hb]
      exact .inr (.inr ⟨List.mem_of_getElem? hn, vs, upd_same⟩)
    · rw [upd_ne hb] at g
      exact absurd e g
  · exact Rp.list_iff.mpr ⟨a, vs, rfl, upd_same, RpL.sub (sub_upd fa) _ _ h2⟩
/-- a new object becomes a place -/
theorem Cells.place (c : Cells m F hs H) {a : Addr} {x : Cell} (h : CellR F H a x) (f : F a = none) (n : a ∉ m) : Cells (m ++ [a]) F (hs ++ [x]) H where
  frz := c.frz
  len := by simp [c.len]
  cell := fun k y b h1 h2 => by
    by_cases hk : k < hs.length
    · rw [List.getElem?_append_left hk] at h1
      rw [List.getElem?_append_left (by rw [c.len]; exact hk)] at h2
      exact c.cell k y b h1 h2
    · rw [List.getElem?_append_right (by omega)] at h1
      rw [List.getElem?_append_right (by rw [c.len]; omega), c.len] at h2
      have e1 : k - hs.length = 0 := by
        cases q : k - hs.length with
        | zero => rfl
        | succ j => rw [q] at h1; simp at h1
      rw [e1] at h1 h2
      simp at h1 h2
      rw [← h1, ← h2]
      exact h
  ap := fun k y b h1 h2 h3 => by
    by_cases hk : k < hs.length
    · rw [List.getElem?_append_left hk] at h1
      rw [List.getElem?_append_left (by rw [c.len]; exact hk)] at h2
      exact c.ap k y b h1 h2 h3
    · rw [List.getElem?_append_right (by rw [c.len]; omega), c.len] at h2
      have hb := List.mem_of_getElem? h2
      simp at hb
      rw [hb]
      exact f
  nd := by
    rw [List.nodup_append]
    exact ⟨c.nd, by simp, fun b hb d hd => by simp at hd; rw [hd]; exact fun z => n (by rw [← z]; exact hb)⟩
/-- a place is written -/
theorem Cells.write (c : Cells m F hs H) {n : Nat} {a : Addr} {x : Cell} {o : HO} (hn : m[n]? = some a) (fa : F a = none) (h : ∀ G, G a = some o → CellR F G a x) : Cells m F (hs.set n x) (upd H a o) where
  frz := fun b u e => by
    have hb : b ≠ a := fun z => by
      rw [z, fa] at e
      cases e
    rw [dn_ne hb]
    exact c.frz b u e
  len := by simp [c.len]
  cell := fun k y b h1 h2 => by
    by_cases hk : k = n
    · subst hk
      rw [hn] at h2
      cases h2
      have hl : k < hs.length := by
        have := (List.getElem?_eq_some_iff.mp h1).1
        simpa using this
      rw [List.getElem?_set_self hl] at h1
      cases h1
      exact h _ upd_same
    · rw [List.getElem?_set_ne (Ne.symm hk)] at h1
      have hb : b ≠ a := fun z => by
        subst z
        exact hk (by
          obtain ⟨g1, e1⟩ := List.getElem?_eq_some_iff.mp hn
          obtain ⟨g2, e2⟩ := List.getElem?_eq_some_iff.mp h2
          exact (List.getElem_inj c.nd).mp (e2.trans e1.symm))
      exact (c.cell k y b h1 h2).step (Sub.refl F) (upd_ne hb)
  ap := fun k y b h1 h2 h3 => by
    by_cases hk : k = n
    · subst hk
      rw [hn] at h2
      cases h2
      exact fa
    · rw [List.getElem?_set_ne (Ne.symm hk)] at h1
      exact c.ap k y b h1 h2 h3
  nd := c.nd
theorem ext_write {a : Addr} {o o0 : HO} (h : a ∈ m) (t0 : H a = some o0) (fr : Free o0) : Ext m F H m F (upd H a o) :=
  have t : H a ≠ none := by rw [t0]; simp
  ⟨⟨[], by simp⟩, Sub.refl F, fun b u e n => by
    rw [upd_ne (fun z => n (by rw [z]; exact h))]
    exact e, fun b e => by
    by_cases hb : b = a
    · rw [hb, upd_same] at e
      cases e
    · rw [upd_ne hb] at e
      exact e, fun _ h => .inl h, fun _ e g => absurd e g, fun b o u e => by
    rw [upd_ne (fun z => by
      rw [z, t0] at e
      cases e
      exact fr _ _ rfl)]
    exact e⟩
theorem ext_hold {a : Addr} {o : HO} (x : Ext m F H0 m' F' H') (f : F' a = none) (n : H0 a = none) : Ext m F H0 m' (upd F' a o) H' :=
  ⟨x.pre, x.frz.trans (sub_upd f), x.old, x.trk, x.new, fun b e g => by
    by_cases hb : b = a
    · rw [hb]
      exact .inl n
    · rw [upd_ne hb] at g
      exact (x.nfz b e g).mono (sub_upd f), x.lck⟩
theorem ext_place {a : Addr} (x : Ext m F H0 m' F' H') (n : H0 a = none) : Ext m F H0 (m' ++ [a]) F' H' :=
  ⟨by
    obtain ⟨t, rfl⟩ := x.pre
    exact ⟨t ++ [a], by rw [List.append_assoc]⟩, x.frz, x.old, x.trk, fun b hb => by
    rcases List.mem_append.mp hb with hb | hb
    · exact x.new b hb
    · simp at hb
      rw [hb]
      exact .inr n, x.nfz, x.lck⟩
/-- a tuple that was tracked is held -/
theorem ext_tup {a : Addr} {vs : List V} (f : F a = none) (n : a ∉ m) (t : dn H a = some (.tup vs)) : Ext m F H m (upd F a (.tup vs)) H :=
  ⟨⟨[], by simp⟩, sub_upd f, fun _ _ h _ => h, fun _ h => h, fun _ h => .inl h, fun b e g => by
    by_cases hb : b = a
    · rw [hb]
      exact .inr (.inl ⟨n, vs, t⟩)
    · rw [upd_ne hb] at g
      exact absurd e g, fun _ _ _ h => h⟩
/-- a fresh list, held -/
theorem fl_hold {xs : List PyData} {a : Addr} {vs : List V} (h1 : H a = some (.lst vs)) (h2 : RpL F xs vs) (f : F a = none) : Rp (upd F a (.lst vs)) (.list xs) (.ref a) :=
  Rp.list_iff.mpr ⟨a, vs, rfl, upd_same, RpL.sub (sub_upd f) _ _ h2⟩
end
end Mi

/-! Mi: what comes behind an evaluation; reading and giving. -/
namespace Mi
open PySem PySem.Spec PyProof.Rows L2

/-- a later state -/
def Fin (m : List Addr) (F H : Hp) (hs' : Hs) (m' : List Addr) (F' H' : Hp) : Prop := Ext m F H m' F' H' ∧ Cells m' F' hs' H'
/-- what is wanted behind an evaluation: of its value, or (W) of what is raised -/
def Post {α : Type} (x : Res α) (m : List Addr) (F H : Hp) (P : α → List Addr → Hp → Hp → Hs → Prop) (W : Nat → Hp → Prop) : Prop := match x with
  | .ok a hs' => ∀ m' F' H', Fin m F H hs' m' F' H' → P a m' F' H' hs'
  | .ex c hs' => ∀ m' F' H', Fin m F H hs' m' F' H' → W c H'
  | .bad => False
section
variable {α β : Type} {m m' : List Addr} {F F' H H' : Hp} {W : Nat → Hp → Prop}
theorem Post.mono {x : Res α} {P P' : α → List Addr → Hp → Hp → Hs → Prop} (h : Post x m F H P W) (w : ∀ a m' F' H' hs', Fin m F H hs' m' F' H' → P a m' F' H' hs' → P' a m' F' H' hs') : Post x m F H P' W := by
  cases x with
  | ok a hs => exact fun m' F' H' f => w a m' F' H' hs f (h m' F' H' f)
  | ex c hs => exact h
  | bad => exact h
theorem Post.bind {x : Res α} {f : α → Hs → Res β} {P : β → List Addr → Hp → Hp → Hs → Prop} (h : Post (x.bind f) m F H P W) : Post x m F H (fun a _ _ _ hs1 => Post (f a hs1) m F H P W) W := by
  cases x with
  | ok a hs => exact fun _ _ _ _ => h
  | ex c hs => exact h
  | bad => exact h
theorem Res.bind_assoc {γ : Type} (x : Res α) (f : α → Hs → Res β) (g : β → Hs → Res γ) : (x.bind f).bind g = x.bind fun a h => (f a h).bind g := by
  cases x <;> rfl
theorem Post.asc {γ : Type} {x : Res α} {f : α → Hs → Res β} {g : β → Hs → Res γ} {P : γ → List Addr → Hp → Hp → Hs → Prop} (h : Post ((x.bind f).bind g) m F H P W) : Post (x.bind fun a h => (f a h).bind g) m F H P W := by
  rw [← Res.bind_assoc]
  exact h
theorem Fin.trans {hs hs' : Hs} {m2 : List Addr} {F2 H2 : Hp} (a : Fin m F H hs m' F' H') (b : Fin m' F' H' hs' m2 F2 H2) : Fin m F H hs' m2 F2 H2 := ⟨a.1.trans b.1, b.2⟩
theorem Fin.refl {hs : Hs} (c : Cells m F hs H) : Fin m F H hs m F H := ⟨.refl, c⟩
end

/-- read at once: the outermost object as the heap has it, what is in it stands for good -/
def Lk (F H : Hp) : PyData → V → Prop
  | .list ds, v => ∃ a vs, v = .ref a ∧ H a = some (.lst vs) ∧ RpL F ds vs
  | .dict kvs, v => kvs = [] ∧ ∃ a, v = .ref a ∧ H a = some (.dK [])
  | d, v => Rp F d v
section
variable {F H : Hp} {d : PyData} {v : V} {m : List Addr} {hs : Hs} {K : PySem.W.Frag} {er : Nat → V → Prop} {H0 : Hp} {r : R}
theorem Lk.rp (s : Sub F (dn H)) (h : Lk F H d v) : Rp (dn H) d v := by
  cases d with
  | list ds =>
    obtain ⟨a, vs, e, h1, h2⟩ := h
    exact Rp.list_iff.mpr ⟨a, vs, e, dn_lst h1, RpL.sub s _ _ h2⟩
  | dict kvs =>
    obtain ⟨e, a, e2, h1⟩ := h
    simp only [Rp]
    exact ⟨e, a, e2, dn_dK h1⟩
  | _ => exact Rp.sub s _ _ h
theorem Rp.lk (s : Sub F (dn H)) (h : Rp F d v) : Lk F H d v := by
  cases d with
  | list ds =>
    obtain ⟨a, vs, e, h1, h2⟩ := Rp.list_iff.mp h
    exact ⟨a, vs, e, dn_of (s _ _ h1) (fun _ z => nomatch z), h2⟩
  | dict kvs =>
    simp only [Rp] at h
    obtain ⟨e, a, e2, h1⟩ := h
    exact ⟨e, a, e2, dn_of (s _ _ h1) (fun _ z => nomatch z)⟩
  | _ => exact h
theorem look_lk (c : Cells m F hs H) (rr : RelR K er m F H0 H r v) (e : look hs r = some d) : Lk F H d v := by
  cases r with
  | v w =>
    cases w with
    | d x =>
      simp only [look, Option.some.injEq] at e
      subst e
      exact Rp.lk c.frz rr
    | r n =>
      simp only [look] at e
      obtain ⟨a, h1, rfl⟩ := rr
      cases hc : hs[n]? with
      | none => rw [hc] at e; simp at e
      | some y =>
        rw [hc] at e
        cases y with
        | lst xs =>
          simp only [Option.some.injEq] at e
          subst e
          obtain ⟨vs, h2, h3⟩ := c.cell n _ a hc h1
          exact ⟨a, vs, rfl, h2, h3⟩
        | dct kvs => simp at e
        | lck kvs => simp at e
        | gone => simp at e
    | e c => simp [look] at e
    | s ns => simp [look] at e
  | fl xs =>
    simp only [look, Option.some.injEq] at e
    subst e
    obtain ⟨a, vs, rfl, h1, h2, _⟩ := rr
    exact ⟨a, vs, rfl, h1, h2⟩
  | fd kvs =>
    cases kvs with
    | nil =>
      simp only [look, Option.some.injEq] at e
      subst e
      obtain ⟨a, rfl, h1, _⟩ := rr
      obtain ⟨ks, h2, h3, _⟩ := h1
      have : ks = [] := by simpa using h3.symm
      subst this
      exact ⟨rfl, a, rfl, h2⟩
    | cons p r => simp [look] at e
  | ft ws => simp [look] at e
/-- what an operation gives that only reads: r at v, the heap behind it -/
def Gives (F H : Hp) : R → V → Hp → Prop
  | .v (.d x), v, H' => (H' = H ∧ Rp F x v) ∨ ∃ (ds : List PyData) (p : Addr) (vs : List V) (o : Obj), x = .tuple ds ∧ v = .ref p ∧ H p = none ∧ o.dict = none ∧ H' = upd H p (.frz o (.tup vs)) ∧ RpL F ds vs
  | .fl xs, v, H' => ∃ p vs, v = .ref p ∧ H p = none ∧ H' = upd H p (.lst vs) ∧ RpL F xs vs
  | .fd kvs, v, H' => ∃ p ks, v = .ref p ∧ H p = none ∧ H' = upd H p (.dK ks) ∧ CellR F H' p (.dct kvs)
  | _, _, _ => False
theorem Cells.fnone (c : Cells m F hs H) {p : Addr} (n : H p = none) : F p = none := by
  cases q : F p with
  | none => rfl
  | some u => have z := c.frz _ _ q; rw [dn_none n] at z; cases z
theorem Cells.mnone (c : Cells m F hs H) {p : Addr} (n : H p = none) : p ∉ m := fun z => by
  obtain ⟨k, hk⟩ := List.getElem?_of_mem z
  have hl : k < hs.length := by
    rw [← c.len]
    exact (List.getElem?_eq_some_iff.mp hk).1
  obtain ⟨o, ho⟩ := (c.cell k _ p (List.getElem?_eq_getElem hl) hk).some
  rw [n] at ho
  cases ho
/-- giving comes to the state behind it -/
theorem give {m2 : List Addr} {F2 H2 H' : Hp} {r : R} {v : V} (x : ∀ a, H2 a = none → H0 a = none) (c : Cells m2 F2 hs H2) (g : Gives F2 H2 r v H') : ∃ F', Fin m2 F2 H2 hs m2 F' H' ∧ RelR K er m2 F' H0 H' r v := by
  cases r with
  | v w =>
    cases w with
    | d y =>
      rcases g with ⟨rfl, g⟩ | ⟨ds, p, vs, o, rfl, rfl, n, hd, rfl, g⟩
      · exact ⟨F2, .refl c, g⟩
      · obtain ⟨c', e'⟩ := c.new (o := .frz o (.tup vs)) n
        have fp := c.fnone n
        refine ⟨upd F2 p (.tup vs), ⟨ext_hold e' fp n, c'.hold (dn_mk upd_same hd) fp (c.mnone n)⟩, ?_⟩
        exact Rp.tuple_iff.mpr ⟨p, vs, rfl, upd_same, RpL.sub (sub_upd fp) _ _ g⟩
    | r n => exact g.elim
    | e c => exact g.elim
    | s c => exact g.elim
  | fl xs =>
    obtain ⟨p, vs, rfl, n, rfl, g⟩ := g
    obtain ⟨c', e'⟩ := c.new (o := .lst vs) n
    exact ⟨F2, ⟨e', c'⟩, p, vs, rfl, upd_same, g, c.fnone n, c.mnone n, x p n⟩
  | fd kvs =>
    obtain ⟨p, ks, rfl, n, rfl, g⟩ := g
    obtain ⟨c', e'⟩ := c.new (o := .dK ks) n
    exact ⟨F2, ⟨e', c'⟩, p, rfl, g, c.fnone n, c.mnone n, x p n⟩
  | ft ws => exact g.elim
end
section
variable {K : PySem.W.Frag} {er : Nat → V → Prop} {m : List Addr} {F H0 H : Hp}
theorem rel_int {i : Int} : RelR K er m F H0 H (.v (.d (.int i))) (.int i) := rp_int (F := F)
theorem rel_bool {i : Bool} : RelR K er m F H0 H (.v (.d (.bool i))) (.bl i) := rp_bool (F := F)
theorem rel_str {i : Str} : RelR K er m F H0 H (.v (.d (.str i))) (.str i) := rp_str (F := F)
theorem rel_none : RelR K er m F H0 H (.v (.d .none)) .non := rp_none (F := F)
end
/-- the start moves on -/
theorem Post.on {α : Type} {x : Res α} {m m1 : List Addr} {F F1 H H1 : Hp} {hs1 : Hs} {P : α → List Addr → Hp → Hp → Hs → Prop} {W : Nat → Hp → Prop} (f : Fin m F H hs1 m1 F1 H1) (h : Post x m F H P W) :
    Post x m1 F1 H1 (fun a m' F' H' hs' => Fin m F H hs' m' F' H' ∧ P a m' F' H' hs') W := by
  cases x with
  | ok a hs => exact fun m' F' H' g => ⟨f.trans g, h m' F' H' (f.trans g)⟩
  | ex c hs => exact fun m' F' H' g => h m' F' H' (f.trans g)
  | bad => exact h
/-- a question's wish, by what is given -/
theorem Post.give {K : PySem.W.Frag} {er : Nat → V → Prop} {m m2 : List Addr} {F F2 H H2 H' : Hp} {hs : Hs} {r : R} {v : V} {W : Nat → Hp → Prop} {Q : VK}
    (h : Post (Res.ok r hs) m F H (fun r m' F' H' _ => ∀ v, RelR K er m' F' H H' r v → Q v H') W) (f : Fin m F H hs m2 F2 H2) (g : Gives F2 H2 r v H') : Q v H' := by
  obtain ⟨F', f', q⟩ := Mi.give (K := K) (er := er) f.1.trk f.2 g
  exact h m2 F' H' (f.trans f') v q
/-- .. and of what is held -/
theorem Post.tell {K : PySem.W.Frag} {er : Nat → V → Prop} {m m2 : List Addr} {F F2 H H2 : Hp} {hs : Hs} {r : R} {v : V} {W : Nat → Hp → Prop} {Q : VK}
    (h : Post (Res.ok r hs) m F H (fun r m' F' H' _ => ∀ v, RelR K er m' F' H H' r v → Q v H') W) (f : Fin m F H hs m2 F2 H2) (g : RelR K er m2 F2 H H2 r v) : Q v H2 := h m2 F2 H2 f v g
end Mi

/-! Mi: tuples are made with no dict of their own. -/
namespace Mi
open PySem PySem.Spec PyProof.Rows L2

section
variable {X : Cx} {pins : List (Addr × Obj)} {σ : L2.St} {H : Hp} {s : Shared}
/-- a tuple laid behind the heap, known to its object -/
theorem laid_known {xs : List V} {us : List Value} {Q : VK} {tk : Nat} (I : Inv X pins σ H s) (r : Vals xs us) (hz : xs.length ≤ sizeLine)
    (q : ∀ (p : Addr) (o : Obj), H p = none → o.dict = none → Q (.ref p) (upd H p (.frz o (.tup xs)))) :
    EP X pins σ Q (.ref s.heap.objs.size) { s with heap := s.heap.push { cls := .type "tuple", data := .seq us.toArray }, toks := tk } := by
  have free : H s.heap.objs.size = none := I.hok.fresh (Nat.le_refl _)
  have at_ : (s.heap.push { cls := .type "tuple", data := .seq us.toArray }).get? s.heap.objs.size = some { cls := .type "tuple", data := .seq us.toArray } := Heap.get?_push_size _ rfl
  exact ⟨.ref s.heap.objs.size, _, I.laid (t' := tk) (o := .frz { cls := .type "tuple", data := .seq us.toArray } (.tup xs)) (fun _ _ e => Heap.get?_push_of_some _ e) (Nat.le_refl _) ⟨at_, hz, us, r, _, at_, rfl, _, rfl⟩, rfl, q _ _ free rfl⟩
/-- the same of a pair that a walk lays -/
theorem ok_known {h : Heap} {G : Hp} {a : Addr} {o : Obj} {xs : List V} {us : List Value} {n : Nat} (e : h.get? a = some o) (hc : o.cls = .type "tuple") (hd : o.data = .seq us.toArray n) (r : Vals xs us) (hz : xs.length ≤ sizeLine) :
    ObjOk X.prog X.w G h a (.frz o (.tup xs)) := ⟨e, hz, us, r, o, e, hc, n, hd⟩
end
section
variable {X : Cx}
def tTupK (t : TA) : TE := fun σ H Q => t σ H fun xs H1 => xs.length ≤ sizeLine ∧ ∀ (p : Addr) (o : Obj), H1 p = none → o.dict = none → Q (.ref p) (upd H1 p (.frz o (.tup xs)))
/-- a displayed tuple -/
theorem pe_tupK {es : List Expr} {t : TA} {kk : Nat} {pos : Pos} (h : PA X es t) : PE X (.Tuple es kk pos) (tTupK t) :=
  ⟨fun pins s σ H Q I hq => wpAny_Tuple_spliced (thn (h.run pos pins s σ H _ I hq) fun us s1 ⟨xs, H1, I1, r, z, q⟩ =>
    ⟨by rw [← r.length]; exact z, laid_known (tk := s1.toks) I1 r z q⟩)⟩
/-- tuple(list), tuple(tuple) -/
theorem call_tupleK : CallR X (.type "tuple") (fun xs H Q => ∃ p ys, xs = [.ref p] ∧ ((SqL X.K H p ys ∧ ∀ (l : Addr) (o : Obj), H l = none → o.dict = none → Q (.ref l) (upd H l (.frz o (.tup ys)))) ∨ (SqT X.K H p ys ∧ Q (.ref p) H))) := by
  rintro pins s σ H xs us Q I r ⟨p, ys, rfl, h⟩
  obtain rfl := Vals.ref1 r
  rcases h with ⟨hq, q⟩ | ⟨hq, q⟩
  · obtain ⟨its, rv, pl, hz⟩ := I.list hq
    have le := rv.length
    exact call_tuple_list pl.isList (fun h1 kp => laid_known (s := { s with heap := h1 }) (tk := s.toks) (I.kept (t' := s.toks) kp) rv hz q) (by rw [List.size_toArray]; omega)
  · obtain ⟨its, rv, pl, _⟩ := I.tuple hq
    exact call_tuple_same pl ⟨.ref p, H, I, rfl, q⟩
/-- t + u -/
def rCatK (K : PySem.W.Frag) : R2 := fun x y H Q => ∃ a b xs ys, x = .ref a ∧ y = .ref b ∧ SqT K H a xs ∧ SqT K H b ys ∧ xs.length + ys.length ≤ sizeLine ∧
  (xs = [] → Q (.ref b) H) ∧ (xs ≠ [] → ys = [] → Q (.ref a) H) ∧ (xs ≠ [] → ys ≠ [] → ∀ (p : Addr) (o : Obj), H p = none → o.dict = none → Q (.ref p) (upd H p (.frz o (.tup (xs ++ ys)))))
theorem op_catK : OpR X (binaryOp .Add) (rCatK X.K) := by
  rintro pins s σ H x y v u Q I rx ry ⟨a, b, xs, ys, rfl, rfl, ha, hb, hz, q0, q1, q2⟩
  obtain rfl : v = .ref a := rx
  obtain rfl : u = .ref b := ry
  obtain ⟨l1, r1, p1, _⟩ := I.tuple ha
  obtain ⟨l2, r2, p2, _⟩ := I.tuple hb
  have e2 : l2 = [] ↔ ys = [] := r2.nil_iff
  cases xs with
  | nil =>
    cases r1
    exact cat_tup0 p1 p2 ⟨.ref b, H, I, rfl, q0 rfl⟩
  | cons z zs =>
    have n1 : l1 ≠ [] := fun e => by rw [e] at r1; cases r1
    refine HT.cat_tup p1 p2 n1 (fun w => ⟨.ref a, H, I, rfl, q1 (by simp) (e2.mp w)⟩) (fun w => ?_) (by rw [← r1.length, ← r2.length]; exact hz)
    exact laid_known (tk := s.toks) I (r1.append r2) (by rw [List.length_append]; exact hz) (q2 (by simp) fun e => w (e2.mpr e))
/-- t[lo:hi] -/
def rSlK (K : PySem.W.Frag) : V → Option Int → Option Int → Hp → VK → Prop := fun x lo hi H Q => ∃ a xs, x = .ref a ∧ SqT K H a xs ∧
  (HT.sIx xs.length 0 lo = 0 ∧ HT.sIx xs.length xs.length hi = xs.length → Q (.ref a) H) ∧
  (¬ (HT.sIx xs.length 0 lo = 0 ∧ HT.sIx xs.length xs.length hi = xs.length) → ∀ (p : Addr) (o : Obj), H p = none → o.dict = none → Q (.ref p) (upd H p (.frz o (.tup (cutV xs lo hi)))))
theorem sl_tupK : SlR X (rSlK X.K) := by
  rintro pins s σ H x v vl vu lo hi sl Q I rx hs pl pu ⟨a, xs, rfl, hx, q1, q2⟩
  obtain rfl : v = .ref a := rx
  obtain ⟨its, r, ht, hz⟩ := I.tuple hx
  have el : its.toArray.size = xs.length := by
    rw [List.size_toArray]
    exact r.length.symm
  refine ⟨"tuple", _, PyProof.Rows.slot_tuple_getitem.lookup, ht.typeIs, ?_⟩
  by_cases hw : HT.sIx xs.length 0 lo = 0 ∧ HT.sIx xs.length xs.length hi = xs.length
  · refine getItem_tuple_whole ht hs pl pu ?_ ⟨.ref a, H, I, rfl, q1 hw⟩
    rw [el]
    exact hw
  · refine HT.getItem_tuple_cut ht hs pl pu (by rw [el]; exact hw) ?_ (by rw [el]; exact hz)
    rw [el]
    exact laid_known (tk := s.toks) I ((r.drop _).take _) (Nat.le_trans (cutV_length xs lo hi) hz) (q2 hw)
/-- tuple(range(..)) -/
def tTupRgK (te : L2.St → Hp → (Int → Int → Hp → Prop) → Prop) : TE := fun σ H Q => te σ H fun a b H1 => RgOk a b ∧ ∀ (q : Addr) (o : Obj), H1 q = none → o.dict = none → Q (.ref q) (upd H1 q (.frz o (.tup (rgV a b))))
theorem pe_tupRgK {e : Expr} {te : L2.St → Hp → (Int → Int → Hp → Prop) → Prop} {p pos : Pos} (hc : X.calm = true) (hg : Gl X "tuple") (hm : X.mg "tuple" = none) (he : PRg X e te)
    (na : starEach [e] X.env = (false, eval e X.env) :: starEach [] X.env := by rfl) : PE X (.Call (.Name "tuple" p) [e] [] pos) (tTupRgK te) := by
  refine ⟨fun pins s σ H Q I h => Call_ (ld_blt I hg hm boot_tuple (PyProof.Rows.callWith_type1 (args_cons (thn (he pins s σ H _ I h) fun x s1 hx => args_nil ?_) na) na))⟩
  obtain ⟨r, a, b, t, u, v, H1, rfl, hr, I1, ok, q⟩ := hx
  obtain ⟨b1, b2, b3, b4, b5⟩ := ok
  refine call_tuple_range (n := (b - a).toNat) (I1.ok.hd hc) hr (small_one b1 b2 b3 b4) (rangeSize_nat a b) b5 fun h1 tk acc hk hi => ?_
  have rl : (rgV a b).length ≤ sizeLine := by
    rw [rgV_length, sizeLine_eq]
    omega
  have z := laid_known (s := { s1 with heap := h1, toks := tk }) (tk := tk) (I1.kept hk) (vals_rg hi) rl q
  rw [Array.toArray_toList] at z
  exact z
end
end Mi

/-! Mi: operators. -/
namespace Mi
open PySem PySem.Spec PyProof.Rows L2

theorem line_le {n : Nat} (h : n ≤ line) : n ≤ sizeLine := by
  rw [sizeLine_eq]
  exact h
theorem line_lt {n : Nat} (h : n < line) : n < sizeLine := by
  rw [sizeLine_eq]
  exact h
def opOf : BOp → Operator
  | .add => .Add | .sub => .Sub | .mul => .Mult | .fdiv => .FloorDiv | .mod => .Mod | .pow => .Pow | .shl => .LShift | .shr => .RShift | .band => .BitAnd | .bor => .BitOr
def copOf : COp → CmpOp
  | .eq => .Eq | .ne => .NotEq | .lt => .Lt | .le => .LtE | .gt => .Gt | .ge => .GtE | .inn => .In | .nin => .NotIn
def rBin (o : BOp) : R2 := fun x y H Q => ∃ F dx dy r, Sub F (dn H) ∧ Lk F H dx x ∧ Lk F H dy y ∧ binD o dx dy = some r ∧ ∀ v H', Gives F H r v H' → Q v H'
theorem gives_int {F H : Hp} {i : Int} : Gives F H (.v (.d (.int i))) (.int i) H := .inl ⟨rfl, rp_int⟩
theorem gives_bool {F H : Hp} {i : Bool} : Gives F H (.v (.d (.bool i))) (.bl i) H := .inl ⟨rfl, rp_bool⟩
theorem gives_str {F H : Hp} {i : Str} : Gives F H (.v (.d (.str i))) (.str i) H := .inl ⟨rfl, rp_str⟩
theorem gives_none {F H : Hp} : Gives F H (.v (.d .none)) .non H := .inl ⟨rfl, rp_none⟩
section
variable {X : Cx}
theorem mulOk_ok {i j : Int} (h : mulOk i j = true) : CMul i j ∨ CMulW i j := by
  unfold mulOk at h
  simp only [Bool.or_eq_true, Bool.and_eq_true, decide_eq_true_eq] at h
  rcases h with (h | h) | h
  · exact .inl (.inl ⟨by omega, by omega⟩)
  · exact .inl (.inr ⟨by omega, by omega⟩)
  · exact .inr h
theorem divOk_ok {i j : Int} (h : divOk j = true) : CDivW i j := by
  unfold divOk at h
  simp only [Bool.and_eq_true, decide_eq_true_eq] at h
  refine ⟨h.1, Nat.lt_of_lt_of_le (PySem.Flt.log2_lt_of (k := 200) (by omega) ?_) (by omega)⟩
  have h2 := h.2
  have : (j.natAbs : Int) < 1606938044258990275541962092341162602522202993782792835301376 := by omega
  have e : (2 : Nat) ^ 200 = 1606938044258990275541962092341162602522202993782792835301376 := by decide +kernel
  rw [e]
  omega
theorem op_binI (o : BOp) {pins : List (Addr × Obj)} {s : Shared} {σ : L2.St} {H : Hp} {i j k : Int} {v u : Value} {Q : VK} (I : Inv X pins σ H s) (rx : RelV (.int i) v) (ry : RelV (.int j) u) (e : binI o i j = some k)
    (q : Q (.int k) H) : wpAny (model X.prog X.w) X.A (binaryOp (opOf o) v u) (EP X pins σ Q) X.xe s := by
  cases o with
  | add =>
    simp only [binI, Option.some.injEq] at e
    subst e
    exact op_add pins s σ H _ _ v u Q I rx ry ⟨i, j, rfl, rfl, q⟩
  | sub =>
    simp only [binI, Option.some.injEq] at e
    subst e
    exact op_sub pins s σ H _ _ v u Q I rx ry ⟨i, j, rfl, rfl, q⟩
  | mul =>
    simp only [binI] at e
    split at e
    · rename_i hm
      simp only [Option.some.injEq] at e
      subst e
      rcases mulOk_ok hm with c | c
      · exact op_mul pins s σ H _ _ v u Q I rx ry ⟨i, j, rfl, rfl, c, q⟩
      · exact op_mulW pins s σ H _ _ v u Q I rx ry ⟨i, j, rfl, rfl, c, q⟩
    · cases e
  | fdiv =>
    simp only [binI] at e
    split at e
    · rename_i hm
      simp only [Option.some.injEq] at e
      subst e
      exact op_fdivW pins s σ H _ _ v u Q I rx ry ⟨i, j, rfl, rfl, divOk_ok hm, q⟩
    · cases e
  | mod =>
    simp only [binI] at e
    split at e
    · rename_i hm
      simp only [Option.some.injEq] at e
      subst e
      exact op_mod pins s σ H _ _ v u Q I rx ry ⟨i, j, rfl, rfl, of_decide_eq_true hm, q⟩
    · cases e
  | pow =>
    simp only [binI] at e
    split at e
    · rename_i hm
      simp only [Option.some.injEq] at e
      subst e
      unfold powOk at hm
      simp only [Bool.and_eq_true, decide_eq_true_eq] at hm
      exact op_pow pins s σ H _ _ v u Q I rx ry ⟨i, j, rfl, rfl, ⟨hm.1.1, hm.1.2, by omega⟩, q⟩
    · cases e
  | shl =>
    simp only [binI] at e
    split at e
    · rename_i hm
      simp only [Option.some.injEq] at e
      subst e
      unfold powOk at hm
      simp only [Bool.and_eq_true, decide_eq_true_eq] at hm
      exact op_shl pins s σ H _ _ v u Q I rx ry ⟨i, j, rfl, rfl, ⟨hm.1.1, hm.1.2, by omega⟩, q⟩
    · cases e
  | shr =>
    simp only [binI] at e
    split at e
    · rename_i hm
      simp only [Option.some.injEq] at e
      subst e
      exact op_shr pins s σ H _ _ v u Q I rx ry ⟨i, j, rfl, rfl, of_decide_eq_true hm, q⟩
    · cases e
  | band =>
    simp only [binI, Option.some.injEq] at e
    subst e
    exact op_and pins s σ H _ _ v u Q I rx ry ⟨i, j, rfl, rfl, q⟩
  | bor =>
    simp only [binI, Option.some.injEq] at e
    subst e
    exact op_or pins s σ H _ _ v u Q I rx ry ⟨i, j, rfl, rfl, q⟩
theorem op_bin (o : BOp) : OpR X (binaryOp (opOf o)) (rBin o) := by
  intro pins s σ H x y v u Q I rx ry h
  obtain ⟨F, dx, dy, r, sub, lx, ly, e, q⟩ := h
  unfold binD at e
  split at e
  · rename_i i j
    cases lx.rp sub |>.int_of
    cases ly.rp sub |>.int_of
    cases hk : binI o i j with
    | none => rw [hk] at e; cases e
    | some k =>
      rw [hk] at e
      cases e
      exact op_binI o I rx ry hk (q _ _ gives_int)
  · rename_i xs ys
    split at e
    · rename_i hl
      cases e
      obtain ⟨a, vs, rfl, h1, h2⟩ := lx
      obtain ⟨b, us, rfl, h3, h4⟩ := ly
      refine op_cat pins s σ H _ _ v u Q I rx ry ⟨a, b, vs, us, rfl, rfl, h1, h3, ?_, fun p np => q _ _ ⟨p, _, rfl, np, rfl, h2.append h4⟩⟩
      rw [h2.length, h4.length]
      exact line_le hl
    · cases e
  · rename_i xs ys
    split at e
    · rename_i hl
      cases e
      obtain ⟨a, vs, rfl, h1, h2⟩ := Rp.tuple_iff.mp lx
      obtain ⟨b, us, rfl, h3, h4⟩ := Rp.tuple_iff.mp ly
      refine op_catK pins s σ H _ _ v u Q I rx ry ⟨a, b, vs, us, rfl, rfl, SqT.dn (sub _ _ h1), SqT.dn (sub _ _ h3), ?_, fun z => ?_, fun _ z => ?_, fun _ _ p o np hd => ?_⟩
      · rw [h2.length, h4.length]
        exact line_le hl
      · refine q _ _ (.inl ⟨rfl, ?_⟩)
        subst z
        have : xs = [] := List.length_eq_zero_iff.mp (by have := h2.length; simpa using this.symm)
        subst this
        exact Rp.tuple_iff.mpr ⟨b, us, rfl, h3, h4⟩
      · refine q _ _ (.inl ⟨rfl, ?_⟩)
        subst z
        have : ys = [] := List.length_eq_zero_iff.mp (by have := h4.length; simpa using this.symm)
        subst this
        rw [List.append_nil]
        exact Rp.tuple_iff.mpr ⟨a, vs, rfl, h1, h2⟩
      · exact q _ _ (.inr ⟨_, p, _, o, rfl, rfl, np, hd, rfl, h2.append h4⟩)
    · cases e
  · rename_i a b
    split at e
    · rename_i hl
      cases e
      cases lx.rp sub |>.str_of
      cases ly.rp sub |>.str_of
      exact op_add_str pins s σ H _ _ v u Q I rx ry ⟨a, b, rfl, rfl, line_le hl, q _ _ gives_str⟩
    · cases e
  · rename_i xs k
    split at e
    · rename_i hl
      cases e
      simp only [Bool.and_eq_true, decide_eq_true_eq] at hl
      obtain ⟨a, vs, rfl, h1, h2⟩ := lx
      cases ly.rp sub |>.int_of
      refine op_rep pins s σ H _ _ v u Q I rx ry ⟨a, k, vs, rfl, rfl, h1, by omega, by omega, ?_, fun p np => q _ _ ⟨p, _, rfl, np, rfl, h2.flat _⟩⟩
      rw [h2.length]
      exact line_le hl.2
    · cases e
  · cases e

/-! ### comparisons -/
def rCmp (o : COp) : R2 := fun x y H Q => ∃ F dx dy b, Sub F (dn H) ∧ Lk F H dx x ∧ Lk F H dy y ∧ cmpD o dx dy = some b ∧ Q (.bl b) H
theorem room_min {a b u : Nat} (h : (decide (a ≤ 64) || decide (b ≤ 64)) = true) (hu : u + 200 < cLine) : u + min a b < cLine := by
  simp only [Bool.or_eq_true, decide_eq_true_eq] at h
  rcases h with h | h
  · have := Nat.min_le_left a b
    omega
  · have := Nat.min_le_right a b
    omega
theorem room_in {a b u : Nat} (h : b ≤ 64) (hu : u + 200 < cLine) : u + 1 + min a b < cLine := by
  have := Nat.min_le_right a b
  omega
theorem inOk_some {α : Type} {x : PyData} {ys : List PyData} {b c : α} (e : (if inOk x ys = true then some b else none) = some c) : x.plain = true ∧ PyData.plainAll ys = true ∧ x.depth ≤ 64 ∧ c = b := by
  split at e
  · rename_i h
    unfold inOk at h
    simp only [Bool.and_eq_true, decide_eq_true_eq] at h
    cases e
    exact ⟨h.1.1, h.1.2, h.2, rfl⟩
  · cases e
mutual
theorem alike_symm : ∀ {x y : PyData}, PySem.W.alike x y = true → PySem.W.alike y x = true
  | .none, .none, _ => rfl
  | .bool _, .bool _, _ => rfl
  | .int _, .int _, _ => rfl
  | .str _, .str _, _ => rfl
  | .list xs, .list ys, h => by
    simp only [PySem.W.alike] at h ⊢
    exact alikeAll_symm h
  | .tuple xs, .tuple ys, h => by
    simp only [PySem.W.alike] at h ⊢
    exact alikeAll_symm h
  | .none, .bool _, h | .none, .int _, h | .none, .str _, h | .none, .list _, h | .none, .tuple _, h | .none, .dict _, h => by simp [PySem.W.alike] at h
  | .bool _, .none, h | .bool _, .int _, h | .bool _, .str _, h | .bool _, .list _, h | .bool _, .tuple _, h | .bool _, .dict _, h => by simp [PySem.W.alike] at h
  | .int _, .none, h | .int _, .bool _, h | .int _, .str _, h | .int _, .list _, h | .int _, .tuple _, h | .int _, .dict _, h => by simp [PySem.W.alike] at h
  | .str _, .none, h | .str _, .bool _, h | .str _, .int _, h | .str _, .list _, h | .str _, .tuple _, h | .str _, .dict _, h => by simp [PySem.W.alike] at h
  | .list _, .none, h | .list _, .bool _, h | .list _, .int _, h | .list _, .str _, h | .list _, .tuple _, h | .list _, .dict _, h => by simp [PySem.W.alike] at h
  | .tuple _, .none, h | .tuple _, .bool _, h | .tuple _, .int _, h | .tuple _, .str _, h | .tuple _, .list _, h | .tuple _, .dict _, h => by simp [PySem.W.alike] at h
  | .dict _, y, h => by cases y <;> simp [PySem.W.alike] at h
theorem alikeAll_symm : ∀ {xs ys : List PyData}, PySem.W.alikeAll xs ys = true → PySem.W.alikeAll ys xs = true
  | [], [], _ => rfl
  | [], _ :: _, _ => rfl
  | _ :: _, [], _ => rfl
  | x :: xs, y :: ys, h => by
    simp only [PySem.W.alikeAll, Bool.and_eq_true] at h ⊢
    exact ⟨alike_symm h.1, alikeAll_symm h.2⟩
end
theorem alike_none {x y : PyData} (h : PySem.W.alike x y = true) (n : x ≠ .none) : y ≠ .none := fun z => by
  subst z
  cases x <;> simp [PySem.W.alike] at h n
theorem op_eqM (hu : X.A.units + 200 < cLine) {pins : List (Addr × Obj)} {s : Shared} {σ : L2.St} {H : Hp} {x y : V} {v u : Value} {Q : VK} {dx dy : PyData} {b : Bool} (I : Inv X pins σ H s) (rx : RelV x v) (ry : RelV y u) (lx : Rp (dn H) dx x) (ly : Rp (dn H) dy y)
    (e : eqD dx dy = some b) (q : Q (.bl b) H) : wpAny (model X.prog X.w) X.A (compareOp .Eq v u) (EP X pins σ Q) X.xe s := by
  unfold eqD eqOk at e
  split at e
  · rename_i h
    simp only [Bool.and_eq_true] at h
    cases e
    obtain ⟨as, r1⟩ := Rp.reads I _ _ _ lx rx
    obtain ⟨bs, r2⟩ := Rp.reads I _ _ _ ly ry
    exact SeqAt.eq_plain r1 r2 h.1.1 h.1.2 (room_min h.2 hu) ⟨.bl _, H, I, rfl, q⟩
  · cases e
theorem op_neM (hu : X.A.units + 200 < cLine) {pins : List (Addr × Obj)} {s : Shared} {σ : L2.St} {H : Hp} {x y : V} {v u : Value} {Q : VK} {dx dy : PyData} {b : Bool} (I : Inv X pins σ H s) (rx : RelV x v) (ry : RelV y u) (lx : Rp (dn H) dx x) (ly : Rp (dn H) dy y)
    (e : eqD dx dy = some b) (q : Q (.bl (!b)) H) : wpAny (model X.prog X.w) X.A (compareOp .NotEq v u) (EP X pins σ Q) X.xe s := by
  unfold eqD eqOk at e
  split at e
  · rename_i h
    simp only [Bool.and_eq_true] at h
    cases e
    obtain ⟨as, r1⟩ := Rp.reads I _ _ _ lx rx
    obtain ⟨bs, r2⟩ := Rp.reads I _ _ _ ly ry
    exact SeqAt.ne_plain r1 r2 h.1.1 h.1.2 (room_min h.2 hu) ⟨.bl _, H, I, rfl, q⟩
  · cases e
theorem ltD_some {dx dy : PyData} {b : Bool} (e : ltD dx dy = some b) : PySem.W.alike dx dy = true ∧ (decide (dx.depth ≤ 64) || decide (dy.depth ≤ 64)) = true ∧ dx ≠ .none ∧ b = PySem.W.dataLt dx dy := by
  unfold ltD ltOk at e
  split at e
  · rename_i h
    simp only [Bool.and_eq_true] at h
    cases e
    exact ⟨h.1.1, h.1.2, nn_ne h.2, rfl⟩
  · cases e
theorem op_cmp (o : COp) (hu : X.A.units + 200 < cLine) : OpR X (compareOp (copOf o)) (rCmp o) := by
  intro pins s σ H x y v u Q I rx ry h
  obtain ⟨F, dx, dy, b, sub, lx, ly, e, q⟩ := h
  have px := lx.rp sub
  have py := ly.rp sub
  unfold cmpD at e
  split at e
  · cases px.int_of; cases py.int_of; cases e
    refine op_eq pins s σ H _ _ v u Q I rx ry ⟨rfl, ?_⟩
    rw [dec_int, Bool.beq_eq_decide_eq]
    exact q
  · cases px.int_of; cases py.int_of; cases e
    refine op_ne pins s σ H _ _ v u Q I rx ry ⟨rfl, ?_⟩
    rw [dec_int, Bool.beq_eq_decide_eq]
    exact q
  · cases px.int_of; cases py.int_of; cases e
    exact op_lt pins s σ H _ _ v u Q I rx ry ⟨_, _, rfl, rfl, q⟩
  · cases px.int_of; cases py.int_of; cases e
    exact op_le pins s σ H _ _ v u Q I rx ry ⟨_, _, rfl, rfl, q⟩
  · cases px.int_of; cases py.int_of; cases e
    exact op_gt pins s σ H _ _ v u Q I rx ry ⟨_, _, rfl, rfl, q⟩
  · cases px.int_of; cases py.int_of; cases e
    exact op_ge pins s σ H _ _ v u Q I rx ry ⟨_, _, rfl, rfl, q⟩
  · exact op_eqM hu I rx ry px py e q
  · cases he : eqD dx dy with
    | none => rw [he] at e; cases e
    | some k =>
      rw [he] at e
      cases e
      exact op_neM hu I rx ry px py he q
  · obtain ⟨h1, h2, h3, rfl⟩ := ltD_some e
    obtain ⟨as, r1⟩ := Rp.reads I _ _ _ px rx
    obtain ⟨bs, r2⟩ := Rp.reads I _ _ _ py ry
    exact PySem.W.lt_data r1 r2 h1 h3 (room_min h2 hu) ⟨.bl _, H, I, rfl, q⟩
  · cases he : ltD dy dx with
    | none => rw [he] at e; cases e
    | some k =>
      rw [he] at e
      cases e
      obtain ⟨h1, h2, h3, rfl⟩ := ltD_some he
      obtain ⟨as, r1⟩ := Rp.reads I _ _ _ px rx
      obtain ⟨bs, r2⟩ := Rp.reads I _ _ _ py ry
      exact PySem.W.le_data r1 r2 (alike_symm h1) (alike_none h1 h3) (room_min (by rw [Bool.or_comm]; exact h2) hu) ⟨.bl _, H, I, rfl, q⟩
  · obtain ⟨h1, h2, h3, rfl⟩ := ltD_some e
    obtain ⟨as, r1⟩ := Rp.reads I _ _ _ px rx
    obtain ⟨bs, r2⟩ := Rp.reads I _ _ _ py ry
    exact PySem.W.gt_data r1 r2 (alike_symm h1) (alike_none h1 h3) (room_min (by rw [Bool.or_comm]; exact h2) hu) ⟨.bl _, H, I, rfl, q⟩
  · cases he : ltD dx dy with
    | none => rw [he] at e; cases e
    | some k =>
      rw [he] at e
      cases e
      obtain ⟨h1, h2, h3, rfl⟩ := ltD_some he
      obtain ⟨as, r1⟩ := Rp.reads I _ _ _ px rx
      obtain ⟨bs, r2⟩ := Rp.reads I _ _ _ py ry
      exact PySem.W.ge_data r1 r2 h1 h3 (room_min h2 hu) ⟨.bl _, H, I, rfl, q⟩
  · cases px.str_of; cases py.str_of; cases e
    exact op_in_str pins s σ H _ _ v u Q I rx ry ⟨_, _, rfl, rfl, q⟩
  · cases px.str_of; cases py.str_of; cases e
    exact op_notin_str pins s σ H _ _ v u Q I rx ry ⟨_, _, rfl, rfl, q⟩
  · obtain ⟨h1, h2, h3, rfl⟩ := inOk_some e
    obtain ⟨as, r1⟩ := Rp.reads I _ _ _ px rx
    obtain ⟨bs, r2⟩ := Rp.reads I _ _ _ py ry
    exact SeqAt.in_list_data r2 r1 h2 h1 (room_in h3 hu) ⟨.bl _, H, I, rfl, q⟩
  · obtain ⟨h1, h2, h3, rfl⟩ := inOk_some e
    obtain ⟨as, r1⟩ := Rp.reads I _ _ _ px rx
    obtain ⟨bs, r2⟩ := Rp.reads I _ _ _ py ry
    exact SeqAt.in_tuple_data r2 r1 h2 h1 (room_in h3 hu) ⟨.bl _, H, I, rfl, q⟩
  · obtain ⟨h1, h2, h3, rfl⟩ := inOk_some e
    obtain ⟨as, r1⟩ := Rp.reads I _ _ _ px rx
    obtain ⟨bs, r2⟩ := Rp.reads I _ _ _ py ry
    exact SeqAt.notIn_list_data r2 r1 h2 h1 (room_in h3 hu) ⟨.bl _, H, I, rfl, q⟩
  · obtain ⟨h1, h2, h3, rfl⟩ := inOk_some e
    obtain ⟨as, r1⟩ := Rp.reads I _ _ _ px rx
    obtain ⟨bs, r2⟩ := Rp.reads I _ _ _ py ry
    exact SeqAt.notIn_tuple_data r2 r1 h2 h1 (room_in h3 hu) ⟨.bl _, H, I, rfl, q⟩
  · cases e
end
end Mi

/-! Mi: built-ins. -/
namespace Mi
open PySem PySem.Spec PyProof.Rows L2

/-! ### a dict takes a pair -/
section
variable {F : Hp}
abbrev keyI (p : Key × V) : Int := p.1.elim id fun _ => 0
structure DRel (F : Hp) (kvs : List (Int × PyData)) (ks : List (Key × V)) : Prop where
  k : kvs.map (·.1) = ks.map keyI
  i : ∀ p ∈ ks, ∃ i, p.1 = Sum.inl i
  v : RpL F (kvs.map (·.2)) (ks.map (·.2))
theorem DRel.any {kvs : List (Int × PyData)} {ks : List (Key × V)} (h : DRel F kvs ks) (k : Int) : (kvs.any fun p => decide (p.1 = k)) = ks.any fun p => decide (p.1 = Sum.inl k) := by
  obtain ⟨h1, h2, _⟩ := h
  induction ks generalizing kvs with
  | nil =>
    cases kvs with
    | nil => rfl
    | cons p r => simp at h1
  | cons q ks ih =>
    cases kvs with
    | nil => simp at h1
    | cons p r =>
      simp only [List.map_cons, List.cons.injEq] at h1
      obtain ⟨j, hj⟩ := h2 q List.mem_cons_self
      rw [List.any_cons, List.any_cons, ih h1.2 (fun x hx => h2 x (List.mem_cons_of_mem _ hx)) (by
        rename_i z
        rw [List.map_cons, List.map_cons] at z
        obtain ⟨_, _, e, _, z2⟩ := RpL.cons_iff.mp z
        cases e
        exact z2)]
      congr 1
      have e1 : p.1 = j := by rw [h1.1]; simp only [keyI, hj]; rfl
      rw [e1, hj]
      by_cases c : j = k
      · simp [c]
      · have : ¬ (Sum.inl j : Key) = Sum.inl k := fun z => c (Sum.inl.inj z)
        simp [c, this]
theorem DRel.map {kvs : List (Int × PyData)} {ks : List (Key × V)} (h : DRel F kvs ks) (k : Int) {x : PyData} {v : V} (r : Rp F x v) : DRel F (kvs.map fun p => if p.1 = k then (p.1, x) else p) (ks.map fun p => if p.1 = Sum.inl k then (p.1, v) else p) := by
  obtain ⟨h1, h2, h3⟩ := h
  induction ks generalizing kvs with
  | nil =>
    cases kvs with
    | nil => exact ⟨rfl, fun _ z => (nomatch z), RpL.nil_iff.mpr rfl⟩
    | cons p r => simp at h1
  | cons q ks ih =>
    cases kvs with
    | nil => simp at h1
    | cons p t =>
      simp only [List.map_cons, List.cons.injEq] at h1
      obtain ⟨j, hj⟩ := h2 q List.mem_cons_self
      rw [List.map_cons, List.map_cons] at h3
      obtain ⟨_, _, e, z1, z2⟩ := RpL.cons_iff.mp h3
      cases e
      obtain ⟨i1, i2, i3⟩ := ih h1.2 (fun x hx => h2 x (List.mem_cons_of_mem _ hx)) z2
      have e1 : p.1 = j := by rw [h1.1]; simp only [keyI, hj]; rfl
      by_cases c : j = k
      · subst c
        rw [List.map_cons, List.map_cons, if_pos e1, if_pos hj]
        refine ⟨?_, ?_, ?_⟩
        · rw [List.map_cons, List.map_cons, i1]
          congr 1
          exact h1.1
        · intro p' hp
          rcases List.mem_cons.mp hp with rfl | hp
          · exact ⟨j, hj⟩
          · exact i2 p' hp
        · rw [List.map_cons, List.map_cons]
          exact .cons r i3
      · have c' : ¬ q.1 = Sum.inl k := fun z => c (by rw [hj] at z; exact Sum.inl.inj z)
        rw [List.map_cons, List.map_cons, if_neg (by rw [e1]; exact c), if_neg c']
        refine ⟨?_, ?_, ?_⟩
        · rw [List.map_cons, List.map_cons, i1]
          congr 1
          exact h1.1
        · intro p' hp
          rcases List.mem_cons.mp hp with rfl | hp
          · exact ⟨j, hj⟩
          · exact i2 p' hp
        · rw [List.map_cons, List.map_cons]
          exact .cons z1 i3
theorem DRel.put {kvs : List (Int × PyData)} {ks : List (Key × V)} (h : DRel F kvs ks) (k : Int) {x : PyData} {v : V} (r : Rp F x v) : DRel F (dput kvs k x) (putK ks (Sum.inl k) v) := by
  unfold dput putK
  rw [h.any k]
  split
  · exact h.map k r
  · obtain ⟨h1, h2, h3⟩ := h
    refine ⟨?_, ?_, ?_⟩
    · rw [List.map_append, List.map_append, h1]
      rfl
    · intro p hp
      rcases List.mem_append.mp hp with hp | hp
      · exact h2 p hp
      · simp at hp
        rw [hp]
        exact ⟨k, rfl⟩
    · rw [List.map_append, List.map_append]
      exact h3.append (.cons r (RpL.nil_iff.mpr rfl))
end
/-- a built-in's question, of one argument, of two numbers -/
def rB1 (K : PySem.W.Frag) (er : Nat → V → Prop) (f : R → Hs → Option R) : List V → Hp → VK → Prop := fun vs H Q =>
  ∃ (m : List Addr) (F H0 : Hp) (hs : Hs) (x r : R) (v : V), vs = [v] ∧ Cells m F hs H ∧ RelR K er m F H0 H x v ∧ f x hs = some r ∧ ∀ v H', Gives F H r v H' → Q v H'
section
variable {K : PySem.W.Frag} {er : Nat → V → Prop} {m : List Addr} {F H0 H : Hp} {hs : Hs}
theorem lookD_cell {r : R} {v : V} {kvs : List (Int × PyData)} (c : Cells m F hs H) (rr : RelR K er m F H0 H r v) (e : lookD hs r = some kvs) : ∃ a, v = .ref a ∧ DRd F H a kvs := by
  unfold lookD at e
  split at e
  · rename_i n
    obtain ⟨a, h1, rfl⟩ := rr
    split at e
    · rename_i kvs' hc
      cases e
      exact ⟨a, rfl, .dct (c.cell n _ a hc h1)⟩
    · rename_i kvs' hc
      cases e
      exact ⟨a, rfl, .lck (c.cell n _ a hc h1)⟩
    · cases e
  · cases e
    obtain ⟨a, rfl, h1, _⟩ := rr
    exact ⟨a, rfl, .dct h1⟩
  · cases e
theorem keys_rp : ∀ {kvs : List (Int × PyData)} {ks : List (Key × V)}, kvs.map (·.1) = ks.map (fun p => p.1.elim id fun _ => 0) → (∀ p ∈ ks, ∃ i, p.1 = Sum.inl i) → RpL F (kvs.map fun p => .int p.1) (ks.map fun kv => kV kv.1)
  | [], [], _, _ => RpL.nil_iff.mpr rfl
  | [], _ :: _, h, _ => by simp at h
  | _ :: _, [], h, _ => by simp at h
  | p :: kvs, k :: ks, h, g => by
    simp only [List.map_cons, List.cons.injEq] at h
    obtain ⟨i, hi⟩ := g k List.mem_cons_self
    rw [List.map_cons, List.map_cons]
    refine .cons ?_ (keys_rp h.2 fun q hq => g q (List.mem_cons_of_mem _ hq))
    rw [h.1, hi]
    exact rp_int
theorem boolsD_vs : ∀ {xs : List PyData} {bs : List Bool} {vs : List V}, boolsD xs = some bs → RpL F xs vs → vs = bs.map V.bl
  | [], bs, vs, e, h => by
    simp only [boolsD, Option.some.injEq] at e
    subst e
    exact RpL.nil_iff.mp h
  | .bool b :: xs, bs, vs, e, h => by
    simp only [boolsD] at e
    cases q : boolsD xs with
    | none => rw [q] at e; cases e
    | some cs =>
      rw [q] at e
      cases e
      obtain ⟨v, r, rfl, h1, h2⟩ := RpL.cons_iff.mp h
      rw [h1.bool_of, boolsD_vs q h2]
      rfl
  | .none :: xs, bs, vs, e, h | .int _ :: xs, bs, vs, e, h | .str _ :: xs, bs, vs, e, h | .list _ :: xs, bs, vs, e, h | .tuple _ :: xs, bs, vs, e, h | .dict _ :: xs, bs, vs, e, h => by simp [boolsD] at e
theorem intsD_vs : ∀ {xs : List PyData} {bs : List Int} {vs : List V}, intsD xs = some bs → RpL F xs vs → vs = bs.map V.int
  | [], bs, vs, e, h => by
    simp only [intsD, Option.some.injEq] at e
    subst e
    exact RpL.nil_iff.mp h
  | .int b :: xs, bs, vs, e, h => by
    simp only [intsD] at e
    cases q : intsD xs with
    | none => rw [q] at e; cases e
    | some cs =>
      rw [q] at e
      cases e
      obtain ⟨v, r, rfl, h1, h2⟩ := RpL.cons_iff.mp h
      rw [h1.int_of, intsD_vs q h2]
      rfl
  | .none :: xs, bs, vs, e, h | .bool _ :: xs, bs, vs, e, h | .str _ :: xs, bs, vs, e, h | .list _ :: xs, bs, vs, e, h | .tuple _ :: xs, bs, vs, e, h | .dict _ :: xs, bs, vs, e, h => by simp [intsD] at e
theorem upto_rp : ∀ (n : Nat) (lo : Int), RpL F (upto lo n) ((List.range n).map fun i => V.int (lo + (i : Nat)))
  | 0, lo => RpL.nil_iff.mpr rfl
  | n + 1, lo => by
    rw [List.range_succ_eq_map, List.map_cons, List.map_map]
    have e0 : lo + ((0 : Nat) : Int) = lo := by omega
    rw [e0]
    refine .cons rp_int ?_
    have := upto_rp n (lo + 1)
    have e : (List.map ((fun i : Nat => V.int (lo + (i : Int))) ∘ Nat.succ) (List.range n)) = (List.range n).map fun i => V.int (lo + 1 + (i : Nat)) := by
      refine List.map_congr_left fun i _ => ?_
      show V.int _ = V.int _
      congr 1
      simp only [Nat.succ_eq_add_one]
      omega
    rw [e]
    exact this
end
section
variable {X : Cx} {er : Nat → V → Prop}
theorem script_sub {F H : Hp} (sub : Sub F (dn H)) {a : Addr} {vs : List V} (h : SqL X.K F a vs) : SqL X.K H a vs := by
  rcases h with (h | ⟨o, h⟩) | h
  · exact .inl (.inl (dn_of (sub _ _ h) fun _ z => nomatch z))
  · exact .inl (.inr ⟨o, dn_of (sub _ _ h) fun _ z => nomatch z⟩)
  · exact .inr h
theorem call_lenR : CallR X (.builtin "len") (fun xs H Q => ∃ a kvs, xs = [V.ref a] ∧ Rd H a (.dK kvs) ∧ Q (.int kvs.length) H) := by
  rintro pins s σ H _ us Q I ru ⟨a, kvs, rfl, h1, q⟩
  rw [Vals.ref1 ru]
  exact d_len I h1 fun t s' I' => ⟨.int kvs.length, H, I', ⟨t, rfl⟩, q⟩
theorem call_lenM : CallR X (.builtin "len") (rB1 X.K er lenO) := by
  intro pins s σ H vs us Q I ru h
  obtain ⟨m, F, H0, hs, r, res, v, rfl, c, rv, e, q⟩ := h
  unfold lenO at e
  split at e
  · rename_i ns
    cases e
    obtain ⟨a, rfl, hq⟩ := rv
    refine call_len_seq pins s σ H _ us Q I ru ⟨a, _, rfl, .inl (script_sub c.frz hq), ?_⟩
    rw [List.length_map]
    exact q _ _ gives_int
  · split at e
    · rename_i kvs hk
      split at e
      · cases e
        obtain ⟨a, rfl, ks, h1, h2, h3, h4⟩ := lookD_cell c rv hk
        refine call_lenR pins s σ H _ us Q I ru ⟨a, ks, rfl, h1, ?_⟩
        have hl : kvs.length = ks.length := by
          have := congrArg List.length h2
          simpa using this
        rw [← hl]
        exact q _ _ gives_int
      · cases e
    · split at e
      · rename_i xs hl
        cases e
        obtain ⟨a, vs, rfl, h1, h2⟩ := look_lk c rv hl
        refine call_len_seq pins s σ H _ us Q I ru ⟨a, vs, rfl, .inl (SqL.of h1), ?_⟩
        rw [h2.length]
        exact q _ _ gives_int
      · rename_i xs hl
        cases e
        obtain ⟨a, vs, rfl, h1, h2⟩ := Rp.tuple_iff.mp (look_lk c rv hl)
        refine call_len_seq pins s σ H _ us Q I ru ⟨a, vs, rfl, .inr (SqT.dn (c.frz _ _ h1)), ?_⟩
        rw [h2.length]
        exact q _ _ gives_int
      · rename_i x hl
        split at e
        · rename_i hz
          cases e
          cases (Rp.str_of (F := F) (look_lk c rv hl))
          exact call_len_str pins s σ H _ us Q I ru ⟨x, rfl, line_le hz, q _ _ gives_int⟩
        · cases e
      · cases e
theorem call_allM (hc : X.calm = true) : CallR X (.builtin "all") (rB1 X.K er allO) := by
  intro pins s σ H vs us Q I ru h
  obtain ⟨m, F, H0, hs, r, res, v, rfl, c, rv, e, q⟩ := h
  unfold allO at e
  split at e
  · rename_i xs hl
    cases hb : boolsD xs with
    | none => rw [hb] at e; cases e
    | some bs =>
      rw [hb] at e
      cases e
      obtain ⟨a, vs, rfl, h1, h2⟩ := look_lk c rv hl
      have := boolsD_vs hb h2
      subst this
      exact cr_all hc pins s σ H _ us Q I ru ⟨a, bs, rfl, SqL.of h1, q _ _ gives_bool⟩
  · cases e
theorem call_anyM (hc : X.calm = true) : CallR X (.builtin "any") (rB1 X.K er anyO) := by
  intro pins s σ H vs us Q I ru h
  obtain ⟨m, F, H0, hs, r, res, v, rfl, c, rv, e, q⟩ := h
  unfold anyO at e
  split at e
  · rename_i xs hl
    cases hb : boolsD xs with
    | none => rw [hb] at e; cases e
    | some bs =>
      rw [hb] at e
      cases e
      obtain ⟨a, vs, rfl, h1, h2⟩ := look_lk c rv hl
      have := boolsD_vs hb h2
      subst this
      exact cr_any hc pins s σ H _ us Q I ru ⟨a, bs, rfl, SqL.of h1, q _ _ gives_bool⟩
  · cases e
theorem call_tupleM : CallR X (.type "tuple") (rB1 X.K er tupleO) := by
  intro pins s σ H vs us Q I ru h
  obtain ⟨m, F, H0, hs, r, res, v, rfl, c, rv, e, q⟩ := h
  unfold tupleO at e
  split at e
  · rename_i xs hl
    cases e
    obtain ⟨a, vs, rfl, h1, h2⟩ := look_lk c rv hl
    exact call_tupleK pins s σ H _ us Q I ru ⟨a, vs, rfl, .inl ⟨SqL.of h1, fun l o hl hd => q _ _ (.inr ⟨_, l, vs, o, rfl, rfl, hl, hd, rfl, h2⟩)⟩⟩
  · rename_i xs hl
    cases e
    obtain ⟨a, vs, rfl, h1, h2⟩ := Rp.tuple_iff.mp (look_lk c rv hl)
    exact call_tupleK pins s σ H _ us Q I ru ⟨a, vs, rfl, .inr ⟨SqT.dn (c.frz _ _ h1), q _ _ (.inl ⟨rfl, Rp.tuple_iff.mpr ⟨a, vs, rfl, h1, h2⟩⟩)⟩⟩
  · cases e
theorem call_listM (hc : X.calm = true) : CallR X (.type "list") (rB1 X.K er listO) := by
  intro pins s σ H vs us Q I ru h
  obtain ⟨m, F, H0, hs, r, res, v, rfl, c, rv, e, q⟩ := h
  unfold listO at e
  split at e
  · rename_i kvs hk
    cases e
    obtain ⟨a, rfl, ks, h1, h2, h3, h4⟩ := lookD_cell c rv hk
    refine call_listD hc pins s σ H _ us Q I ru ⟨a, ks, rfl, h1, fun p hp => q _ _ ⟨p, _, rfl, hp, rfl, keys_rp h2 h3⟩⟩
  · split at e
    · rename_i xs hl
      cases e
      obtain ⟨a, vs, rfl, h1, h2⟩ := look_lk c rv hl
      exact call_list_of pins s σ H _ us Q I ru ⟨a, vs, rfl, .inl (SqL.of h1), fun l hl => q _ _ ⟨l, vs, rfl, hl, rfl, h2⟩⟩
    · rename_i xs hl
      cases e
      obtain ⟨a, vs, rfl, h1, h2⟩ := Rp.tuple_iff.mp (look_lk c rv hl)
      exact call_list_of pins s σ H _ us Q I ru ⟨a, vs, rfl, .inr (SqT.dn (c.frz _ _ h1)), fun l hl => q _ _ ⟨l, vs, rfl, hl, rfl, h2⟩⟩
    · cases e
theorem DRel.nil {F : Hp} : DRel F [] [] := ⟨rfl, fun _ z => (nomatch z), RpL.nil_iff.mpr rfl⟩
theorem pairsD_vs {F : Hp} : ∀ {xs : List PyData} {kvs : List (Int × PyData)} {vs : List V}, pairsD xs = some kvs → RpL F xs vs → ∃ (ps : List Addr) (ks : List (Key × V)), vs = ps.map V.ref ∧ Paired (fun p kv => F p = some (.tup [kV kv.1, kv.2])) ps ks ∧ DRel F kvs ks
  | [], kvs, vs, e, h => by
    simp only [pairsD, Option.some.injEq] at e
    subst e
    exact ⟨[], [], RpL.nil_iff.mp h, .nil, .nil⟩
  | x :: xs, kvs, vs, e, h => by
    unfold pairsD at e
    split at e
    · rename_i z; cases z
    · rename_i k y r z
      cases z
      cases q : pairsD xs with
      | none => rw [q] at e; cases e
      | some kvs' =>
        rw [q] at e
        cases e
        obtain ⟨v, r, rfl, h1, h2⟩ := RpL.cons_iff.mp h
        obtain ⟨ps, ks, e1, e2, e3⟩ := pairsD_vs q h2
        obtain ⟨a, ws, rfl, h3, h4⟩ := Rp.tuple_iff.mp h1
        obtain ⟨w1, r1, rfl, g1, g2⟩ := RpL.cons_iff.mp h4
        obtain ⟨w2, r2, rfl, g3, g4⟩ := RpL.cons_iff.mp g2
        obtain rfl := RpL.nil_iff.mp g4
        obtain rfl := g1.int_of
        refine ⟨a :: ps, (Sum.inl k, w2) :: ks, by rw [e1]; rfl, .cons h3 e2, ?_, fun p hp => ?_, .cons g3 e3.v⟩
        · rw [List.map_cons, List.map_cons, e3.k]
          rfl
        · rcases List.mem_cons.mp hp with rfl | hp
          · exact ⟨k, rfl⟩
          · exact e3.i p hp
    · cases e
theorem puts_rel {F : Hp} : ∀ {kvs acc : List (Int × PyData)} {ks aks : List (Key × V)}, DRel F kvs ks → DRel F acc aks → DRel F (kvs.foldl (fun acc p => dput acc p.1 p.2) acc) (mergeK aks ks)
  | [], acc, ks, aks, h, g => by
    have : ks = [] := by have := h.k; simpa using this.symm
    subst this
    exact g
  | p :: kvs, acc, [], aks, h, g => by have := h.k; simp at this
  | p :: kvs, acc, q :: ks, aks, h, g => by
    have hk := h.k
    simp only [List.map_cons, List.cons.injEq] at hk
    obtain ⟨j, hj⟩ := h.i q List.mem_cons_self
    have hv := h.v
    rw [List.map_cons, List.map_cons] at hv
    obtain ⟨_, _, e, z1, z2⟩ := RpL.cons_iff.mp hv
    cases e
    have e1 : p.1 = j := by rw [hk.1, keyI, hj]; rfl
    have g2 := g.put j z1
    rw [List.foldl_cons, e1]
    show DRel F _ (mergeK (putK aks q.1 q.2) ks)
    rw [hj]
    exact puts_rel ⟨hk.2, fun x hx => h.i x (List.mem_cons_of_mem _ hx), z2⟩ g2
theorem call_dictM (hc : X.calm = true) : CallR X (.type "dict") (rB1 X.K er dictO) := by
  intro pins s σ H vs us Q I ru h
  obtain ⟨m, F, H0, hs, r, res, v, rfl, c, rv, e, q⟩ := h
  unfold dictO at e
  split at e
  · rename_i kvs hk
    cases e
    obtain ⟨a, rfl, ks, h1, h2, h3, h4⟩ := lookD_cell c rv hk
    exact call_dictD pins s σ H _ us Q I ru ⟨a, ks, rfl, h1, fun p hp => q _ _ ⟨p, ks, rfl, hp, rfl, ks, upd_same, h2, h3, h4⟩⟩
  · split at e
    · rename_i xs hl
      cases hp : pairsD xs with
      | none => rw [hp] at e; cases e
      | some kvs =>
        rw [hp] at e
        cases e
        obtain ⟨a, vs, rfl, h1, h2⟩ := look_lk c rv hl
        obtain ⟨ps, ks, rfl, h3, h4⟩ := pairsD_vs hp h2
        obtain ⟨k1, k2, k3⟩ := puts_rel h4 .nil
        refine call_dictP hc pins s σ H _ us Q I ru ⟨a, ps, ks, rfl, SqL.of h1, Paired.mapP h3 fun p kv z => SqT.dn (c.frz _ _ z), fun p hp => q _ _ ⟨p, _, rfl, hp, rfl, _, upd_same, k1, k2, k3⟩⟩
    · cases e
theorem call_intM : CallR X (.type "int") (rB1 X.K er intO) := by
  intro pins s σ H vs us Q I ru h
  obtain ⟨m, F, H0, hs, r, res, v, rfl, c, rv, e, q⟩ := h
  unfold intO at e
  split at e
  · rename_i i
    cases e
    cases (Rp.int_of (F := F) rv)
    exact call_int1 pins s σ H _ us Q I ru (.inl ⟨i, rfl, q _ _ gives_int⟩)
  · rename_i b
    cases e
    cases (Rp.bool_of (F := F) rv)
    exact call_int1 pins s σ H _ us Q I ru (.inr ⟨b, rfl, q _ _ gives_int⟩)
  · rename_i x
    split at e
    · rename_i n hn
      split at e
      · rename_i hz
        cases e
        cases (Rp.str_of (F := F) rv)
        exact call_int_str pins s σ H _ us Q I ru ⟨x, n, rfl, hn, hz, q _ _ gives_int⟩
      · cases e
    · cases e
  · cases e
theorem call_strM : CallR X (.type "str") (rB1 X.K er strO) := by
  intro pins s σ H vs us Q I ru h
  obtain ⟨m, F, H0, hs, r, res, v, rfl, c, rv, e, q⟩ := h
  unfold strO at e
  split at e
  · rename_i i
    split at e
    · rename_i hz
      cases e
      cases (Rp.int_of (F := F) rv)
      exact call_str_int pins s σ H _ us Q I ru ⟨i, rfl, hz, q _ _ gives_str⟩
    · cases e
  · cases e
theorem sum_tuple (hc : X.calm = true) {pins : List (Addr × Obj)} {σ : L2.St} {H : Hp} {s : Shared} {a : Addr} {bs : List Int} {us : List Value} {Q : VK} (I : Inv X pins σ H s) (h : SqT X.K H a (bs.map V.int)) (ru : Vals [.ref a] us) (q : Q (.int bs.sum) H) :
    wpAny (model X.prog X.w) X.A (call (.builtin "sum") us) (EP X pins σ Q) X.xe s := by
  obtain ⟨its, rv, hl, _⟩ := I.tuple h
  rw [Vals.ref1 ru]
  have hi : IntsAre its bs := rv.ints
  obtain ⟨xs, hx⟩ := hi.allInts.items
  have hn : numsOf (intItems xs).toList = bs := by rw [← hx]; exact hi.numsOf
  rw [nums_intItems] at hn
  rw [hx] at hl
  refine PySem.W.ktm_sumG (I.ok.hd hc) hl fun h' tk t' hk => ?_
  refine ⟨.int bs.sum, H, I.kept (t' := tk) hk, ⟨t', ?_⟩, q⟩
  rw [preSum_eq, List.take_of_length_le (by simp), hn]
theorem call_sumM (hc : X.calm = true) : CallR X (.builtin "sum") (rB1 X.K er sumO) := by
  intro pins s σ H vs us Q I ru h
  obtain ⟨m, F, H0, hs, r, res, v, rfl, c, rv, e, q⟩ := h
  unfold sumO at e
  split at e
  · rename_i xs hl
    cases hb : intsD xs with
    | none => rw [hb] at e; cases e
    | some bs =>
      rw [hb] at e
      cases e
      obtain ⟨a, vs, rfl, h1, h2⟩ := look_lk c rv hl
      have := intsD_vs hb h2
      subst this
      exact cr_sum hc pins s σ H _ us Q I ru ⟨a, bs, rfl, SqL.of h1, q _ _ gives_int⟩
  · rename_i xs hl
    cases hb : intsD xs with
    | none => rw [hb] at e; cases e
    | some bs =>
      rw [hb] at e
      cases e
      obtain ⟨a, vs, rfl, h1, h2⟩ := Rp.tuple_iff.mp (look_lk c rv hl)
      have := intsD_vs hb h2
      subst this
      exact sum_tuple hc I (SqT.dn (c.frz _ _ h1)) ru (q _ _ gives_int)
  · cases e
end
end Mi

/-! Mi: sorting tuples, the empty one ahead. -/
namespace Mi
open PySem PyProof.Rows PySem.W PySem.SeqAt PySem.Calls

section
variable {prog : Program} {w : World} {A : Around} {E : Value → Shared → Prop} {s : Shared}
/-- one tuple against another, as sorting asks it of keys of one type -/
theorem oneLt_tups {xs ys : List PyData} {a b : Value} {as bs : List Addr} {Q : Bool → Shared → Prop} (ra : Reads s.heap a (.tuple xs) as) (rb : Reads s.heap b (.tuple ys) bs) (h : alike (.tuple xs) (.tuple ys) = true)
    (hu : A.units + min (PyData.tuple xs).depth (PyData.tuple ys).depth < cLine) (hq : Q (dataLt (.tuple xs) (.tuple ys)) s) : wpAny (model prog w) A (oneLt' true a b) Q E s := by
  have hal : alikeAll xs ys = true := by simpa [alike] using h
  cases ra with
  | @tuple l o vs n _ _ h1 h2 h3 h4 =>
    cases rb with
    | @tuple l' o' vs' n' _ _ k1 k2 k3 k4 =>
      have n1 : vs.size = xs.length := by simpa using ReadsAll.length _ _ _ h4
      have n2 : vs'.size = ys.length := by simpa using ReadsAll.length _ _ _ k4
      rw [dataLt_tuple, ← firstLt_toks xs ys hal, ← n1, ← n2] at hq
      rw [oneLt'_eq]
      simp only [if_true]
      obtain ⟨cls, dd, data, sl⟩ := o
      obtain ⟨cls2, dd2, data2, sl2⟩ := o'
      simp only at h2 h3 k2 k3
      subst h2 h3 k2 k3
      refine wpAny_bind (wpAny_cRoomFor (PySem.SeqAt.room_here hu) ?_)
      refine wpAny_bind (wpAny_callSpecialIfBound?_slot (T := "tuple") ⟨_, h1, rfl⟩ F.slot_tuple_lt (call_meets F.slot_tuple_lt ⟨_, h1, rfl⟩ F.entry_tuple_lt (F.args_tuple_lt_2 _ _) (tuple_ltAt _ _ vs vs' _ _ _ _ _ _ (pairEq xs ys) (fun j => dataLt (xs.getD j .none) (ys.getD j .none))) ⟨h1, k1, fun j j1 j2 => ?_, fun j j1 j2 hj => ?_, ?_⟩))
      · have := eqAt_alikeAll xs ys A.in1 s vs.toList vs'.toList _ _ h4 k4 hal (PySem.SeqAt.room_in hu) j (by simpa using j1) (by simpa using j2)
        simpa using this
      · have := rcLt_alikeAll xs ys A.in1 s vs.toList vs'.toList _ _ h4 k4 hal (PySem.SeqAt.room_in hu) j (by simpa using j1) (by simpa using j2) hj
        simpa using this
      · exact wpAny_truthy_bool hq
/-- the first items of tuples, whatever they are -/
theorem firsts_tups {M : Model} : ∀ {vs : List Value} {ds : List PyData}, EachIs (fun v d => ∃ as, Reads s.heap v d as) vs ds → (∀ d ∈ ds, ∃ xs, d = .tuple xs) →
    ∃ fs : List (Option Value), (∀ r, ds = .tuple [] :: r → ∃ t, fs = none :: t) ∧ ∀ {Q : List (Option Value) → Shared → Prop}, Q fs s → wpAny M A (vs.mapM firstOfTuple') Q E s
  | _, _, .nil, _ => ⟨[], fun _ z => (nomatch z), fun h => by rw [List.mapM_nil]; exact wpAny_pure h⟩
  | _, _, .cons (a := v) (as := vs) (b := d) (bs := ds) ⟨as, r⟩ t, ht => by
    obtain ⟨fs, -, hq⟩ := firsts_tups t fun d hd => ht d (List.mem_cons_of_mem _ hd)
    obtain ⟨xs, rfl⟩ := ht d List.mem_cons_self
    cases r with
    | @tuple a o items n _ _ h1 h2 h3 h4 =>
      refine ⟨items[0]? :: fs, fun rr e => ?_, fun {Q} h => ?_⟩
      · cases e
        have hl := ReadsAll.length _ _ _ h4
        have : items.size = 0 := by simpa using hl
        exact ⟨fs, by rw [Array.getElem?_eq_none (by omega)]⟩
      · rw [List.mapM_cons]
        refine wpAny_bind ?_
        rw [kas_first_eq]
        refine wpAny_bind (Looks.here (show Looks M s.heap (typeOf (.ref a)) o.cls from (Looks.ld h1).andThen .now) ?_)
        rw [h2, if_neg (by first | decide | simp)]
        refine wpAny_bind (listItems_at h1 h3 (wpAny_pure ?_))
        exact wpAny_bind (hq (Q := fun bs s' => wpAny M A (pure (items[0]? :: bs)) Q E s') (wpAny_pure h))
theorem kind_tups {M : Model} {vs : List Value} {ds : List PyData} {Q : SortKind → Shared → Prop} (e : EachIs (fun v d => ∃ as, Reads s.heap v d as) vs ds) (ht : ∀ d ∈ ds, ∃ xs, d = .tuple xs) {r : List PyData} (h0 : ds = .tuple [] :: r) (h : Q oneType' s) : wpAny M A (keyKind' vs.toArray) Q E s := by
  obtain ⟨fs, h1, hq⟩ := firsts_tups (M := M) (A := A) (E := E) e ht
  obtain ⟨t, rfl⟩ := h1 r h0
  have hT : ∀ v ∈ vs, Looks M s.heap (typeOf v) (.type "tuple") := fun v hv => by
    obtain ⟨d, hd, as, rd⟩ := e.left v hv
    obtain ⟨xs, rfl⟩ := ht d hd
    exact looks_reads (M := M) rd
  obtain ⟨v₁, rest, rfl⟩ : ∃ v₁ rest, vs = v₁ :: rest := by
    cases e with
    | nil => cases h0
    | cons => exact ⟨_, _, rfl⟩
  rw [kat_kind_eq, List.mapM_toArray, map_eq_pure_bind]
  refine wpAny_bind (wpAny_bind (hq (wpAny_pure ?_)))
  rw [if_neg (by simp), if_neg (by simp)]
  rw [oneTypeOnly'_eq, List.mapM_toArray, map_eq_pure_bind]
  refine wpAny_bind (wpAny_bind (wpAny_bind (kas_mapM (r := .type "tuple") _ (fun v hv Q' hq => (hT v hv).here hq) (wpAny_pure ?_))))
  have hall : ((List.map (fun _ => Value.type "tuple") (v₁ :: rest)).toArray.all fun x => x == Value.type "tuple") = true := by
    simp only [List.all_toArray, List.all_map, List.all_eq_true]
    intro _ _
    rfl
  have h0 : (List.map (fun _ => Value.type "tuple") (v₁ :: rest)).toArray[0]? = some (Value.type "tuple") := by simp
  rw [h0]
  simp only [hall, if_true]
  exact wpAny_pure (wpAny_pure h)
/-- tuples, the first of which is empty, can be sorted -/
theorem sorts_tups {vs : List Value} {ds : List PyData} (e : EachIs (fun v d => ∃ as, Reads s.heap v d as) vs ds) (hal : AllAlike ds) (ht : ∀ d ∈ ds, ∃ xs, d = .tuple xs) {r : List PyData} (h0 : ds = .tuple [] :: r) (hu : ∀ d, d ∈ ds → A.units + d.depth < cLine) : SortsAt prog w A s (dataKind s.heap ds) vs := by
  have room : ∀ {d d' : PyData}, d ∈ ds → A.units + min d.depth d'.depth < cLine := fun {d d'} hd => Nat.lt_of_le_of_lt (Nat.add_le_add_left (Nat.min_le_left _ _) _) (hu d hd)
  refine ⟨fun v hv => ?_, oneType', fun E x y a b Q ha hb hq => ?_, fun _ E Q hq => kind_tups e ht h0 hq⟩
  · obtain ⟨d, hd, as, rr⟩ := e.left v hv
    exact ⟨_, dataKind_some hal hd rr⟩
  · obtain ⟨d, as, hd, ra, rfl⟩ := dataKind_inv ha
    obtain ⟨d', as', hd', rb, rfl⟩ := dataKind_inv hb
    obtain ⟨xs, rfl⟩ := ht d hd
    obtain ⟨ys, rfl⟩ := ht d' hd'
    rw [keyLt'_oneType]
    exact oneLt_tups ra rb (hal _ hd _ hd') (room hd) hq
end
end Mi

/-! Mi: built-ins that order. -/
namespace Mi
open PySem PySem.Spec PyProof.Rows L2

theorem leD_trans (a b c : PyData) (h1 : leD a b = true) (h2 : leD b c = true) : leD a c = true := by
  simp only [leD, PySem.W.dataLt, Bool.not_eq_true'] at h1 h2 ⊢
  cases h3 : PyProof.Rows.lexLt PyProof.Rows.itemOrd (PySem.W.keyToks c) (PySem.W.keyToks a) with
  | false => rfl
  | true =>
    rcases (PyProof.Rows.listOrd PyProof.Rows.itemOrd).negTrans (PySem.W.keyToks c) (PySem.W.keyToks b) (PySem.W.keyToks a) h3 with z | z
    · rw [show PyProof.Rows.lexLt PyProof.Rows.itemOrd (PySem.W.keyToks c) (PySem.W.keyToks b) = true from z] at h2
      cases h2
    · rw [show PyProof.Rows.lexLt PyProof.Rows.itemOrd (PySem.W.keyToks b) (PySem.W.keyToks a) = true from z] at h1
      cases h1
theorem leD_total (a b : PyData) : (leD a b || leD b a) = true := by
  simp only [leD, PySem.W.dataLt, Bool.or_eq_true, Bool.not_eq_true']
  cases h1 : PyProof.Rows.lexLt PyProof.Rows.itemOrd (PySem.W.keyToks b) (PySem.W.keyToks a) with
  | false => exact .inl rfl
  | true =>
    refine .inr ?_
    rw [Bool.eq_false_iff]
    intro h2
    have := (PyProof.Rows.listOrd PyProof.Rows.itemOrd).trans _ _ _ h1 h2
    rw [(PyProof.Rows.listOrd PyProof.Rows.itemOrd).irrefl] at this
    cases this
theorem insD_mid (a : PyData) : ∀ {l₁ l₂ : List PyData}, (∀ b ∈ l₁, leD a b = false) → (∀ b ∈ l₂, leD a b = true) → insD a (l₁ ++ l₂) = l₁ ++ a :: l₂
  | [], [], _, _ => rfl
  | [], b :: l₂, _, h => by simp [insD, h b List.mem_cons_self]
  | b :: l₁, l₂, h, h2 => by
    have := insD_mid a (l₁ := l₁) (l₂ := l₂) (fun c hc => h c (List.mem_cons_of_mem _ hc)) h2
    simp [insD, h b List.mem_cons_self, this]
theorem sortD_eq : ∀ xs : List PyData, sortD xs = xs.mergeSort leD
  | [] => by simp [sortD]
  | a :: l => by
    obtain ⟨l₁, l₂, e1, e2, h⟩ := List.mergeSort_cons leD_trans leD_total a l
    rw [sortD, sortD_eq l, e2, e1]
    have p := List.pairwise_mergeSort leD_trans leD_total (a :: l)
    rw [e1] at p
    refine insD_mid a (fun b hb => by simpa using h b hb) fun b hb => ?_
    exact (List.pairwise_cons.mp (List.pairwise_append.mp p).2.1).1 b hb
section
variable {X : Cx} {er : Nat → V → Prop}
/-- values beside data -/
def VD (F : Hp) (v : Value) (d : PyData) : Prop := ∃ w : V, RelV w v ∧ Rp F d w
theorem each_vd {F : Hp} : ∀ {ds : List PyData} {ws : List V} {vs : List Value}, RpL F ds ws → Vals ws vs → PySem.W.EachIs (VD F) vs ds
  | [], ws, vs, h, r => by
    rw [RpL.nil_iff.mp h] at r
    cases r
    exact .nil
  | d :: ds, ws, vs, h, r => by
    obtain ⟨w, t, rfl, h1, h2⟩ := RpL.cons_iff.mp h
    cases r with
    | cons r1 r2 => exact .cons ⟨w, r1, h1⟩ (each_vd h2 r2)
theorem vd_each {F : Hp} : ∀ {ds : List PyData} {vs : List Value}, PySem.W.EachIs (VD F) vs ds → ∃ ws, RpL F ds ws ∧ Vals ws vs
  | _, _, .nil => ⟨[], RpL.nil_iff.mpr rfl, .nil⟩
  | _, _, .cons ⟨w, r1, h1⟩ t => by
    obtain ⟨ws, h2, r2⟩ := vd_each t
    exact ⟨w :: ws, .cons h1 h2, .cons r1 r2⟩
theorem each_reads {pins : List (Addr × Obj)} {σ : L2.St} {F H : Hp} {s : Shared} (I : Inv X pins σ H s) (sb : Sub F (dn H)) {vs : List Value} {ds : List PyData} (e : PySem.W.EachIs (VD F) vs ds) : PySem.W.EachIs (fun v d => ∃ as, Reads s.heap v (id d) as) vs ds :=
  e.mono fun v d ⟨w, r, h⟩ => Rp.reads I d w v (Rp.sub sb _ _ h) r
theorem ordOk_i {xs : List PyData} (h : ordOk xs = true) : (∀ x ∈ xs, ∀ y ∈ xs, PySem.W.alike x y = true) ∧ ∀ x ∈ xs, x.depth ≤ 64 ∧ x ≠ .none := by
  cases xs with
  | nil => exact ⟨fun _ z => (nomatch z), fun _ z => (nomatch z)⟩
  | cons x xs =>
    unfold ordOk at h
    rw [Bool.and_eq_true] at h
    refine ⟨fun a ha b hb => ?_, fun a ha => ?_⟩
    · exact List.all_eq_true.mp (List.all_eq_true.mp h.1 a ha) b hb
    · have := List.all_eq_true.mp h.2 a ha
      rw [Bool.and_eq_true] at this
      exact ⟨of_decide_eq_true this.1, nn_ne this.2⟩
theorem sortOk_i {xs : List PyData} (h : sortOk xs = true) : PySem.W.AllAlike xs ∧ (PySem.W.Sortable xs ∨ ((∃ r, xs = .tuple [] :: r) ∧ ∀ d ∈ xs, ∃ ys, d = .tuple ys)) ∧ ∀ x ∈ xs, x.depth ≤ 64 := by
  unfold sortOk at h
  rw [Bool.and_eq_true] at h
  obtain ⟨h1, h2⟩ := ordOk_i h.1
  refine ⟨h1, ?_, fun x hx => (h2 x hx).1⟩
  have h3 := h.2
  rw [Bool.or_eq_true, Bool.or_eq_true] at h3
  rcases h3 with (h3 | h3) | h3
  · refine .inl (.inl fun d hd => ?_)
    have := List.all_eq_true.mp h3 d hd
    unfold hasItem at this
    split at this
    · exact ⟨_, _, rfl⟩
    · cases this
  · refine .inl (.inr fun d hd => ⟨(h2 d hd).2, fun xs z => ?_⟩)
    have := List.all_eq_true.mp h3 d hd
    rw [z] at this
    cases this
  · rw [Bool.and_eq_true] at h3
    refine .inr ⟨?_, fun d hd => ?_⟩
    · have := h3.1
      unfold emptyFirst at this
      split at this
      · exact ⟨_, rfl⟩
      · cases this
    · have := List.all_eq_true.mp h3.2 d hd
      cases d with
      | tuple ys => exact ⟨ys, rfl⟩
      | _ => cases this
/-- a list's or a tuple's items, sorted into a new list -/
theorem sorted_any {pins : List (Addr × Obj)} {σ : L2.St} {F H : Hp} {s : Shared} {a : Addr} {o : Obj} {n : Nat} {T : String} {ds : List PyData} {ws : List V} {its : List Value} {Q : VK} (hu : X.A.units + 200 < cLine) (I : Inv X pins σ H s) (sb : Sub F (dn H)) (hT : T = "list" ∨ T = "tuple") (ho : s.heap.get? a = some o) (hc : o.cls = .type T) (hd : o.data = .seq its.toArray n)
    (rv : Vals ws its) (hz : ws.length ≤ sizeLine) (rp : RpL F ds ws) (so : sortOk ds = true) (q : ∀ p vs, H p = none → RpL F (sortD ds) vs → Q (.ref p) (upd H p (.lst vs))) : wpAny (model X.prog X.w) X.A (call (.builtin "sorted") [.ref a]) (EP X pins σ Q) X.xe s := by
  obtain ⟨g1, g2, g3⟩ := sortOk_i so
  have lz : its.length ≤ sizeLine := rv.length ▸ hz
  refine Calls.call_function_entry kind_sorted plain_sorted entry_sorted (args_sorted1 _) ?_
  unfold Builtin.«sorted»
  refine wpAny_bind (m := checkCount "sorted" 1 1 _) (wpAny_pure ?_)
  refine wpAny_bind (wpAny_collect_seq a hT ho hc hd (fun h' hk => ?_) (by simpa using lz))
  rw [List.toList_toArray]
  refine wpAny_bind (wpAny_newList ?_ lz)
  have ev := each_vd rp rv
  have hp : (h'.push (seqObj "list" its.toArray 0)).get? h'.objs.size = some (seqObj "list" its.toArray 0) := Heap.get?_push_size _ rfl
  have er : PySem.W.EachIs (fun v d => ∃ as, Reads (PySem.W.sortingHeap (h'.push (seqObj "list" its.toArray 0)) h'.objs.size its) v (id d) as) its ds := (each_reads I sb ev).mono fun _ _ ⟨as, r⟩ => ⟨as, PyProof.Rows.Reads.keeps (fun b u e => PySem.W.sortingHeap_old (Nat.ne_of_lt (Heap.lt_size (hk b u e))) (Heap.get?_push_of_some _ (hk b u e))) r⟩
  have S : PySem.W.SortsAt X.prog X.w X.A.in1.in1 { s with heap := PySem.W.sortingHeap (h'.push (seqObj "list" its.toArray 0)) h'.objs.size its } (PySem.W.dataKind (PySem.W.sortingHeap (h'.push (seqObj "list" its.toArray 0)) h'.objs.size its) ds) its := by
    have hu2 : ∀ d, d ∈ ds → X.A.in1.in1.units + d.depth < cLine := fun d hd => by
      have := g3 d hd
      show X.A.units + 2 + d.depth < cLine
      omega
    rcases g2 with g2 | ⟨⟨r, g2⟩, g4⟩
    · exact PySem.W.SortsAt.data (prog := X.prog) (w := X.w) (A := X.A.in1.in1) (s := { s with heap := PySem.W.sortingHeap (h'.push (seqObj "list" its.toArray 0)) h'.objs.size its }) (vs := its) (ds := ds) er g1 g2 hu2
    · exact sorts_tups (prog := X.prog) (w := X.w) (A := X.A.in1.in1) (s := { s with heap := PySem.W.sortingHeap (h'.push (seqObj "list" its.toArray 0)) h'.objs.size its }) (vs := its) (ds := ds) er g1 g4 g2 hu2
  refine wpAny_bind (wpAny_holding (wpAny_call_entry slot_list_sort ⟨_, hp, rfl⟩ entry_list_sort (PySem.W.list_sort_vals (s := { s with heap := h'.push (seqObj "list" its.toArray 0) }) hp S lz ⟨_, rfl, wpAny_pure ⟨_, rfl, ?_⟩⟩) (args_list_sort _)))
  have e := PySem.W.sortVals_data false ev er (by rw [List.map_id]; exact g1)
  rw [List.map_id] at e
  have hl := PySem.W.sortVals_length (κ := PySem.W.dataKind (PySem.W.sortingHeap (h'.push (seqObj "list" its.toArray 0)) h'.objs.size its) ds) false (ks := its) (vs := its) rfl
  generalize PySem.W.sortVals _ _ _ _ = out at e hl ⊢
  obtain ⟨vs, h1, h2⟩ := vd_each (ds := sortD ds) (by rw [sortD_eq]; exact e)
  obtain ⟨ep, he'⟩ := sortedHeap_at (vs := its) (out := out.toArray) hp
  have hlen : vs.length ≤ sizeLine := by
    rw [h2.length, hl]
    exact lz
  have gone : s.heap.get? h'.objs.size = none := by
    cases z : s.heap.get? h'.objs.size with
    | none => rfl
    | some u => exact absurd (Heap.lt_size (hk _ _ z)) (Nat.lt_irrefl _)
  exact ⟨.ref _, upd H h'.objs.size (.lst vs), I.laidN (t' := s.toks) (fun b u e => (sortedHeap_old (Nat.ne_of_lt (Heap.lt_size (hk b u e))) (by rw [size_push']; exact Nat.lt_succ_of_lt (Heap.lt_size (hk b u e)))).trans (Heap.get?_push_of_some _ (hk b u e))) gone (I.hok.gone gone) ⟨hlen, out, ep, h2, he'⟩, rfl, q _ _ (I.hok.gone gone) h1⟩
theorem sorted_l {pins : List (Addr × Obj)} {σ : L2.St} {F H : Hp} {s : Shared} {a : Addr} {ds : List PyData} {ws : List V} {us : List Value} {Q : VK} (hu : X.A.units + 200 < cLine) (I : Inv X pins σ H s) (sb : Sub F (dn H)) (hq : SqL X.K H a ws ∨ SqT X.K H a ws) (rp : RpL F ds ws) (so : sortOk ds = true) (ru : Vals [.ref a] us)
    (q : ∀ p vs, H p = none → RpL F (sortD ds) vs → Q (.ref p) (upd H p (.lst vs))) : wpAny (model X.prog X.w) X.A (call (.builtin "sorted") us) (EP X pins σ Q) X.xe s := by
  rw [Vals.ref1 ru]
  rcases hq with hq | hq
  · obtain ⟨its, rv, hl, hz⟩ := I.list hq
    obtain ⟨o, ho, hc, n, hd⟩ := hl.isList
    exact sorted_any hu I sb (.inl rfl) ho hc hd rv hz rp so q
  · obtain ⟨its, rv, ⟨o, ho, hc, n, hd⟩, hz⟩ := I.tuple hq
    exact sorted_any hu I sb (.inr rfl) ho hc hd rv hz rp so q
theorem look_items {m : List Addr} {F H0 H : Hp} {hs : Hs} {r : R} {v : V} {xs : List PyData} (c : Cells m F hs H) (rr : RelR X.K er m F H0 H r v) (e : (look hs r).bind items = some xs) : ∃ a vs, v = .ref a ∧ (SqL X.K H a vs ∨ SqT X.K H a vs) ∧ RpL F xs vs := by
  cases hl : look hs r with
  | none => rw [hl] at e; cases e
  | some d =>
    rw [hl] at e
    have e : items d = some xs := e
    unfold items at e
    split at e
    · cases e
      obtain ⟨a, vs, rfl, h1, h2⟩ := look_lk c rr hl
      exact ⟨a, vs, rfl, .inl (SqL.of h1), h2⟩
    · cases e
      obtain ⟨a, vs, rfl, h1, h2⟩ := Rp.tuple_iff.mp (look_lk c rr hl)
      exact ⟨a, vs, rfl, .inr (SqT.dn (c.frz _ _ h1)), h2⟩
    · cases e
theorem call_sortedM (hu : X.A.units + 200 < cLine) : CallR X (.builtin "sorted") (rB1 X.K er sortedO) := by
  intro pins s σ H vs us Q I ru h
  obtain ⟨m, F, H0, hs, r, res, v, rfl, c, rv, e, q⟩ := h
  unfold sortedO at e
  split at e
  · rename_i xs hl
    split at e
    · rename_i so
      cases e
      obtain ⟨a, ws, rfl, h1, h2⟩ := look_items c rv hl
      exact sorted_l hu I c.frz h1 h2 so ru fun p vs np hv => q _ _ ⟨p, vs, rfl, np, rfl, hv⟩
    · cases e
  · cases e
theorem alike_plain : ∀ (x : PyData), PySem.W.alike x x = true → x.plain = true
  | .none, _ => rfl
  | .bool _, _ => rfl
  | .int _, _ => rfl
  | .str _, _ => rfl
  | .list xs, h => by
    simp only [PyData.plain]
    exact alike_plainAll xs (by simpa [PySem.W.alike] using h)
  | .tuple xs, h => by
    simp only [PyData.plain]
    exact alike_plainAll xs (by simpa [PySem.W.alike] using h)
  | .dict _, h => absurd h (by simp [PySem.W.alike])
where alike_plainAll : ∀ (xs : List PyData), PySem.W.alikeAll xs xs = true → PyData.plainAll xs = true
  | [], _ => rfl
  | x :: xs, h => by
    obtain ⟨h1, h2⟩ := PySem.W.alike_all_cons h
    simp only [PyData.plainAll, Bool.and_eq_true]
    exact ⟨alike_plain x h1, alike_plainAll xs h2⟩
theorem depthAll_le : ∀ {xs : List PyData} {n : Nat}, (∀ x ∈ xs, x.depth ≤ n) → PyData.depthAll xs ≤ n
  | [], n, _ => by simp [PyData.depthAll]
  | x :: xs, n, h => by
    simp only [PyData.depthAll]
    have h1 := h x List.mem_cons_self
    have h2 := depthAll_le (xs := xs) fun y hy => h y (List.mem_cons_of_mem _ hy)
    omega
theorem _root_.L2.Vals.get_of : ∀ {ws : List V} {vs : List Value} {i : Nat} {v : Value}, Vals ws vs → vs[i]? = some v → ∃ w, ws[i]? = some w ∧ RelV w v
  | _, _, i, v, .nil, e => by simp at e
  | _, _, 0, v, .cons a b, e => by
    simp at e
    subst e
    exact ⟨_, rfl, a⟩
  | _, _, i + 1, v, .cons a b, e => by
    simp at e
    obtain ⟨w, h1, h2⟩ := L2.Vals.get_of b e
    exact ⟨w, by simpa using h1, h2⟩
theorem min_listM {pins : List (Addr × Obj)} {σ : L2.St} {F H : Hp} {s : Shared} {a : Addr} {x : PyData} {ds : List PyData} {ws : List V} {us : List Value} {Q : VK} (hc : X.calm = true) (hu : X.A.units + 200 < cLine) (I : Inv X pins σ H s) (sb : Sub F (dn H)) (hq : SqL X.K H a ws) (rp : RpL F (x :: ds) ws) (so : ordOk (x :: ds) = true) (ru : Vals [.ref a] us)
    (q : ∀ v, Rp F (PySem.W.minD x ds) v → Q v H) : wpAny (model X.prog X.w) X.A (call (.builtin "min") us) (EP X pins σ Q) X.xe s := by
  obtain ⟨its, rv, hl, hz⟩ := I.list hq
  rw [Vals.ref1 ru]
  obtain ⟨g1, g2⟩ := ordOk_i so
  obtain ⟨as, hr⟩ := RpL.reads I (x :: ds) ws its (RpL.sub sb _ _ rp) rv
  have hdep : PyData.depthAll (x :: ds) ≤ 64 := depthAll_le fun y hy => (g2 y hy).1
  refine PySem.W.min_list_data (I.ok.hd hc) hl.isList (vs := its.toArray) (by simpa using hr) ⟨g1, fun y hy => (g2 y hy).2⟩ (by omega) fun i v h' tk bs hv rd hk => ?_
  have hv' : its[i]? = some v := by simpa using hv
  obtain ⟨w, hw, rw'⟩ := rv.get_of hv'
  obtain ⟨d, hd, hrd⟩ := rp.get hw
  obtain ⟨as2, r2⟩ := Rp.reads I d w v (Rp.sub sb _ _ hrd) rw'
  have hm : d ∈ x :: ds := List.mem_of_getElem? hd
  have e := SeqAt.plain_unique d _ v _ _ (alike_plain d (g1 d hm d hm)) (PySem.W.reads_keeps hk r2) rd
  rw [← e] at q
  exact ⟨w, H, I.kept (t' := tk) hk, rw', q w hrd⟩
theorem min_tupleM {pins : List (Addr × Obj)} {σ : L2.St} {F H : Hp} {s : Shared} {a : Addr} {x : PyData} {ds : List PyData} {ws : List V} {us : List Value} {Q : VK} (hc : X.calm = true) (hu : X.A.units + 200 < cLine) (I : Inv X pins σ H s) (sb : Sub F (dn H)) (hq : SqT X.K H a ws) (rp : RpL F (x :: ds) ws) (so : ordOk (x :: ds) = true) (ru : Vals [.ref a] us)
    (q : ∀ v, Rp F (PySem.W.minD x ds) v → Q v H) : wpAny (model X.prog X.w) X.A (call (.builtin "min") us) (EP X pins σ Q) X.xe s := by
  obtain ⟨its, rv, hl, hz⟩ := I.tuple hq
  rw [Vals.ref1 ru]
  obtain ⟨g1, g2⟩ := ordOk_i so
  obtain ⟨as, hr⟩ := RpL.reads I (x :: ds) ws its (RpL.sub sb _ _ rp) rv
  have hdep : PyData.depthAll (x :: ds) ≤ 64 := depthAll_le fun y hy => (g2 y hy).1
  refine PySem.W.min_tuple_data (I.ok.hd hc) hl (vs := its.toArray) (by simpa using hr) ⟨g1, fun y hy => (g2 y hy).2⟩ (by omega) fun i v h' tk bs hv rd hk => ?_
  have hv' : its[i]? = some v := by simpa using hv
  obtain ⟨w, hw, rw'⟩ := rv.get_of hv'
  obtain ⟨d, hd, hrd⟩ := rp.get hw
  obtain ⟨as2, r2⟩ := Rp.reads I d w v (Rp.sub sb _ _ hrd) rw'
  have hm : d ∈ x :: ds := List.mem_of_getElem? hd
  have e := SeqAt.plain_unique d _ v _ _ (alike_plain d (g1 d hm d hm)) (PySem.W.reads_keeps hk r2) rd
  rw [← e] at q
  exact ⟨w, H, I.kept (t' := tk) hk, rw', q w hrd⟩
theorem call_minM (hc : X.calm = true) (hu : X.A.units + 200 < cLine) : CallR X (.builtin "min") (rB1 X.K er min1O) := by
  intro pins s σ H vs us Q I ru h
  obtain ⟨m, F, H0, hs, r, res, v, rfl, c, rv, e, q⟩ := h
  unfold min1O at e
  split at e
  · rename_i x xs hl
    split at e
    · rename_i so
      cases e
      obtain ⟨a, ws, rfl, h1, h2⟩ := look_lk c rv hl
      exact min_listM hc hu I c.frz (SqL.of h1) h2 so ru fun v hv => q _ _ (.inl ⟨rfl, hv⟩)
    · cases e
  · rename_i x xs hl
    split at e
    · rename_i so
      cases e
      obtain ⟨a, ws, rfl, h1, h2⟩ := Rp.tuple_iff.mp (look_lk c rv hl)
      exact min_tupleM hc hu I c.frz (SqT.dn (c.frz _ _ h1)) h2 so ru fun v hv => q _ _ (.inl ⟨rfl, hv⟩)
    · cases e
  · cases e
theorem max_listM {pins : List (Addr × Obj)} {σ : L2.St} {F H : Hp} {s : Shared} {a : Addr} {x : PyData} {ds : List PyData} {ws : List V} {us : List Value} {Q : VK} (hc : X.calm = true) (hu : X.A.units + 200 < cLine) (I : Inv X pins σ H s) (sb : Sub F (dn H)) (hq : SqL X.K H a ws) (rp : RpL F (x :: ds) ws) (so : ordOk (x :: ds) = true) (ru : Vals [.ref a] us)
    (q : ∀ v, Rp F (PySem.W.maxD x ds) v → Q v H) : wpAny (model X.prog X.w) X.A (call (.builtin "max") us) (EP X pins σ Q) X.xe s := by
  obtain ⟨its, rv, hl, hz⟩ := I.list hq
  rw [Vals.ref1 ru]
  obtain ⟨g1, g2⟩ := ordOk_i so
  obtain ⟨as, hr⟩ := RpL.reads I (x :: ds) ws its (RpL.sub sb _ _ rp) rv
  have hdep : PyData.depthAll (x :: ds) ≤ 64 := depthAll_le fun y hy => (g2 y hy).1
  refine PySem.W.max_list_data (I.ok.hd hc) hl.isList (vs := its.toArray) (by simpa using hr) ⟨g1, fun y hy => (g2 y hy).2⟩ (by omega) fun i v h' tk bs hv rd hk => ?_
  have hv' : its[i]? = some v := by simpa using hv
  obtain ⟨w, hw, rw'⟩ := rv.get_of hv'
  obtain ⟨d, hd, hrd⟩ := rp.get hw
  obtain ⟨as2, r2⟩ := Rp.reads I d w v (Rp.sub sb _ _ hrd) rw'
  have hm : d ∈ x :: ds := List.mem_of_getElem? hd
  have e := SeqAt.plain_unique d _ v _ _ (alike_plain d (g1 d hm d hm)) (PySem.W.reads_keeps hk r2) rd
  rw [← e] at q
  exact ⟨w, H, I.kept (t' := tk) hk, rw', q w hrd⟩
theorem max_tupleM {pins : List (Addr × Obj)} {σ : L2.St} {F H : Hp} {s : Shared} {a : Addr} {x : PyData} {ds : List PyData} {ws : List V} {us : List Value} {Q : VK} (hc : X.calm = true) (hu : X.A.units + 200 < cLine) (I : Inv X pins σ H s) (sb : Sub F (dn H)) (hq : SqT X.K H a ws) (rp : RpL F (x :: ds) ws) (so : ordOk (x :: ds) = true) (ru : Vals [.ref a] us)
    (q : ∀ v, Rp F (PySem.W.maxD x ds) v → Q v H) : wpAny (model X.prog X.w) X.A (call (.builtin "max") us) (EP X pins σ Q) X.xe s := by
  obtain ⟨its, rv, hl, hz⟩ := I.tuple hq
  rw [Vals.ref1 ru]
  obtain ⟨g1, g2⟩ := ordOk_i so
  obtain ⟨as, hr⟩ := RpL.reads I (x :: ds) ws its (RpL.sub sb _ _ rp) rv
  have hdep : PyData.depthAll (x :: ds) ≤ 64 := depthAll_le fun y hy => (g2 y hy).1
  refine PySem.W.max_tuple_data (I.ok.hd hc) hl (vs := its.toArray) (by simpa using hr) ⟨g1, fun y hy => (g2 y hy).2⟩ (by omega) fun i v h' tk bs hv rd hk => ?_
  have hv' : its[i]? = some v := by simpa using hv
  obtain ⟨w, hw, rw'⟩ := rv.get_of hv'
  obtain ⟨d, hd, hrd⟩ := rp.get hw
  obtain ⟨as2, r2⟩ := Rp.reads I d w v (Rp.sub sb _ _ hrd) rw'
  have hm : d ∈ x :: ds := List.mem_of_getElem? hd
  have e := SeqAt.plain_unique d _ v _ _ (alike_plain d (g1 d hm d hm)) (PySem.W.reads_keeps hk r2) rd
  rw [← e] at q
  exact ⟨w, H, I.kept (t' := tk) hk, rw', q w hrd⟩
theorem call_maxM (hc : X.calm = true) (hu : X.A.units + 200 < cLine) : CallR X (.builtin "max") (rB1 X.K er max1O) := by
  intro pins s σ H vs us Q I ru h
  obtain ⟨m, F, H0, hs, r, res, v, rfl, c, rv, e, q⟩ := h
  unfold max1O at e
  split at e
  · rename_i x xs hl
    split at e
    · rename_i so
      cases e
      obtain ⟨a, ws, rfl, h1, h2⟩ := look_lk c rv hl
      exact max_listM hc hu I c.frz (SqL.of h1) h2 so ru fun v hv => q _ _ (.inl ⟨rfl, hv⟩)
    · cases e
  · rename_i x xs hl
    split at e
    · rename_i so
      cases e
      obtain ⟨a, ws, rfl, h1, h2⟩ := Rp.tuple_iff.mp (look_lk c rv hl)
      exact max_tupleM hc hu I c.frz (SqT.dn (c.frz _ _ h1)) h2 so ru fun v hv => q _ _ (.inl ⟨rfl, hv⟩)
    · cases e
  · cases e
end
end Mi

/-! Mi: is this text that expression? -/
namespace Mi
open PySem PySem.Spec PyProof.Rows L2

structure Ctx where
  fn : Nat → Option Str
  cls : Nat → Option Str
  cv : Str → Option PyData
  bt : List Str
  ca : Nat → Addr
  hot : List Nat := []
/-! ### looks at a text -/
def onName (e : Expr) (f : Str → Bool) : Bool := match e with
  | .Name x _ => f x
  | _ => false
theorem onName_i {e f} (h : onName e f = true) : ∃ x p, e = .Name x p ∧ f x = true := by
  cases e <;> first | exact ⟨_, _, rfl, h⟩ | cases h
def onConst (e : Expr) (f : Const → Bool) : Bool := match e with
  | .Constant x _ _ => f x
  | _ => false
theorem onConst_i {e f} (h : onConst e f = true) : ∃ x k p, e = .Constant x k p ∧ f x = true := by
  cases e <;> first | exact ⟨_, _, _, rfl, h⟩ | cases h
def onTup (e : Expr) (f : List Expr → Bool) : Bool := match e with
  | .Tuple x _ _ => f x
  | _ => false
theorem onTup_i {e f} (h : onTup e f = true) : ∃ x k p, e = .Tuple x k p ∧ f x = true := by
  cases e <;> first | exact ⟨_, _, _, rfl, h⟩ | cases h
def onList (e : Expr) (f : List Expr → Bool) : Bool := match e with
  | .List x _ => f x
  | _ => false
theorem onList_i {e f} (h : onList e f = true) : ∃ x p, e = .List x p ∧ f x = true := by
  cases e <;> first | exact ⟨_, _, rfl, h⟩ | cases h
def onDict (e : Expr) (f : List (Option Expr) → List Expr → Bool) : Bool := match e with
  | .Dict k v _ => f k v
  | _ => false
theorem onDict_i {e f} (h : onDict e f = true) : ∃ k v p, e = .Dict k v p ∧ f k v = true := by
  cases e <;> first | exact ⟨_, _, _, rfl, h⟩ | cases h
def onBin (e : Expr) (f : Expr → Operator → Expr → Bool) : Bool := match e with
  | .BinOp a o b _ => f a o b
  | _ => false
theorem onBin_i {e f} (h : onBin e f = true) : ∃ a o b p, e = .BinOp a o b p ∧ f a o b = true := by
  cases e <;> first | exact ⟨_, _, _, _, rfl, h⟩ | cases h
def onUn (e : Expr) (f : UnaryOp → Expr → Bool) : Bool := match e with
  | .UnaryOp o b _ => f o b
  | _ => false
theorem onUn_i {e f} (h : onUn e f = true) : ∃ o b p, e = .UnaryOp o b p ∧ f o b = true := by
  cases e <;> first | exact ⟨_, _, _, rfl, h⟩ | cases h
def onCmp (e : Expr) (f : Expr → CmpOp → Expr → Bool) : Bool := match e with
  | .Compare a [o] [b] _ => f a o b
  | _ => false
theorem onCmp_i {e f} (h : onCmp e f = true) : ∃ a o b p, e = .Compare a [o] [b] p ∧ f a o b = true := by
  unfold onCmp at h
  split at h
  · exact ⟨_, _, _, _, rfl, h⟩
  · cases h
def onChain (e : Expr) (f : Expr → CmpOp → Expr → CmpOp → Expr → Bool) : Bool := match e with
  | .Compare a [o, q] [b, c] _ => f a o b q c
  | _ => false
theorem onChain_i {e f} (h : onChain e f = true) : ∃ a o q b c p, e = .Compare a [o, q] [b, c] p ∧ f a o b q c = true := by
  unfold onChain at h
  split at h
  · exact ⟨_, _, _, _, _, _, rfl, h⟩
  · cases h
def onBool (e : Expr) (f : BoolOp → List Expr → Bool) : Bool := match e with
  | .BoolOp o x _ => f o x
  | _ => false
theorem onBool_i {e f} (h : onBool e f = true) : ∃ o x p, e = .BoolOp o x p ∧ f o x = true := by
  cases e <;> first | exact ⟨_, _, _, rfl, h⟩ | cases h
def onIf (e : Expr) (f : Expr → Expr → Expr → Bool) : Bool := match e with
  | .IfExp a b c _ => f a b c
  | _ => false
theorem onIf_i {e f} (h : onIf e f = true) : ∃ a b c p, e = .IfExp a b c p ∧ f a b c = true := by
  cases e <;> first | exact ⟨_, _, _, _, rfl, h⟩ | cases h
def onSub (e : Expr) (f : Expr → Expr → Bool) : Bool := match e with
  | .Subscript a b _ => f a b
  | _ => false
theorem onSub_i {e f} (h : onSub e f = true) : ∃ a b p, e = .Subscript a b p ∧ f a b = true := by
  cases e <;> first | exact ⟨_, _, _, rfl, h⟩ | cases h
def onSlc (e : Expr) (f : Option Expr → Option Expr → Option Expr → Bool) : Bool := match e with
  | .Slice a b c _ => f a b c
  | _ => false
theorem onSlc_i {e f} (h : onSlc e f = true) : ∃ a b c p, e = .Slice a b c p ∧ f a b c = true := by
  cases e <;> first | exact ⟨_, _, _, _, rfl, h⟩ | cases h
def onCall (e : Expr) (f : Expr → List Expr → Pos → Bool) : Bool := match e with
  | .Call g x [] p => f g x p
  | _ => false
theorem onCall_i {e f} (h : onCall e f = true) : ∃ g x p, e = .Call g x [] p ∧ f g x p = true := by
  unfold onCall at h
  split at h
  · exact ⟨_, _, _, rfl, h⟩
  · cases h
def onAttr (e : Expr) (f : Expr → Str → Pos → Bool) : Bool := match e with
  | .Attribute g x p => f g x p
  | _ => false
theorem onAttr_i {e f} (h : onAttr e f = true) : ∃ g x p, e = .Attribute g x p ∧ f g x p = true := by
  cases e <;> first | exact ⟨_, _, _, rfl, h⟩ | cases h
def onLc (e : Expr) (f : Expr → Expr → Expr → List Expr → Scope → Bool) : Bool := match e with
  | .ListComp a [⟨t, i, c, 0⟩] s _ => f a t i c s
  | _ => false
theorem onLc_i {e f} (h : onLc e f = true) : ∃ a t i c s p, e = .ListComp a [⟨t, i, c, 0⟩] s p ∧ f a t i c s = true := by
  unfold onLc at h
  split at h
  · exact ⟨_, _, _, _, _, _, rfl, h⟩
  · cases h

def noSet : Expr → Bool
  | .Set .. => false
  | _ => true
def isVis (sc : Scope) (x : Str) : Bool := match sc.names.lookup x with
  | some .local => true
  | some .cell => true
  | some .free => true
  | _ => false
def isOwn (sc : Scope) (x : Str) : Bool := match sc.names.lookup x with
  | some .local => true
  | some .cell => true
  | _ => false
def isGl (sc : Scope) (x : Str) : Bool := match sc.names.lookup x with
  | some .globalImplicit => true
  | _ => false
/-- no magic name -/
def plainN (x : Str) : Bool := !(x == ("__debug__" : Str)) && !(x == ("__classdict__" : Str)) && !(x == ("__name__" : Str))
def varOk (N : List Str) (sc : Scope) (i : Nat) (x : Str) : Bool := decide (N[i]? = some x) && isVis sc x && plainN x
def ownOk (N : List Str) (sc : Scope) (i : Nat) (x : Str) : Bool := decide (N[i]? = some x) && isOwn sc x && plainN x
def glOk (sc : Scope) (x : Str) : Bool := isGl sc x && plainN x
def cstOk : PyData → Const → Bool
  | .int i, .int j => i == j
  | .bool i, .bool j => i == j
  | .str i, .str j => i == j
  | .none, .none => true
  | _, _ => false
def tyN : Ty → String
  | .int => "int" | .bool => "bool" | .tuple => "tuple" | .list => "list" | .str => "str" | .dict => "dict"
/-- a built-in's name, and whether it is a class -/
def biN : Bi → Option (String × Bool)
  | .len => some ("len", false)
  | .all => some ("all", false)
  | .any => some ("any", false)
  | .sum => some ("sum", false)
  | .min1 => some ("min", false)
  | .max1 => some ("max", false)
  | .min2 => some ("min", false)
  | .max2 => some ("max", false)
  | .sorted => some ("sorted", false)
  | .tuple => some ("tuple", true)
  | .list => some ("list", true)
  | .int => some ("int", true)
  | .str => some ("str", true)
  | .dict => some ("dict", true)
  | _ => none
/-- a built-in of a built-in's -/
def nst : Bi → Option (String × String)
  | .listRng => some ("list", "range")
  | .tupRng => some ("tuple", "range")
  | .lenSet => some ("len", "set")
  | .sortedSet => some ("sorted", "set")
  | _ => none
/-- a method's name -/
def mtN : Mt → Option String
  | .count => some "count"
  | .index => some "index"
  | .pop1 => some "pop"
  | .join => some "join"
  | .split => some "split"
  | _ => none
def posOk (a c : Pos) : Bool := a.endLine == c.line
def notCall0 : Expr → Bool
  | .Call _ [] _ _ => false
  | _ => true
def isNeg1 : Option Expr → Bool
  | some (.UnaryOp .USub (.Constant (.int i) _ _) _) => i == 1
  | _ => false
theorem isNeg1_i {o : Option Expr} (h : isNeg1 o = true) : ∃ k p q, o = some (.UnaryOp .USub (.Constant (.int 1) k p) q) := by
  unfold isNeg1 at h
  split at h
  · rename_i i k p q
    have : i = 1 := by simpa using h
    subst this
    exact ⟨k, p, q, rfl⟩
  · cases h
/-- names of a target -/
def chkT (N : List Str) (sc : Scope) : List Nat → List Expr → Bool
  | [], [] => true
  | i :: is, x :: xs => onName x (ownOk N sc i) && chkT N sc is xs
  | _, _ => false
def chkTg (N : List Str) (sc : Scope) (t : Tg) (e : Expr) : Bool := match t with
  | .nm i => onName e (ownOk N sc i)
  | .tp is => onTup e fun xs => !xs.isEmpty && chkT N sc is xs
/-- what a walk's rule asks of the target -/
def tgFor : IK → Tg → Bool
  | .zip, .nm _ => false
  | .enum, .nm _ => false
  | .enumN, .tp _ => false
  | _, _ => true
def tgIs : Tg → List Nat
  | .nm i => [i]
  | .tp is => is
/-- a name that stands for a built-in -/
def blt (G : Ctx) (sc : Scope) (s : String) (e : Expr) : Bool := onName e fun x => x == Str.ofString s && glOk sc x && G.bt.contains x
/-- may it be asked as a test -/
def tst : E → Bool
  | .ite _ _ _ => false
  | .new _ => false
  | .dct _ _ => false
  | .neg _ => false
  | .and_ es => tst es
  | .or_ es => tst es
  | .not_ a => tst a
  | .cons a r => tst a && tst r
  | _ => true
/-- the names of the defs -/
def chkF (G : Ctx) (sc : Scope) : List Nat → List Expr → Bool
  | [], [] => true
  | f :: fs, y :: ys => onName y (fun x => decide (G.fn f = some x) && glOk sc x) && chkF G sc fs ys
  | _, _ => false
mutual
def chkE (G : Ctx) (N : List Str) (cm : Bool) : E → Scope → Expr → Bool
  | .var i, sc, e => onName e (varOk N sc i)
  | .give i, sc, e => onName e (varOk N sc i)
  | .cst d, sc, e => onConst e (cstOk d)
  | .gc x d, sc, e => onName e fun y => x == y && glOk sc y && (match G.cv y with | some d' => same d d' | none => false)
  | .tup es, sc, e => onTup e (chkL G N cm es sc)
  | .lst es, sc, e => onList e (chkL G N cm es sc)
  | .dct .nil .nil, sc, e => onDict e fun k v => k.isEmpty && v.isEmpty
  | .dct (.cons (.cst (.int i)) .nil) (.cons (.cst (.int j)) .nil), sc, e => onDict e fun k v => (match k, v with
    | [some x], [y] => onConst x (cstOk (.int i)) && onConst y (cstOk (.int j))
    | _, _ => false)
  | .bin o a b, sc, e => onBin e fun x q y => decide (q = opOf o) && chkE G N cm a sc x && chkE G N cm b sc y
  | .neg a, sc, e => onUn e fun q y => decide (q = .USub) && chkE G N cm a sc y
  | .cmp o a b, sc, e => onCmp e fun x q y => decide (q = copOf o) && chkE G N cm a sc x && chkE G N cm b sc y
  | .chain o p a b c, sc, e => onChain e fun x q y q' z => decide (q = copOf o) && decide (q' = copOf p) && chkE G N cm a sc x && chkE G N cm b sc y && chkE G N cm c sc z
  | .isN a, sc, e => onCmp e fun x q y => decide (q = .Is) && onConst y (cstOk .none) && chkE G N cm a sc x
  | .isNN a, sc, e => onCmp e fun x q y => decide (q = .IsNot) && onConst y (cstOk .none) && chkE G N cm a sc x
  | .isB k a, sc, e => onCmp e fun x q y => decide (q = .Is) && onConst y (cstOk (.bool k)) && chkE G N cm a sc x
  | .isNB k a, sc, e => onCmp e fun x q y => decide (q = .IsNot) && onConst y (cstOk (.bool k)) && chkE G N cm a sc x
  | .and_ es, sc, e => onBool e fun q xs => decide (q = .And) && chkL G N cm es sc xs
  | .or_ es, sc, e => onBool e fun q xs => decide (q = .Or) && chkL G N cm es sc xs
  | .not_ a, sc, e => onUn e fun q y => decide (q = .Not) && chkE G N cm a sc y
  | .ite c a b, sc, e => onIf e fun x y z => tst c && chkE G N cm c sc x && chkE G N cm a sc y && chkE G N cm b sc z
  | .ix a i, sc, e => onSub e fun x y => chkE G N cm a sc x && chkE G N cm i sc y
  | .slc a lo hi, sc, e => onSub e fun x y => chkE G N cm a sc x && onSlc y fun l u s => s.isNone && chkO G N cm lo sc l && chkO G N cm hi sc u
  | .rev a, sc, e => onSub e fun x y => chkE G N cm a sc x && onSlc y fun l u s => l.isNone && u.isNone && isNeg1 s
  | .new a, sc, e => chkE G N cm a sc e
  | .call f es, sc, e => onCall e fun g xs _ => cm && onName g (fun x => decide (G.fn f = some x) && glOk sc x) && !xs.isEmpty && chkL G N cm es sc xs
  | .pick fs i es, sc, e => onCall e fun g xs _ => cm && decide (fs.length ≤ 1000) && (onSub g fun l y => onList l (chkF G sc fs) && chkE G N cm i sc y) && !xs.isEmpty && chkL G N cm es sc xs
  | .bi (.isi [t]) (.cons a .nil), sc, e => onCall e fun g xs _ => blt G sc "isinstance" g && (match xs with
    | [x, y] => chkE G N cm a sc x && blt G sc (tyN t) y
    | _ => false)
  | .bi (.isi [t, u]) (.cons a .nil), sc, e => onCall e fun g xs _ => blt G sc "isinstance" g && (match xs with
    | [x, y] => chkE G N cm a sc x && onTup y fun ys => (match ys with
      | [y1, y2] => blt G sc (tyN t) y1 && blt G sc (tyN u) y2
      | _ => false)
    | _ => false)
  | .bi (.isx k) (.cons a .nil), sc, e => onCall e fun g xs _ => decide (k ≠ 0) && blt G sc "isinstance" g && (match xs with
    | [x, y] => chkE G N cm a sc x && onName y (fun z => decide (G.cls k = some z) && glOk sc z)
    | _ => false)
  | .bi .isve (.cons a .nil), sc, e => onCall e fun g xs _ => blt G sc "isinstance" g && (match xs with
    | [x, y] => chkE G N cm a sc x && blt G sc "ValueError" y
    | _ => false)
  | .bi b (.cons a .nil), sc, e => onCall e fun g xs _ => cm && (match nst b with
    | some (s1, s2) => blt G sc s1 g && (match xs with
      | [x] => onCall x fun g2 ys _ => blt G sc s2 g2 && (match ys with
        | [y] => chkE G N cm a sc y
        | _ => false)
      | _ => false)
    | none => (match biN b with
      | some (s, _) => blt G sc s g
      | none => false) && (match xs with
      | [x] => chkE G N cm a sc x
      | _ => false))
  | .bi b (.cons a (.cons c .nil)), sc, e => onCall e fun g xs _ => cm && (match biN b with
    | some (s, k) => !k && blt G sc s g
    | none => false) && (match xs with
    | [x, y] => chkE G N cm a sc x && chkE G N cm c sc y
    | _ => false)
  | .mt .pop0 o .nil, sc, e => onCall e fun g xs p => onAttr g fun x m pa => m == Str.ofString "pop" && xs.isEmpty && posOk pa p && notCall0 x && chkE G N cm o sc x
  | .mt .get o (.cons a (.cons c .nil)), sc, e => onCall e fun g xs p => onAttr g fun x m pa => m == Str.ofString "get" && posOk pa p && notCall0 x && chkE G N cm o sc x && (match xs with
    | [y, z] => chkE G N cm a sc y && chkE G N cm c sc z
    | _ => false)
  | .mt m o (.cons a .nil), sc, e => onCall e fun g xs p => onAttr g fun x nm pa => (match mtN m with
    | some s => nm == Str.ofString s
    | none => false) && posOk pa p && notCall0 x && chkE G N cm o sc x && (match xs with
    | [y] => chkE G N cm a sc y
    | _ => false)
  | .lc elt tg k ie cond, sc, e => cm && tgFor k tg && onLc e fun x t i cs s => noSet i && chkI G N cm k ie sc i && chkTg N s tg t && (tgIs tg).Nodup && blkC N sc s ((tgIs tg).filterMap fun j => (N[j]?).map fun y => (y, j)) && chkE G N cm elt s x && chkL G N cm cond s cs && decide (cs.length ≤ 1) && tst cond
  | .lvals a, sc, e => onCall e fun g xs _ => cm && blt G sc "list" g && (match xs with
    | [x] => onCall x fun g2 ys p => onAttr g2 fun y m pa => m == Str.ofString "values" && ys.isEmpty && posOk pa p && notCall0 y && chkE G N cm a sc y
    | _ => false)
  | .lcd elt t i, sc, e => cm && onLc e fun x tg d cs s => noSet d && onName d (varOk N sc i) && chkTg N s (.nm t) tg && blkC N sc s ([t].filterMap fun j => (N[j]?).map fun y => (y, j)) && chkE G N cm elt s x && cs.isEmpty
  | _, _, _ => false
def chkL (G : Ctx) (N : List Str) (cm : Bool) : E → Scope → List Expr → Bool
  | .nil, sc, [] => true
  | .cons a r, sc, x :: xs => chkE G N cm a sc x && chkL G N cm r sc xs
  | _, _, _ => false
/-- a part that may be left out -/
def chkO (G : Ctx) (N : List Str) (cm : Bool) : E → Scope → Option Expr → Bool
  | .nil, sc, none => true
  | .cons a .nil, sc, some x => chkE G N cm a sc x
  | _, _, _ => false
/-- what is walked -/
def chkI (G : Ctx) (N : List Str) (cm : Bool) : IK → E → Scope → Expr → Bool
  | .plain, .cons a .nil, sc, e => chkE G N cm a sc e
  | .rng1, .cons a .nil, sc, e => onCall e fun g xs _ => blt G sc "range" g && (match xs with
    | [x] => chkE G N cm a sc x
    | _ => false)
  | .rng2, .cons a (.cons b .nil), sc, e => onCall e fun g xs _ => cm && blt G sc "range" g && (match xs with
    | [x, y] => chkE G N cm a sc x && chkE G N cm b sc y
    | _ => false)
  | .rng3, .cons a (.cons b (.cons c .nil)), sc, e => onCall e fun g xs _ => cm && blt G sc "range" g && (match xs with
    | [x, y, z] => chkE G N cm a sc x && chkE G N cm b sc y && chkE G N cm c sc z
    | _ => false)
  | .zip, .cons a (.cons b .nil), sc, e => onCall e fun g xs _ => blt G sc "zip" g && (match xs with
    | [x, y] => chkE G N cm a sc x && chkE G N cm b sc y
    | _ => false)
  | .enum, .cons a .nil, sc, e => onCall e fun g xs _ => blt G sc "enumerate" g && (match xs with
    | [x] => chkE G N cm a sc x
    | _ => false)
  | .enumN, .cons a .nil, sc, e => onCall e fun g xs _ => blt G sc "enumerate" g && (match xs with
    | [x] => chkE G N cm a sc x
    | _ => false)
  | _, _, _, _ => false
end
end Mi

/-! Mi: a def that is asked within an except suite, of the exception that the suite holds. -/
namespace Mi
open PySem PySem.Spec PyProof.Rows L2

/-- what such a def promises; p: the exception, its object -/
structure FnS (P : Program) (w : World) (K : PySem.W.Frag) (mg : Str → Option Value) (base : Heap) (k : Nat) (f : Addr) (fd : FuncData) (ps : List Str) (sp : Addr × Obj → Sp) : Prop where
  many : ∀ p vs H Q E, sp p vs H Q E → vs.length = ps.length
  goes : ∀ (A : Around) (outer : List PySem.Env) (s : Shared) (H : Hp) (args : Args) (us : List Value) (vs : List V) (Q : VK) (p : Addr × Obj), L2H.RoomH k A → L2H.PinOk outer H s p → Env0 P w K mg base A outer s H → BindsTo s fd args (ps.zip us) → Vals vs us → sp p vs H Q E0 →
    codeAny (model P w) A (.call (.ref f) args) (CR (L2.CX P w) outer P w H s Q E0) s
section
variable {P : Program} {w : World} {K : PySem.W.Frag} {mg : Str → Option Value} {base : Heap} {k : Nat} {f : Addr} {name qual : Str} {params : Arguments} {body : List Stmt} {scope : Scope} {dV kV doc pm cdv ct oc : Value} {an od : Option Addr} {osl : Array (Option Value)} {N ps : List Str} {sp : Addr × Obj → Sp}
theorem fnS_of (lk : K.lookup f = some ⟨oc, od, .func (PySem.W.fnOf name qual params body scope dV kV doc pm an cdv ct), osl⟩) (hcd : PySem.W.codeIn K cdv qual = true) (S : FnScope N ps scope)
    (many : ∀ p vs H Q E, sp p vs H Q E → vs.length = ps.length)
    (hb : ∀ (A : Around) (outer : List PySem.Env) (s : Shared) (H : Hp) (vs : List V) (Q : VK) (p : Addr × Obj), L2H.RoomH k (A.deeper (envOfC qual scope s.heap.objs.size f cdv)) → sp p vs H Q E0 →
      ∃ t, PSs (L2H.cxH (L2.CX P w) P w K mg base N qual scope f cdv A outer s H E0 p) body t ∧ t { nx := fun _ H' => Q .non H', rt := Q } (L2.start N vs) H) :
    FnS P w K mg base (k + 1) f (PySem.W.fnOf name qual params body scope dV kV doc pm an cdv ct) ps sp := by
  refine ⟨many, fun A outer s H args us vs Q p room pin e0 bnd rel ask => ?_⟩
  have hm := many _ _ _ _ _ ask
  have kx : K.In s.heap := e0.mod.kin.keeps fun x o h => (e0.bs x o h).1
  have nl : s.heap.NoLimit := e0.mod.nolimit.keeps fun x o h => (e0.bs x o h).1
  have kinds : ∀ z ∈ ps.zip us, scope.names.lookup z.1 = some .local ∨ (scope.names.lookup z.1 = some .cell ∧ ((cellsFrom (s.heap.objs.size + 1) scope.names []).lookup z.1).isSome = true) := by
    rintro ⟨x, u⟩ hz
    have hp := S.par x (List.of_mem_zip hz).1
    exact hp.imp id fun g => ⟨g, PySem.W.cellsFrom_some _ _ _ (.inl g)⟩
  refine codeAny_call_function room.depth (kx _ _ lk) rfl S.co S.gen rfl (PySem.W.codeRec_of kx hcd) (bnd _ _ _ _ ?_)
  refine wpAny_newFunctionEnv_cells S.kind kinds ?_
  rintro _ rfl s1 ic
  refine ⟨nl.keeps ic.toInCall.keep, codeAny_func ?_⟩
  obtain ⟨t, pt, qt⟩ := hb A outer s H vs Q p (room.deeper _) ask
  have I := L2H.inv_startH (CX := L2.CX P w) (E := E0) S pin e0 hm rel ic
  have told : ∀ {σ' : L2.St} {H' : Hp} {v : V} {u : Value} {s' : Shared}, Inv (L2H.cxH (L2.CX P w) P w K mg base N qual scope f cdv A outer s H E0 p) [] σ' H' s' → RelV v u → Q v H' → CE outer P w H s Q u s' :=
    fun {_ H' v _ _} J r q => ⟨v, H', J.os, J.bare, J.base, J.hok, r, q⟩
  refine wpAny_mono (pt.run [] s1 _ H _ I qt) (fun fl s' h => ?_) fun _ _ h => h
  match fl, h with
  | .next, ⟨σ', H', J, q⟩ => exact told (v := V.non) (u := Value.none) J rfl q
  | .ret u, ⟨v, σ', H', J, r, q⟩ => exact told J r q
  | .brk, ⟨_, _, _, q⟩ => exact q.elim
  | .cont, ⟨_, _, _, q⟩ => exact q.elim
end
section
variable {X : Cx} {k : Nat} {f : Addr} {fd : FuncData} {ps : List Str} {sp : Addr × Obj → Sp} {p : Addr × Obj}
theorem fnS_run {pins : List (Addr × Obj)} {σ : L2.St} {H : Hp} {s : Shared} {Q : VK} {us : List Value} {vs : List V} (F : FnS X.prog X.w X.K X.mg X.base k f fd ps sp) (room : L2H.RoomH k X.A) (hp : p ∈ X.pn) (bnd : Binds X.K fd ps [])
    (I : Inv X pins σ H s) (r : Vals vs us) (ask : sp p vs H Q E0) : wpAny (model X.prog X.w) X.A (call (.ref f) us) (EP X pins σ Q) X.xe s := by
  have hu : us.length = ps.length := r.length.symm.trans (F.many _ _ _ _ _ ask)
  have bs := bnd s us I.kIn (by simpa using hu)
  rw [List.append_nil] at bs
  obtain ⟨g1, g2, g3, g4, g5⟩ := I.pin p (List.mem_append_left _ hp)
  have pin : L2H.PinOk X.stack H s p := ⟨g1, g2, fun z => by
    rcases List.mem_cons.mp (I.stkSub p.1 z) with z | z
    · exact g3 z
    · exact g4 z, g5⟩
  refine wpAny_call (codeAny_mono (F.goes X.A X.stack s H ⟨us, []⟩ us vs Q p room pin I.env0 bs r ask) fun res s' h => ?_)
  match res, h with
  | .error e, h =>
    obtain ⟨_, _, _, _, _, _, _, _, _, _, _, _, z⟩ := h
    exact z.elim
  | .ok (.ret u), h => exact I.after h
  | .ok .next, h => exact h.elim
  | .ok .brk, h => exact h.elim
  | .ok .cont, h => exact h.elim
theorem pe_held {x : Str} {q pos : Pos} {e : Expr} {es : List Expr} {t : TA} (F : FnS X.prog X.w X.K X.mg X.base k f fd ps sp) (room : L2H.RoomH k X.A) (hp : p ∈ X.pn) (hg : Gl X x) (hm : X.mg x = some (.ref f)) (hk : PySem.W.keepIn X.K (.ref f) = true) (bnd : Binds X.K fd ps [])
    (ha : PA X (e :: es) t) (hdb : (x == ("__debug__" : Str)) = false) (he : starEach (e :: es) X.env = (false, eval e X.env) :: starEach es X.env) (hpl : (backTo pos (starEach es X.env)).any (·.1) = false) :
    PE X (.Call (.Name x q) (e :: es) [] pos) (fun σ H Q => t σ H fun vs H1 => sp p vs H1 Q E0) := by
  refine ⟨fun pins s σ H Q I h => wpAny_Call_Name_kw (ld_glob I hg hm ?_ hdb)⟩
  refine PySem.W.callWith_K (h₀ := X.base) I.ok.mod.kin hk (thn (ha.run pos pins s σ H _ I h) ?_) he hpl
  rintro us s1 ⟨vs, H1, J, r, g⟩
  exact ⟨J.kIn, fnS_run F room hp bnd J r g⟩
/-- isinstance(e, c), e an exception that is pinned -/
def rIsX (X : Cx) : List V → Hp → VK → Prop := fun xs H Q => ∃ (a D : Addr) (oe : Obj) (c : V) (cv : Value) (b : Bool), (a, oe) ∈ X.pn ∧ ExcC X.K D ∧ Zc (.ref D) none oe ∧ (∃ vs, oe.data = .fields vs) ∧
  xs = [.ref a, c] ∧ (∀ u, RelV c u → u = cv) ∧ PySem.W.kitOne X.K (.ref D) cv = some b ∧ Q (.bl b) H
theorem call_isX {X : Cx} : CallR X (.builtin "isinstance") (rIsX X) := by
  rintro pins s σ H _ us Q I rel ⟨a, D, ⟨oc, od, oda, osl⟩, c, cv, b, hp, C, ⟨z1, z2⟩, ⟨vs, z3⟩, rfl, hcv, hk, q⟩
  cases rel with
  | cons r1 rel =>
    cases rel with
    | cons r2 rel =>
      cases rel
      cases r1
      obtain rfl := hcv _ r2
      dsimp only at z1 z2 z3
      subst z1 z2 z3
      have at_ := (I.pin _ (List.mem_append_left _ hp)).1
      have inst : PySem.W.InstAt s.heap a ⟨.ref D, none, .fields vs, osl⟩ D none := ⟨at_, rfl, rfl, trivial⟩
      refine PySem.W.kia_one (PySem.W.handS_kitx_exc C.hg C.hk C.hs C.hd C.ha C.hn C.ht C.hm) I.kIn inst hk (fun z => nomatch z) ?_
      exact fun n => ⟨.bl b, H, I.kept (t' := n) fun _ _ h => h, rfl, q⟩
end
end Mi

/-! Mi: expressions: what the evaluator gives, the model gives. -/
namespace Mi
open PySem PySem.Spec PyProof.Rows L2

/-- no caught error -/
abbrev er0 : Nat → V → Prop := fun _ _ => False
/-- a def's promise: what the handler C tells of the call -/
def spOf (K : PySem.W.Frag) (G : Ctx) (C : Cf) (f : Nat) : Sp := fun vs H Q E => ∃ (m : List Addr) (F : Hp) (hs : Hs) (ws : List W), Cells m F hs H ∧ RelWs K er0 m F ws vs ∧
  Post (C f ws hs) m F H (fun r m' F' H' _ => ∀ v, RelR K er0 m' F' H H' r v → Q v H') (fun c H' => E (.ref (G.ca c)) none H')
/-- the exception that a suite holds, as the evaluator names it -/
def erP (G : Ctx) (p : Addr × Obj) : Nat → V → Prop := fun c v => v = .ref p.1 ∧ (G.cls c).isSome = true ∧ Zc (.ref (G.ca c)) none p.2 ∧ ∃ vs, p.2.data = .fields vs
/-- what is told of such a def -/
def spS (K : PySem.W.Frag) (G : Ctx) (C : Cf) (f : Nat) (p : Addr × Obj) : Sp := fun vs H Q _ => ∃ (m : List Addr) (F : Hp) (hs : Hs) (c : Nat) (v : V) (x : Str) (hs' : Hs), vs = [v] ∧ Cells m F hs H ∧ erP G p c v ∧ C f [.e c] hs = .ok (.v (.d (.str x))) hs' ∧
  ∀ F' H' u, Fin m F H hs' m F' H' → Rp F' (.str x) u → Q u H'
/-- what the classes of errors are to one another -/
def ExcF (K : PySem.W.Frag) (G : Ctx) : Prop := ∀ c x, G.cls c = some x → ExcC K (G.ca c) ∧ PySem.W.kitOne K (.ref (G.ca c)) (.type "ValueError") = some true ∧ PySem.W.exmOne K (.ref (G.ca c)) (.ref (G.ca 0)) = some true ∧
  ∀ k y, k ≠ 0 → G.cls k = some y → PySem.W.kitOne K (.ref (G.ca c)) (.ref (G.ca k)) = some (decide (k = c))
/-- what is asked of a context -/
structure XOk (G : Ctx) (X : Cx) (N : List Str) (sc : Scope) (C : Cf) (cm : Bool) (er : Nat → V → Prop) (W : WX) : Prop where
  hN : X.N = N
  nd : X.N.Nodup
  calm : cm = true → X.calm = true
  noer : cm = true → ∀ c v, ¬ er c v
  hu : X.A.units + 200 < cLine
  bt : ∀ x ∈ G.bt, X.mg x = none
  tk : Takes X W
  po : PassesOwn (model X.prog X.w) X.A X.env X.xe
  cv : ∀ x d, G.cv x = some d → ∃ v u, X.mg x = some u ∧ RelV v u ∧ ∀ F, Rp F d v
  cls : cm = true → ∀ c x, G.cls c = some x → PySem.W.excIn X.K (G.ca c) [.type "ValueError", .type "Exception", .type "BaseException", .type "object"] "ValueError.__new__" = true ∧ X.mg x = some (.ref (G.ca c)) ∧ PySem.W.keepIn X.K (.ref (G.ca c)) = true ∧ Raises X (.ref (G.ca c))
  fn : cm = true → ∀ f x, G.fn f = some x → ∃ k fa fd ps, FnOk X.prog X.w X.K X.mg X.base (L2.CX X.prog X.w) k fa fd ps (spOf X.K G C f) ∧ Room k X.A ∧ X.mg x = some (.ref fa) ∧ PySem.W.keepIn X.K (.ref fa) = true ∧ Binds X.K fd ps []
  ero : ∀ c v, er c v → ∃ a oe, v = .ref a ∧ (a, oe) ∈ X.pn ∧ Zc (.ref (G.ca c)) none oe ∧ (∃ vs, oe.data = .fields vs) ∧ ExcC X.K (G.ca c) ∧ PySem.W.kitOne X.K (.ref (G.ca c)) (.type "ValueError") = some true ∧
    ∀ k y, k ≠ 0 → G.cls k = some y → PySem.W.kitOne X.K (.ref (G.ca c)) (.ref (G.ca k)) = some (decide (k = c))
  clm : ∀ k y, G.cls k = some y → X.mg y = some (.ref (G.ca k))
  exc : cm = true → G.hot ≠ [] → ExcF X.K G
  hot : cm = true → ∀ f x, G.fn f = some x → f ∈ G.hot → ∃ k fa fd ps, FnS X.prog X.w X.K X.mg X.base k fa fd ps (spS X.K G C f) ∧ L2H.RoomH k X.A ∧ X.mg x = some (.ref fa) ∧ PySem.W.keepIn X.K (.ref fa) = true ∧ Binds X.K fd ps []
  vis : ∀ x, isVis sc x = true → Vis X.env.scope x
  own : ∀ x, isOwn sc x = true → Loc X.env.scope x ∧ (X.fn x = true ∨ X.env.scope.names.lookup x = some .local)
  gl : ∀ x, isGl sc x = true → Gl X x
  cell : ∀ x, (sc.names.lookup x = some .cell ∨ sc.names.lookup x = some .free) → X.env.scope.names.lookup x = some .cell ∨ X.env.scope.names.lookup x = some .free

/-- a state -/
structure Sm (K : PySem.W.Frag) (er : Nat → V → Prop) (m : List Addr) (F : Hp) (env : Env) (hs : Hs) (σ : L2.St) (H : Hp) : Prop where
  c : Cells m F hs H
  e : EnvR K er m F env σ
theorem Sm.fin {K : PySem.W.Frag} {er : Nat → V → Prop} {m m' : List Addr} {F F' H H' : Hp} {env : Env} {hs hs' : Hs} {σ : L2.St} (s : Sm K er m F env hs σ H) (f : Fin m F H hs' m' F' H') : Sm K er m' F' env hs' σ H' := ⟨f.2, s.e.ext f.1⟩
def wn (G : Ctx) (W : WX) (σ : L2.St) : Nat → Hp → Prop := fun c H => W (.ref (G.ca c)) none σ H
/-- the readings of the evaluator -/
def tE (K : PySem.W.Frag) (er : Nat → V → Prop) (G : Ctx) (W : WX) (C : Cf) (e : E) : TE := fun σ H Q => ∃ (m : List Addr) (F : Hp) (env : Env) (hs : Hs), Sm K er m F env hs σ H ∧
  Post (evalE C e env hs) m F H (fun r m' F' H' _ => ∀ v, RelR K er m' F' H H' r v → Q v H') (wn G W σ)
def tL (K : PySem.W.Frag) (er : Nat → V → Prop) (G : Ctx) (W : WX) (C : Cf) (e : E) : TA := fun σ H Q => ∃ (m : List Addr) (F : Hp) (env : Env) (hs : Hs), Sm K er m F env hs σ H ∧
  Post (evalL C e env hs) m F H (fun r m' F' H' _ => ∀ v, RelRs K er m' F' H H' r v → Q v H') (wn G W σ)
def tT (K : PySem.W.Frag) (er : Nat → V → Prop) (G : Ctx) (W : WX) (C : Cf) (e : E) : TT := fun σ H Q => ∃ (m : List Addr) (F : Hp) (env : Env) (hs : Hs), Sm K er m F env hs σ H ∧
  Post (evalT C e env hs) m F H (fun b m' F' H' _ => Q b H') (wn G W σ)

section
variable {K : PySem.W.Frag} {er : Nat → V → Prop} {G : Ctx} {W : WX} {C : Cf} {m : List Addr} {F H : Hp} {env : Env} {hs : Hs} {σ : L2.St} {α : Type}
/-- a part is asked -/
theorem sub_E {m1 : List Addr} {F1 H1 : Hp} {hs1 : Hs} {a : E} {g : R → Hs → Res α} {P : α → List Addr → Hp → Hp → Hs → Prop} {Q' : VK} (f : Fin m F H hs1 m1 F1 H1) (s : Sm K er m1 F1 env hs1 σ H1)
    (h : Post ((evalE C a env hs1).bind g) m F H P (wn G W σ))
    (k : ∀ r m2 F2 H2 hs2 v, Fin m F H hs2 m2 F2 H2 → Fin m1 F1 H1 hs2 m2 F2 H2 → Sm K er m2 F2 env hs2 σ H2 → RelR K er m2 F2 H H2 r v → Post (g r hs2) m F H P (wn G W σ) → Q' v H2) : tE K er G W C a σ H1 Q' :=
  ⟨m1, F1, env, hs1, s, (Post.on f (Post.bind h)).mono fun r m2 F2 H2 hs2 f2 p v rv => k r m2 F2 H2 hs2 v p.1 f2 (s.fin f2) (rv.back f.1.trk) p.2⟩
theorem sub_L {m1 : List Addr} {F1 H1 : Hp} {hs1 : Hs} {a : E} {g : List R → Hs → Res α} {P : α → List Addr → Hp → Hp → Hs → Prop} {Q' : List V → Hp → Prop} (f : Fin m F H hs1 m1 F1 H1) (s : Sm K er m1 F1 env hs1 σ H1)
    (h : Post ((evalL C a env hs1).bind g) m F H P (wn G W σ))
    (k : ∀ r m2 F2 H2 hs2 v, Fin m F H hs2 m2 F2 H2 → Fin m1 F1 H1 hs2 m2 F2 H2 → Sm K er m2 F2 env hs2 σ H2 → RelRs K er m2 F2 H H2 r v → Post (g r hs2) m F H P (wn G W σ) → Q' v H2) : tL K er G W C a σ H1 Q' :=
  ⟨m1, F1, env, hs1, s, (Post.on f (Post.bind h)).mono fun r m2 F2 H2 hs2 f2 p v rv => k r m2 F2 H2 hs2 v p.1 f2 (s.fin f2) (rv.back f.1.trk) p.2⟩
theorem post_of {x : Option α} {P : α → List Addr → Hp → Hp → Hs → Prop} {Wn : Nat → Hp → Prop} (h : Post (Res.of x hs) m F H P Wn) : ∃ a, x = some a ∧ Post (Res.ok a hs) m F H P Wn := by
  cases x with
  | none => exact h.elim
  | some a => exact ⟨a, rfl, h⟩
theorem same_none {a : Addr} (h : H a = none) : H a = none := h
end

/-! ### texts without a star, without a set -/
def noStar : Expr → Bool
  | .Starred .. => false
  | _ => true
theorem starE {e : Expr} {es : List Expr} {env : PySem.Env} (h : noStar e = true) : starEach (e :: es) env = (false, eval e env) :: starEach es env := by
  cases e <;> first | rfl | cases h
theorem star_plain {env : PySem.Env} {pos : Pos} : ∀ {es : List Expr}, (∀ e ∈ es, noStar e = true) → (backTo pos (starEach es env)).any (·.1) = false
  | [], _ => by simp [starEach, backTo]
  | e :: es, h => by
    rw [starE (h e List.mem_cons_self)]
    have ih := star_plain (env := env) (pos := pos) (es := es) fun x hx => h x (List.mem_cons_of_mem _ hx)
    simp only [backTo, List.map_cons, List.any_cons, Bool.or_eq_false_iff] at ih ⊢
    exact ⟨by first | rfl | trivial, by simpa using ih⟩
/-! ### the expressions, one by one -/
section
variable {G : Ctx} {X : Cx} {N : List Str} {sc : Scope} {C : Cf} {cm : Bool} {er : Nat → V → Prop} {W : WX}
theorem plainN_i {x : Str} (h : plainN x = true) : (x == ("__debug__" : Str)) = false ∧ (x == ("__classdict__" : Str)) = false ∧ x ≠ "__name__" := by
  unfold plainN at h
  simp only [Bool.and_eq_true, Bool.not_eq_true'] at h
  exact ⟨h.1.1, h.1.2, fun z => by rw [z] at h; simp at h⟩
theorem s_var (hx : XOk G X N sc C cm er W) {i : Nat} {x : Str} {p : Pos} (h : varOk N sc i x = true) : PE X (.Name x p) (tE X.K er G W C (.var i)) := by
  unfold varOk at h
  simp only [Bool.and_eq_true, decide_eq_true_eq] at h
  obtain ⟨h1, h2, _⟩ := plainN_i h.2
  refine pe_imp (pe_var (by rw [hx.hN]; exact h.1.1) (hx.vis x h.1.2) h1 h2) fun σ H Q ⟨m, F, env, hs, s, q⟩ => ?_
  simp only [evalE] at q
  cases e : env[i]? with
  | none => rw [e] at q; exact q.elim
  | some o =>
    rw [e] at q
    cases o with
    | none => exact q.elim
    | some w =>
      obtain ⟨v, e1, e2⟩ := s.e.2 i w e
      exact ⟨v, e1, q m F H (.refl s.c) v e2⟩
theorem lstAtI_i {i n : Nat} {env : Env} {h : Hs} {xs : List PyData} (e : lstAtI i env h = some (n, xs)) : env[i]? = some (some (.r n)) ∧ h[n]? = some (.lst xs) := by
  unfold lstAtI at e
  split at e
  · rename_i n' h1
    split at e
    · rename_i xs' h2
      cases e
      exact ⟨h1, h2⟩
    · cases e
  · cases e
/-- a list that is held as data from now on -/
theorem s_give (hx : XOk G X N sc C cm er W) {i : Nat} {x : Str} {p : Pos} (h : varOk N sc i x = true) : PE X (.Name x p) (tE X.K er G W C (.give i)) := by
  unfold varOk at h
  simp only [Bool.and_eq_true, decide_eq_true_eq] at h
  obtain ⟨h1, h2, _⟩ := plainN_i h.2
  refine pe_imp (pe_var (by rw [hx.hN]; exact h.1.1) (hx.vis x h.1.2) h1 h2) fun σ H Q ⟨m, F, env, hs, s, q⟩ => ?_
  simp only [evalE] at q
  cases e : lstAtI i env hs with
  | none => rw [e] at q; exact q.elim
  | some o =>
    obtain ⟨n, xs⟩ := o
    rw [e] at q
    dsimp only at q
    obtain ⟨g1, g2⟩ := lstAtI_i e
    obtain ⟨v, e1, a, ha, rfl⟩ := s.e.2 i _ g1
    obtain ⟨vs, k1, k2⟩ := s.c.cell n _ a g2 ha
    obtain ⟨c2, x2, r2⟩ := s.c.give ha g2 k1 k2
    exact ⟨_, e1, q m _ H ⟨x2, c2⟩ _ r2⟩
theorem s_cst {d : PyData} {c : Const} {k : Nat} {p : Pos} (h : cstOk d c = true) : PE X (.Constant c k p) (tE X.K er G W C (.cst d)) := by
  cases d with
  | int i =>
    cases c with
    | int j =>
      have : i = j := by simpa [cstOk] using h
      subst this
      exact pe_imp pe_int fun σ H Q ⟨m, F, env, hs, s, q⟩ => q m F H (.refl s.c) _ rel_int
    | _ => cases h
  | bool i =>
    cases c with
    | bool j =>
      have : i = j := by simpa [cstOk] using h
      subst this
      exact pe_imp pe_bl fun σ H Q ⟨m, F, env, hs, s, q⟩ => q m F H (.refl s.c) _ rel_bool
    | _ => cases h
  | str i =>
    cases c with
    | str j =>
      have : i = j := by simpa [cstOk] using h
      subst this
      exact pe_imp pe_str fun σ H Q ⟨m, F, env, hs, s, q⟩ => q m F H (.refl s.c) _ rel_str
    | _ => cases h
  | none =>
    cases c with
    | none => exact pe_imp pe_non fun σ H Q ⟨m, F, env, hs, s, q⟩ => q m F H (.refl s.c) _ rel_none
    | _ => cases h
  | _ => cases c <;> cases h
mutual
theorem same_eq : ∀ {x y : PyData}, same x y = true → x = y
  | .none, .none, _ => rfl
  | .bool a, .bool b, h => by simp [same] at h; rw [h]
  | .int a, .int b, h => by simp [same] at h; rw [h]
  | .str a, .str b, h => by simp [same] at h; rw [h]
  | .list a, .list b, h => by simp only [same] at h; rw [sameL_eq h]
  | .tuple a, .tuple b, h => by simp only [same] at h; rw [sameL_eq h]
  | .none, .bool _, h | .none, .int _, h | .none, .str _, h | .none, .list _, h | .none, .tuple _, h | .none, .dict _, h => by simp [same] at h
  | .bool _, .none, h | .bool _, .int _, h | .bool _, .str _, h | .bool _, .list _, h | .bool _, .tuple _, h | .bool _, .dict _, h => by simp [same] at h
  | .int _, .none, h | .int _, .bool _, h | .int _, .str _, h | .int _, .list _, h | .int _, .tuple _, h | .int _, .dict _, h => by simp [same] at h
  | .str _, .none, h | .str _, .bool _, h | .str _, .int _, h | .str _, .list _, h | .str _, .tuple _, h | .str _, .dict _, h => by simp [same] at h
  | .list _, .none, h | .list _, .bool _, h | .list _, .int _, h | .list _, .str _, h | .list _, .tuple _, h | .list _, .dict _, h => by simp [same] at h
  | .tuple _, .none, h | .tuple _, .bool _, h | .tuple _, .int _, h | .tuple _, .str _, h | .tuple _, .list _, h | .tuple _, .dict _, h => by simp [same] at h
  | .dict kvs, y, h => by
    cases y with
    | dict kvs' => cases kvs <;> cases kvs' <;> first | rfl | (simp [same] at h)
    | _ => cases kvs <;> simp [same] at h
theorem sameL_eq : ∀ {x y : List PyData}, sameL x y = true → x = y
  | [], [], _ => rfl
  | [], _ :: _, h => by simp [sameL] at h
  | _ :: _, [], h => by simp [sameL] at h
  | a :: x, b :: y, h => by
    simp only [sameL, Bool.and_eq_true] at h
    rw [same_eq h.1, sameL_eq h.2]
end
theorem glOk_i (hx : XOk G X N sc C cm er W) {x : Str} (h : glOk sc x = true) : Gl X x ∧ (x == ("__debug__" : Str)) = false ∧ x ≠ "__name__" := by
  unfold glOk at h
  simp only [Bool.and_eq_true] at h
  obtain ⟨h1, _, h3⟩ := plainN_i h.2
  exact ⟨hx.gl x h.1, h1, h3⟩
theorem s_gc (hx : XOk G X N sc C cm er W) {x : Str} {d : PyData} {p : Pos} (h : glOk sc x = true) (e : G.cv x = some d) : PE X (.Name x p) (tE X.K er G W C (.gc x d)) := by
  obtain ⟨h1, h2, _⟩ := glOk_i hx h
  obtain ⟨v, u, m1, r1, r2⟩ := hx.cv x d e
  exact pe_imp (pe_glob h1 m1 r1 h2) fun σ H Q ⟨m, F, env, hs, s, q⟩ => q m F H (.refl s.c) _ (r2 F)
theorem s_nil : PA X [] (tL X.K er G W C .nil) := pa_imp pa_nil fun σ H Q ⟨m, F, env, hs, s, q⟩ => q m F H (.refl s.c) _ .nil
theorem s_cons {a r : E} {x : Expr} {xs : List Expr} (ns : noStar x = true) (ha : PE X x (tE X.K er G W C a)) (hr : PA X xs (tL X.K er G W C r)) : PA X (x :: xs) (tL X.K er G W C (.cons a r)) := by
  refine pa_imp (pa_cons ha hr (starE ns)) fun σ H Q ⟨m, F, env, hs, s, q⟩ => ?_
  simp only [evalL] at q
  refine sub_E (.refl s.c) s q fun r1 m1 F1 H1 hs1 v1 f1 _ s1 rv1 q1 => ?_
  refine sub_L f1 s1 q1 fun r2 m2 F2 H2 hs2 v2 f2 g2 s2 rv2 q2 => ?_
  exact q2 m2 F2 H2 f2 _ (.cons (rv1.ext g2.1) rv2)
/-- displays -/
theorem allD_rp {m : List Addr} {F H0 H : Hp} : ∀ {rs : List R} {vs : List V} {ds : List PyData}, allD rs = some ds → RelRs X.K er m F H0 H rs vs → (∀ r ∈ rs, ∃ x, r = .v (.d x)) → RpL F ds vs
  | [], _, ds, e, .nil, _ => by
    simp only [allD, Option.some.injEq] at e
    subst e
    exact RpL.nil_iff.mpr rfl
  | r :: rs, _, ds, e, .cons h t, g => by
    obtain ⟨x, rfl⟩ := g r List.mem_cons_self
    simp only [allD, R.data] at e
    cases q : allD rs with
    | none => rw [q] at e; cases e
    | some xs =>
      rw [q] at e
      cases e
      exact .cons h (allD_rp q t fun r hr => g r (List.mem_cons_of_mem _ hr))
theorem s_bin {o : BOp} {a b : E} {x y : Expr} {p : Pos} (ha : PE X x (tE X.K er G W C a)) (hb : PE X y (tE X.K er G W C b)) : PE X (.BinOp x (opOf o) y p) (tE X.K er G W C (.bin o a b)) := by
  refine pe_imp (pe_op (op_bin o) ha hb) fun σ H Q ⟨m, F, env, hs, s, q⟩ => ?_
  simp only [evalE] at q
  refine sub_E (.refl s.c) s q fun r1 m1 F1 H1 hs1 v1 f1 _ s1 rv1 q1 => ?_
  refine sub_E f1 s1 q1 fun r2 m2 F2 H2 hs2 v2 f2 g2 s2 rv2 q2 => ?_
  obtain ⟨r, e, q3⟩ := post_of q2
  unfold look2 at e
  split at e
  · rename_i dx dy e1 e2
    exact ⟨F2, dx, dy, r, f2.2.frz, look_lk f2.2 (rv1.ext g2.1) e1, look_lk f2.2 rv2 e2, e, fun v H' g => q3.give f2 g⟩
  · cases e
theorem s_neg {a : E} {x : Expr} {p : Pos} (ha : PE X x (tE X.K er G W C a)) : PE X (.UnaryOp .USub x p) (tE X.K er G W C (.neg a)) := by
  refine pe_imp (pe_un un_neg ha) fun σ H Q ⟨m, F, env, hs, s, q⟩ => ?_
  simp only [evalE] at q
  refine sub_E (.refl s.c) s q fun r1 m1 F1 H1 hs1 v1 f1 _ s1 rv1 q1 => ?_
  split at q1
  · rename_i i
    cases (Rp.int_of (F := F1) rv1)
    exact ⟨i, rfl, q1.tell f1 rel_int⟩
  · exact q1.elim
/-- a comparison's reading -/
theorem cmp_gives {o : COp} {m : List Addr} {F H0 H : Hp} {hs : Hs} {a b : R} {x y : V} {k : Bool} {Q : VK} (hu : X.A.units + 200 < cLine) (c : Cells m F hs H) (ra : RelR X.K er m F H0 H a x) (rb : RelR X.K er m F H0 H b y) (e : cmpO o a b hs = some k) (q : Q (.bl k) H) :
    (∃ a' kvs i, o = .inn ∧ x = .int i ∧ y = .ref a' ∧ DRd F H a' kvs ∧ k = (dget kvs i).isSome) ∨ (∃ a' kvs i, o = .nin ∧ x = .int i ∧ y = .ref a' ∧ DRd F H a' kvs ∧ k = !(dget kvs i).isSome) ∨ rCmp o x y H Q := by
  unfold cmpO at e
  split at e
  · rename_i kvs hk
    obtain ⟨a', ey, hc⟩ := lookD_cell c rb hk
    split at e
    · cases e
      exact .inl ⟨a', kvs, _, rfl, Rp.int_of (F := F) ra, ey, hc, rfl⟩
    · cases e
      exact .inr (.inl ⟨a', kvs, _, rfl, Rp.int_of (F := F) ra, ey, hc, rfl⟩)
    · cases e
  · unfold look2 at e
    split at e
    · rename_i dx dy e1 e2
      exact .inr (.inr ⟨F, dx, dy, k, c.frz, look_lk c ra e1, look_lk c rb e2, e, q⟩)
    · cases e
end
end Mi

/-! Mi: holding what is new; displays. -/
namespace Mi
open PySem PySem.Spec PyProof.Rows L2

section
variable {K : PySem.W.Frag} {er : Nat → V → Prop} {m : List Addr} {F F' H0 H : Hp} {hs : Hs}
theorem RelW.sub (s : Sub F F') {w : W} {v : V} (h : RelW K er m F w v) : RelW K er m F' w v := by
  cases w with
  | d y => exact Rp.sub s _ _ h
  | r n => exact h
  | e c => exact h
  | s ns =>
    obtain ⟨a, h1, h2⟩ := h
    refine ⟨a, h1, ?_⟩
    rcases h2 with (h2 | ⟨o, h2⟩) | h2
    · exact .inl (.inl (s _ _ h2))
    · exact .inl (.inr ⟨o, s _ _ h2⟩)
    · exact .inr h2
theorem RelWs.sub (s : Sub F F') : ∀ {ws : List W} {vs : List V}, RelWs K er m F ws vs → RelWs K er m F' ws vs
  | _, _, .nil => .nil
  | _, _, .cons a b => .cons (RelW.sub s a) (RelWs.sub s b)
/-- as RelR, but what is new may be held by now -/
def Hd (K : PySem.W.Frag) (er : Nat → V → Prop) (m : List Addr) (F H0 H : Hp) : R → V → Prop
  | .v w, v => RelW K er m F w v
  | .fl xs, v => ∃ a vs, v = .ref a ∧ H a = some (.lst vs) ∧ RpL F xs vs ∧ ((F a = none ∧ a ∉ m ∧ H0 a = none) ∨ F a = some (.lst vs))
  | .fd kvs, v => ∃ a, v = .ref a ∧ CellR F H a (.dct kvs) ∧ ((F a = none ∧ a ∉ m ∧ H0 a = none) ∨ F a = H a)
  | .ft ws, v => ∃ a vs, v = .ref a ∧ F a = some (.tup vs) ∧ RelWs K er m F ws vs
theorem RelR.hd {r : R} {v : V} (h : RelR K er m F H0 H r v) : Hd K er m F H0 H r v := by
  cases r with
  | v w => exact h
  | fl xs =>
    obtain ⟨a, vs, e, h1, h2, h3⟩ := h
    exact ⟨a, vs, e, h1, h2, .inl h3⟩
  | fd kvs =>
    obtain ⟨a, e, h1, h3⟩ := h
    exact ⟨a, e, h1, .inl h3⟩
  | ft ws => exact h
theorem CellR.sub (s : Sub F F') {a : Addr} {c : Cell} (h : CellR F H a c) : CellR F' H a c := h.step s rfl
/-- one object is held -/
theorem Hd.upd {r : R} {v : V} {a : Addr} {o : HO} (n : F a = none) (ho : H a = some o) (h : Hd K er m F H0 H r v) : Hd K er m (upd F a o) H0 H r v := by
  have s : Sub F (L2.upd F a o) := sub_upd n
  cases r with
  | v w => exact RelW.sub s h
  | fl xs =>
    obtain ⟨b, vs, e, h1, h2, h3⟩ := h
    refine ⟨b, vs, e, h1, RpL.sub s _ _ h2, ?_⟩
    by_cases hb : b = a
    · subst hb
      rw [h1] at ho
      cases ho
      exact .inr upd_same
    · rcases h3 with h3 | h3
      · exact .inl ⟨by rw [upd_ne hb]; exact h3.1, h3.2⟩
      · exact .inr (s _ _ h3)
  | fd kvs =>
    obtain ⟨b, e, h1, h3⟩ := h
    refine ⟨b, e, h1.sub s, ?_⟩
    by_cases hb : b = a
    · subst hb
      exact .inr (by rw [upd_same, ho])
    · rcases h3 with h3 | h3
      · exact .inl ⟨by rw [upd_ne hb]; exact h3.1, h3.2⟩
      · exact .inr (by rw [upd_ne hb]; exact h3)
  | ft ws =>
    obtain ⟨b, vs, e, h1, h2⟩ := h
    exact ⟨b, vs, e, s _ _ h1, RelWs.sub s h2⟩
/-- what holding leaves -/
structure Held (K : PySem.W.Frag) (er : Nat → V → Prop) (m : List Addr) (F H0 H : Hp) (hs : Hs) (F' : Hp) : Prop where
  c : Cells m F' hs H
  s : Sub F F'
  n : ∀ a, F a = none → F' a ≠ none → H0 a = none
  hd : ∀ r v, Hd K er m F H0 H r v → Hd K er m F' H0 H r v
theorem Held.refl (c : Cells m F hs H) : Held K er m F H0 H hs F := ⟨c, Sub.refl F, fun _ e g => absurd e g, fun _ _ h => h⟩
theorem Held.trans {F2 : Hp} (a : Held K er m F H0 H hs F') (b : Held K er m F' H0 H hs F2) : Held K er m F H0 H hs F2 :=
  ⟨b.c, a.s.trans b.s, fun x e g => by
    cases q : F' x with
    | none => exact b.n x q g
    | some o => exact a.n x e (by rw [q]; simp), fun r v h => b.hd r v (a.hd r v h)⟩
theorem Held.fin {m0 : List Addr} {F0 : Hp} (h : Held K er m F H0 H hs F') (f : Fin m0 F0 H0 hs m F H) : Fin m0 F0 H0 hs m F' H :=
  ⟨⟨f.1.pre, f.1.frz.trans h.s, f.1.old, f.1.trk, f.1.new, fun a e g => by
    cases q : F a with
    | none => exact .inl (h.n a q g)
    | some o => exact (f.1.nfz a e (by rw [q]; simp)).mono h.s, f.1.lck⟩, h.c⟩
/-- a result is held as the value that R.w says -/
theorem hold1 {r : R} {v : V} {w : W} (c : Cells m F hs H) (h : Hd K er m F H0 H r v) (e : r.w = some w) : ∃ F', Held K er m F H0 H hs F' ∧ RelW K er m F' w v := by
  cases r with
  | v x =>
    simp only [R.w, Option.some.injEq] at e
    subst e
    exact ⟨F, .refl c, h⟩
  | fl xs =>
    simp only [R.w, Option.some.injEq] at e
    subst e
    obtain ⟨a, vs, rfl, h1, h2, h3⟩ := h
    rcases h3 with ⟨h3, h4, h5⟩ | h3
    · refine ⟨upd F a (.lst vs), ⟨c.hold (dn_lst h1) h3 h4, sub_upd h3, fun b eb g => ?_, fun r v q => q.upd h3 h1⟩, fl_hold h1 h2 h3⟩
      by_cases hb : b = a
      · rw [hb]
        exact h5
      · rw [upd_ne hb] at g
        exact absurd eb g
    · exact ⟨F, .refl c, Rp.list_iff.mpr ⟨a, vs, rfl, h3, h2⟩⟩
  | fd kvs =>
    cases kvs with
    | nil =>
      simp only [R.w, Option.some.injEq] at e
      subst e
      obtain ⟨a, rfl, ⟨ks, h1, h2, _⟩, h3⟩ := h
      have : ks = [] := by simpa using h2.symm
      subst this
      rcases h3 with ⟨h3, h4, h5⟩ | h3
      · refine ⟨upd F a (.dK []), ⟨c.hold (dn_dK h1) h3 h4, sub_upd h3, fun b eb g => ?_, fun r v q => q.upd h3 h1⟩, ?_⟩
        · by_cases hb : b = a
          · rw [hb]
            exact h5
          · rw [upd_ne hb] at g
            exact absurd eb g
        · show Rp _ _ _
          simp only [Rp]
          exact ⟨trivial, a, rfl, upd_same⟩
      · refine ⟨F, .refl c, ?_⟩
        show Rp _ _ _
        simp only [Rp]
        exact ⟨trivial, a, rfl, h3.trans h1⟩
    | cons p q => simp [R.w] at e
  | ft ws => simp [R.w] at e
theorem R.data_w {r : R} {x : PyData} (e : r.data = some x) : r.w = some (.d x) := by
  unfold R.data at e
  split at e <;> first | (cases e; rfl) | cases e
def Hds (K : PySem.W.Frag) (er : Nat → V → Prop) (m : List Addr) (F H0 H : Hp) : List R → List V → Prop := Paired (Hd K er m F H0 H)
theorem RelRs.hd : ∀ {rs : List R} {vs : List V}, RelRs K er m F H0 H rs vs → Hds K er m F H0 H rs vs
  | _, _, .nil => .nil
  | _, _, .cons a b => .cons a.hd (RelRs.hd b)
theorem Held.hds (h : Held K er m F H0 H hs F') : ∀ {rs : List R} {vs : List V}, Hds K er m F H0 H rs vs → Hds K er m F' H0 H rs vs
  | _, _, .nil => .nil
  | _, _, .cons a b => .cons (h.hd _ _ a) (Held.hds h b)
theorem holdW : ∀ {rs : List R} {vs : List V} {ws : List W} {F : Hp}, Cells m F hs H → Hds K er m F H0 H rs vs → allW rs = some ws → ∃ F', Held K er m F H0 H hs F' ∧ RelWs K er m F' ws vs
  | _, _, ws, F, c, .nil, e => by
    simp only [allW, Option.some.injEq] at e
    subst e
    exact ⟨F, .refl c, .nil⟩
  | r :: rs, _, ws, F, c, .cons a b, e => by
    simp only [allW] at e
    split at e
    · rename_i w ws' e1 e2
      cases e
      obtain ⟨F1, h1, q1⟩ := hold1 c a e1
      obtain ⟨F2, h2, q2⟩ := holdW h1.c (h1.hds b) e2
      exact ⟨F2, h1.trans h2, .cons (q1.sub h2.s) q2⟩
    · cases e
theorem holdD : ∀ {rs : List R} {vs : List V} {ds : List PyData} {F : Hp}, Cells m F hs H → Hds K er m F H0 H rs vs → allD rs = some ds → ∃ F', Held K er m F H0 H hs F' ∧ RpL F' ds vs
  | _, _, ws, F, c, .nil, e => by
    simp only [allD, Option.some.injEq] at e
    subst e
    exact ⟨F, .refl c, RpL.nil_iff.mpr rfl⟩
  | r :: rs, _, ws, F, c, .cons a b, e => by
    simp only [allD] at e
    split at e
    · rename_i w ws' e1 e2
      cases e
      obtain ⟨F1, h1, q1⟩ := hold1 c a (R.data_w e1)
      obtain ⟨F2, h2, q2⟩ := holdD h1.c (h1.hds b) e2
      exact ⟨F2, h1.trans h2, .cons (Rp.sub h2.s _ _ q1) q2⟩
    · cases e
theorem RelRs.length : ∀ {rs : List R} {vs : List V}, RelRs K er m F H0 H rs vs → vs.length = rs.length
  | _, _, .nil => rfl
  | _, _, .cons a b => by rw [List.length_cons, List.length_cons, RelRs.length b]
end
section
variable {G : Ctx} {X : Cx} {N : List Str} {sc : Scope} {C : Cf} {cm : Bool} {er : Nat → V → Prop} {W : WX}
theorem s_tup {es : E} {xs : List Expr} {k : Nat} {p : Pos} (ha : PA X xs (tL X.K er G W C es)) : PE X (.Tuple xs k p) (tE X.K er G W C (.tup es)) := by
  refine pe_imp (pe_tupK ha) fun σ H Q ⟨m, F, env, hs, s, q⟩ => ?_
  simp only [evalE] at q
  refine sub_L (.refl s.c) s q fun rs m1 F1 H1 hs1 vs f1 _ s1 rv1 q1 => ?_
  obtain ⟨r, e, q2⟩ := post_of q1
  unfold tupR at e
  split at e
  · rename_i hl
    refine ⟨by rw [rv1.length]; exact line_le hl, fun a ob na nd => ?_⟩
    split at e
    · rename_i ds hd
      cases e
      obtain ⟨F2, h2, r2⟩ := holdD f1.2 rv1.hd hd
      exact q2.give (h2.fin f1) (.inr ⟨ds, a, vs, ob, rfl, rfl, na, nd, rfl, r2⟩)
    · cases hw : allW rs with
      | none => rw [hw] at e; cases e
      | some ws =>
        rw [hw] at e
        cases e
        obtain ⟨F2, h2, r2⟩ := holdW f1.2 rv1.hd hw
        have f2 := h2.fin f1
        obtain ⟨c3, e3⟩ := h2.c.new (o := .frz ob (.tup vs)) na
        have fa := h2.c.fnone na
        refine q2.tell (f2.trans ⟨ext_hold e3 fa na, c3.hold (dn_mk upd_same nd) fa (h2.c.mnone na)⟩) ?_
        exact ⟨a, vs, rfl, upd_same, r2.sub (sub_upd fa)⟩
  · cases e
theorem s_lst {es : E} {xs : List Expr} {p : Pos} (ha : PA X xs (tL X.K er G W C es)) : PE X (.List xs p) (tE X.K er G W C (.lst es)) := by
  refine pe_imp (pe_lst ha) fun σ H Q ⟨m, F, env, hs, s, q⟩ => ?_
  simp only [evalE] at q
  refine sub_L (.refl s.c) s q fun rs m1 F1 H1 hs1 vs f1 _ s1 rv1 q1 => ?_
  obtain ⟨r, e, q2⟩ := post_of q1
  unfold lstR at e
  split at e
  · rename_i hl
    refine ⟨by rw [rv1.length]; exact line_le hl, fun a na => ?_⟩
    cases hd : allD rs with
    | none => rw [hd] at e; cases e
    | some ds =>
      rw [hd] at e
      cases e
      obtain ⟨F2, h2, r2⟩ := holdD f1.2 rv1.hd hd
      exact q2.give (h2.fin f1) ⟨a, vs, rfl, na, rfl, r2⟩
  · cases e
theorem s_dct0 {p : Pos} : PE X (.Dict [] [] p) (tE X.K er G W C (.dct .nil .nil)) := by
  refine pe_imp pe_dnewK fun σ H Q ⟨m, F, env, hs, s, q⟩ => ?_
  simp only [evalE, evalL, Res.bind_ok] at q
  exact fun a na => q.give (.refl s.c) ⟨a, [], rfl, na, rfl, [], upd_same, rfl, (fun _ z => nomatch z), RpL.nil_iff.mpr rfl⟩
end
end Mi

/-! Mi: comparisons, truth, subscripts. -/
namespace Mi
open PySem PySem.Spec PyProof.Rows L2

section
variable {F H : Hp}
theorem inl_inj : ∀ {a b : List Int}, a.map (Sum.inl : Int → Key) = b.map Sum.inl → a = b
  | [], [], _ => rfl
  | [], _ :: _, h => by simp at h
  | _ :: _, [], h => by simp at h
  | x :: a, y :: b, h => by
    rw [List.map_cons, List.map_cons, List.cons.injEq] at h
    rw [Sum.inl.inj h.1, inl_inj h.2]
theorem dget_val : ∀ {kvs : List (Int × PyData)} {ks : List (Key × V)}, kvs.map (·.1) = ks.map (fun p => p.1.elim id fun _ => 0) → (∀ p ∈ ks, ∃ i, p.1 = Sum.inl i) → RpL F (kvs.map (·.2)) (ks.map (·.2)) → ∀ i : Int,
    (dget kvs i = none ∧ valV ks (Sum.inl i) = none) ∨ ∃ d v, dget kvs i = some d ∧ valV ks (Sum.inl i) = some v ∧ Rp F d v
  | [], [], _, _, _, i => .inl ⟨rfl, rfl⟩
  | [], _ :: _, h, _, _, _ => by simp at h
  | _ :: _, [], h, _, _, _ => by simp at h
  | p :: kvs, k :: ks, h, g, r, i => by
    simp only [List.map_cons, List.cons.injEq] at h
    obtain ⟨j, hj⟩ := g k List.mem_cons_self
    obtain ⟨v, w, e, r1, r2⟩ := RpL.cons_iff.mp r
    rw [List.map_cons, List.cons.injEq] at e
    have hp : p.1 = j := by rw [h.1, hj]; rfl
    by_cases c : p.1 = i
    · refine .inr ⟨p.2, k.2, ?_, ?_, ?_⟩
      · unfold dget
        rw [List.find?_cons_of_pos (by simpa using c)]
        rfl
      · refine valV_pos ?_
        rw [hj, ← hp, c]
      · rw [e.1]
        exact r1
    · have ih := dget_val h.2 (fun q hq => g q (List.mem_cons_of_mem _ hq)) (by rw [e.2]; exact r2) i
      have e1 : dget (p :: kvs) i = dget kvs i := by
        unfold dget
        rw [List.find?_cons_of_neg (by simpa using c)]
      have e2 : valV (k :: ks) (Sum.inl i) = valV ks (Sum.inl i) := by
        refine valV_neg ?_
        rw [hj, ← hp]
        exact fun z => c (Sum.inl.inj z)
      rw [e1, e2]
      exact ih
theorem cell_dget {a : Addr} {kvs : List (Int × PyData)} (h : DRd F H a kvs) (i : Int) : (dget kvs i = none ∧ DGet H a (.int i) none) ∨ ∃ d v, dget kvs i = some d ∧ DGet H a (.int i) (some v) ∧ Rp F d v := by
  obtain ⟨ks, h1, h2, h3, h4⟩ := h
  have g : DGet H a (.int i) (valV ks (Sum.inl i)) := .inl ⟨ks, Sum.inl i, h1, rfl, rfl⟩
  rcases dget_val h2 h3 h4 i with ⟨e1, e2⟩ | ⟨d, v, e1, e2, e3⟩
  · rw [e2] at g
    exact .inl ⟨e1, g⟩
  · rw [e2] at g
    exact .inr ⟨d, v, e1, g, e3⟩
end
section
variable {G : Ctx} {X : Cx} {N : List Str} {sc : Scope} {C : Cf} {cm : Bool} {er : Nat → V → Prop} {W : WX}
def notSet : Expr → Bool
  | .Set .. => false
  | _ => true
theorem noBehind {op : CmpOp} {e : Expr} (h : notSet e = true) : behindInMarks op e = false := by
  cases e <;> first | rfl | cases h
/-- the comparison as an operator -/
def rCmpR (K : PySem.W.Frag) (er : Nat → V → Prop) (o : COp) : R2 := fun x y H Q => ∃ (m : List Addr) (F H0 : Hp) (hs : Hs) (a b : R) (k : Bool), Cells m F hs H ∧ RelR K er m F H0 H a x ∧ RelR K er m F H0 H b y ∧ cmpO o a b hs = some k ∧ Q (.bl k) H
theorem cmp_rule (hu : X.A.units + 200 < cLine) {o : COp} : OpR X (compareOp (copOf o)) (rCmpR X.K er o) := by
  intro pins s σ H x y v u Q I rx ry ⟨m, F, H0, hs, a, b, k, c, ra, rb, e, q⟩
  rcases cmp_gives hu c ra rb e q with ⟨a', kvs, i, rfl, rfl, rfl, hc, rfl⟩ | ⟨a', kvs, i, rfl, rfl, rfl, hc, rfl⟩ | h
  · rcases cell_dget hc i with ⟨e1, g⟩ | ⟨d, w, e1, g, _⟩
    · rw [e1] at q
      cases ry
      exact d_in (by omega) I g rx fun s3 I3 => ⟨.bl _, H, I3, rfl, q⟩
    · rw [e1] at q
      cases ry
      exact d_in (by omega) I g rx fun s3 I3 => ⟨.bl _, H, I3, rfl, q⟩
  · rcases cell_dget hc i with ⟨e1, g⟩ | ⟨d, w, e1, g, _⟩
    · rw [e1] at q
      cases ry
      exact d_notIn (by omega) I g rx fun s3 I3 => ⟨.bl _, H, I3, rfl, q⟩
    · rw [e1] at q
      cases ry
      exact d_notIn (by omega) I g rx fun s3 I3 => ⟨.bl _, H, I3, rfl, q⟩
  · exact op_cmp o hu pins s σ H x y v u Q I rx ry h
theorem s_cmp (hx : XOk G X N sc C cm er W) {o : COp} {a b : E} {x y : Expr} {p : Pos} (ns : notSet y = true) (ha : PE X x (tE X.K er G W C a)) (hb : PE X y (tE X.K er G W C b)) : PE X (.Compare x [copOf o] [y] p) (tE X.K er G W C (.cmp o a b)) := by
  refine pe_imp (pe_cmpR (cmp_rule (er := er) hx.hu (o := o)) ha hb (noBehind ns)) fun σ H Q ⟨m, F, env, hs, s, q⟩ => ?_
  simp only [evalE] at q
  refine sub_E (.refl s.c) s q fun r1 m1 F1 H1 hs1 v1 f1 _ s1 rv1 q1 => ?_
  refine sub_E f1 s1 q1 fun r2 m2 F2 H2 hs2 v2 f2 g2 s2 rv2 q2 => ?_
  obtain ⟨r, e, q3⟩ := post_of q2
  cases hk : cmpO o r1 r2 hs2 with
  | none => rw [hk] at e; cases e
  | some k =>
    rw [hk] at e
    cases e
    exact ⟨m2, F2, H, hs2, r1, r2, k, f2.2, rv1.ext g2.1, rv2, hk, q3.tell f2 rel_bool⟩
theorem s_cmpT (hx : XOk G X N sc C cm er W) {o : COp} {a b : E} {x y : Expr} {p : Pos} (ns : notSet y = true) (ha : PE X x (tE X.K er G W C a)) (hb : PE X y (tE X.K er G W C b)) : PT X (.Compare x [copOf o] [y] p) (tT X.K er G W C (.cmp o a b)) := by
  refine pt_imp (pt_cmpR (cmp_rule (er := er) hx.hu (o := o)) ha hb (noBehind ns)) fun σ H Q ⟨m, F, env, hs, s, q⟩ => ?_
  simp only [evalT, evalE] at q
  refine sub_E (.refl s.c) s (Post.asc q) fun r1 m1 F1 H1 hs1 v1 f1 _ s1 rv1 q1 => ?_
  refine sub_E f1 s1 (Post.asc q1) fun r2 m2 F2 H2 hs2 v2 f2 g2 s2 rv2 q2 => ?_
  cases hk : cmpO o r1 r2 hs2 with
  | none => rw [hk] at q2; exact q2.elim
  | some k =>
    rw [hk] at q2
    exact ⟨m2, F2, H, hs2, r1, r2, k, f2.2, rv1.ext g2.1, rv2, hk, k, rfl, q2 m2 F2 H2 f2⟩
theorem lastMk {o q : CmpOp} {y z : Expr} (h : notSet z = true) : lastMarks [o, q] [y, z] = false := by
  show lastMarks [q] [z] = false
  show behindInMarks q z = false
  exact noBehind h
theorem s_chain (hx : XOk G X N sc C cm er W) {o o' : COp} {a b c : E} {x y z : Expr} {p : Pos} (ns : notSet z = true) (ha : PE X x (tE X.K er G W C a)) (hb : PE X y (tE X.K er G W C b)) (hc : PE X z (tE X.K er G W C c)) :
    PE X (.Compare x [copOf o, copOf o'] [y, z] p) (tE X.K er G W C (.chain o o' a b c)) := by
  refine pe_imp (pe_chain (cmp_rule (er := er) hx.hu (o := o)) (cmp_rule (er := er) hx.hu (o := o')) ha hb hc (lastMk ns)) fun σ H Q ⟨m, F, env, hs, s, q⟩ => ?_
  simp only [evalE] at q
  refine sub_E (.refl s.c) s q fun r1 m1 F1 H1 hs1 v1 f1 _ s1 rv1 q1 => ?_
  refine sub_E f1 s1 q1 fun r2 m2 F2 H2 hs2 v2 f2 g2 s2 rv2 q2 => ?_
  cases hk : cmpO o r1 r2 hs2 with
  | none => rw [hk] at q2; exact q2.elim
  | some k =>
    rw [hk] at q2
    refine ⟨m2, F2, H, hs2, r1, r2, k, f2.2, rv1.ext g2.1, rv2, hk, k, rfl, ?_⟩
    cases k with
    | false => exact iteF (q2.tell f2 rel_bool)
    | true =>
      refine iteT (sub_E f2 s2 q2 fun r3 m3 F3 H3 hs3 v3 f3 g3 s3 rv3 q3 => ?_)
      obtain ⟨r, e, q4⟩ := post_of q3
      cases hk3 : cmpO o' r2 r3 hs3 with
      | none => rw [hk3] at e; cases e
      | some k' =>
        rw [hk3] at e
        cases e
        exact ⟨m3, F3, H, hs3, r2, r3, k', f3.2, rv2.ext g3.1, rv3, hk3, q4.tell f3 rel_bool⟩
theorem s_chainT (hx : XOk G X N sc C cm er W) {o o' : COp} {a b c : E} {x y z : Expr} {p : Pos} (ns : notSet z = true) (ha : PE X x (tE X.K er G W C a)) (hb : PE X y (tE X.K er G W C b)) (hc : PE X z (tE X.K er G W C c)) :
    PT X (.Compare x [copOf o, copOf o'] [y, z] p) (tT X.K er G W C (.chain o o' a b c)) := by
  refine pt_imp (pt_chain (cmp_rule (er := er) hx.hu (o := o)) (cmp_rule (er := er) hx.hu (o := o')) ha hb hc (lastMk ns)) fun σ H Q ⟨m, F, env, hs, s, q⟩ => ?_
  simp only [evalT, evalE] at q
  refine sub_E (.refl s.c) s (Post.asc q) fun r1 m1 F1 H1 hs1 v1 f1 _ s1 rv1 q1 => ?_
  refine sub_E f1 s1 (Post.asc q1) fun r2 m2 F2 H2 hs2 v2 f2 g2 s2 rv2 q2 => ?_
  cases hk : cmpO o r1 r2 hs2 with
  | none => rw [hk] at q2; exact q2.elim
  | some k =>
    rw [hk] at q2
    refine ⟨m2, F2, H, hs2, r1, r2, k, f2.2, rv1.ext g2.1, rv2, hk, k, rfl, ?_⟩
    cases k with
    | false => exact iteF ⟨false, rfl, q2 m2 F2 H2 f2⟩
    | true =>
      refine iteT (sub_E f2 s2 (Post.asc q2) fun r3 m3 F3 H3 hs3 v3 f3 g3 s3 rv3 q3 => ?_)
      cases hk3 : cmpO o' r2 r3 hs3 with
      | none => rw [hk3] at q3; exact q3.elim
      | some k' =>
        rw [hk3] at q3
        exact ⟨m3, F3, H, hs3, r2, r3, k', f3.2, rv2.ext g3.1, rv3, hk3, k', rfl, q3 m3 F3 H3 f3⟩

/-! ### is None, is True -/
theorem isNone_v {m : List Addr} {F H0 H : Hp} {r : R} {v : V} (er0 : ∀ c v, er c v → v ≠ .non) (h : RelR X.K er m F H0 H r v) : decide (v = .non) = isNone r := by
  cases r with
  | v w =>
    cases w with
    | d x =>
      cases x with
      | none => rw [Rp.none_of (F := F) h]; rfl
      | bool b => rw [Rp.bool_of (F := F) h]; rfl
      | int b => rw [Rp.int_of (F := F) h]; rfl
      | str b => rw [Rp.str_of (F := F) h]; rfl
      | list ds =>
        obtain ⟨a, vs, rfl, _⟩ := Rp.list_iff.mp h
        rfl
      | tuple ds =>
        obtain ⟨a, vs, rfl, _⟩ := Rp.tuple_iff.mp h
        rfl
      | dict kvs =>
        have h' : Rp F (.dict kvs) v := h
        simp only [Rp] at h'
        obtain ⟨_, a, rfl, _⟩ := h'
        rfl
    | r n =>
      obtain ⟨a, _, rfl⟩ := h
      rfl
    | e c => exact decide_eq_false (er0 c v h)
    | s ns =>
      obtain ⟨a, rfl, _⟩ := h
      rfl
  | fl xs =>
    obtain ⟨a, vs, rfl, _⟩ := h
    rfl
  | fd kvs =>
    obtain ⟨a, rfl, _⟩ := h
    rfl
  | ft ws =>
    obtain ⟨a, vs, rfl, _⟩ := h
    rfl
theorem s_isN (hn : ∀ c v, er c v → v ≠ .non) {a : E} {x : Expr} {k : Nat} {p p' : Pos} (ha : PE X x (tE X.K er G W C a)) : PE X (.Compare x [.Is] [.Constant .none k p'] p) (tE X.K er G W C (.isN a)) := by
  refine pe_imp (pe_cmpR op_isN ha pe_non (noBehind rfl)) fun σ H Q ⟨m, F, env, hs, s, q⟩ => ?_
  simp only [evalE] at q
  refine sub_E (.refl s.c) s q fun r1 m1 F1 H1 hs1 v1 f1 _ s1 rv1 q1 => ?_
  exact ⟨rfl, by rw [isNone_v hn rv1]; exact q1.tell f1 rel_bool⟩
theorem s_isNT (hn : ∀ c v, er c v → v ≠ .non) {a : E} {x : Expr} {k : Nat} {p p' : Pos} (ha : PE X x (tE X.K er G W C a)) : PT X (.Compare x [.Is] [.Constant .none k p'] p) (tT X.K er G W C (.isN a)) := by
  refine pt_imp (pt_cmpR op_isN ha pe_non (noBehind rfl)) fun σ H Q ⟨m, F, env, hs, s, q⟩ => ?_
  simp only [evalT, evalE] at q
  refine sub_E (.refl s.c) s (Post.asc q) fun r1 m1 F1 H1 hs1 v1 f1 _ s1 rv1 q1 => ?_
  exact ⟨rfl, _, rfl, by rw [isNone_v hn rv1]; exact q1 m1 F1 H1 f1⟩
theorem s_isNN (hn : ∀ c v, er c v → v ≠ .non) {a : E} {x : Expr} {k : Nat} {p p' : Pos} (ha : PE X x (tE X.K er G W C a)) : PE X (.Compare x [.IsNot] [.Constant .none k p'] p) (tE X.K er G W C (.isNN a)) := by
  refine pe_imp (pe_cmpR op_notN ha pe_non (noBehind rfl)) fun σ H Q ⟨m, F, env, hs, s, q⟩ => ?_
  simp only [evalE] at q
  refine sub_E (.refl s.c) s q fun r1 m1 F1 H1 hs1 v1 f1 _ s1 rv1 q1 => ?_
  exact ⟨rfl, by rw [isNone_v hn rv1]; exact q1.tell f1 rel_bool⟩
theorem s_isNNT (hn : ∀ c v, er c v → v ≠ .non) {a : E} {x : Expr} {k : Nat} {p p' : Pos} (ha : PE X x (tE X.K er G W C a)) : PT X (.Compare x [.IsNot] [.Constant .none k p'] p) (tT X.K er G W C (.isNN a)) := by
  refine pt_imp (pt_cmpR op_notN ha pe_non (noBehind rfl)) fun σ H Q ⟨m, F, env, hs, s, q⟩ => ?_
  simp only [evalT, evalE] at q
  refine sub_E (.refl s.c) s (Post.asc q) fun r1 m1 F1 H1 hs1 v1 f1 _ s1 rv1 q1 => ?_
  exact ⟨rfl, _, rfl, by rw [isNone_v hn rv1]; exact q1 m1 F1 H1 f1⟩
theorem asB_v {m : List Addr} {F H0 H : Hp} {r : R} {v : V} {b : Bool} (h : RelR X.K er m F H0 H r v) (e : asB r = some b) : v = .bl b := by
  unfold asB at e
  split at e
  · cases e
    exact Rp.bool_of (F := F) h
  · cases e
theorem s_isB {a : E} {x : Expr} {b : Bool} {k : Nat} {p p' : Pos} (ha : PE X x (tE X.K er G W C a)) : PE X (.Compare x [.Is] [.Constant (.bool b) k p'] p) (tE X.K er G W C (.isB b a)) := by
  refine pe_imp (pe_cmpR op_isBl ha pe_bl (noBehind rfl)) fun σ H Q ⟨m, F, env, hs, s, q⟩ => ?_
  simp only [evalE] at q
  refine sub_E (.refl s.c) s q fun r1 m1 F1 H1 hs1 v1 f1 _ s1 rv1 q1 => ?_
  cases e : asB r1 with
  | none => rw [e] at q1; exact q1.elim
  | some c =>
    rw [e] at q1
    rw [asB_v rv1 e]
    exact ⟨c, b, rfl, rfl, q1.tell f1 rel_bool⟩
theorem s_isBT {a : E} {x : Expr} {b : Bool} {k : Nat} {p p' : Pos} (ha : PE X x (tE X.K er G W C a)) : PT X (.Compare x [.Is] [.Constant (.bool b) k p'] p) (tT X.K er G W C (.isB b a)) := by
  refine pt_imp (pt_cmpR op_isBl ha pe_bl (noBehind rfl)) fun σ H Q ⟨m, F, env, hs, s, q⟩ => ?_
  simp only [evalT, evalE] at q
  refine sub_E (.refl s.c) s (Post.asc q) fun r1 m1 F1 H1 hs1 v1 f1 _ s1 rv1 q1 => ?_
  cases e : asB r1 with
  | none => rw [e] at q1; exact q1.elim
  | some c =>
    rw [e] at q1
    rw [asB_v rv1 e]
    exact ⟨c, b, rfl, rfl, _, rfl, q1 m1 F1 H1 f1⟩
theorem s_isNB {a : E} {x : Expr} {b : Bool} {k : Nat} {p p' : Pos} (ha : PE X x (tE X.K er G W C a)) : PE X (.Compare x [.IsNot] [.Constant (.bool b) k p'] p) (tE X.K er G W C (.isNB b a)) := by
  refine pe_imp (pe_cmpR op_notBl ha pe_bl (noBehind rfl)) fun σ H Q ⟨m, F, env, hs, s, q⟩ => ?_
  simp only [evalE] at q
  refine sub_E (.refl s.c) s q fun r1 m1 F1 H1 hs1 v1 f1 _ s1 rv1 q1 => ?_
  cases e : asB r1 with
  | none => rw [e] at q1; exact q1.elim
  | some c =>
    rw [e] at q1
    rw [asB_v rv1 e]
    exact ⟨c, b, rfl, rfl, q1.tell f1 rel_bool⟩
theorem s_isNBT {a : E} {x : Expr} {b : Bool} {k : Nat} {p p' : Pos} (ha : PE X x (tE X.K er G W C a)) : PT X (.Compare x [.IsNot] [.Constant (.bool b) k p'] p) (tT X.K er G W C (.isNB b a)) := by
  refine pt_imp (pt_cmpR op_notBl ha pe_bl (noBehind rfl)) fun σ H Q ⟨m, F, env, hs, s, q⟩ => ?_
  simp only [evalT, evalE] at q
  refine sub_E (.refl s.c) s (Post.asc q) fun r1 m1 F1 H1 hs1 v1 f1 _ s1 rv1 q1 => ?_
  cases e : asB r1 with
  | none => rw [e] at q1; exact q1.elim
  | some c =>
    rw [e] at q1
    rw [asB_v rv1 e]
    exact ⟨c, b, rfl, rfl, _, rfl, q1 m1 F1 H1 f1⟩

/-! ### not, if, and, or -/
theorem s_not {a : E} {x : Expr} {p : Pos} (ha : PE X x (tE X.K er G W C a)) : PE X (.UnaryOp .Not x p) (tE X.K er G W C (.not_ a)) := by
  refine pe_imp (pe_not ha) fun σ H Q ⟨m, F, env, hs, s, q⟩ => ?_
  simp only [evalE] at q
  refine sub_E (.refl s.c) s q fun r1 m1 F1 H1 hs1 v1 f1 _ s1 rv1 q1 => ?_
  cases e : asB r1 with
  | none => rw [e] at q1; exact q1.elim
  | some c =>
    rw [e] at q1
    exact ⟨c, asB_v rv1 e, q1.tell f1 rel_bool⟩
/-- a test is asked -/
theorem sub_T {m m1 : List Addr} {F F1 H H1 : Hp} {env : Env} {hs1 : Hs} {σ : L2.St} {α : Type} {a : E} {g : R → Hs → Res α} {P : α → List Addr → Hp → Hp → Hs → Prop} {Q' : Bool → Hp → Prop} (f : Fin m F H hs1 m1 F1 H1) (s : Sm X.K er m1 F1 env hs1 σ H1)
    (h : Post ((evalE C a env hs1).bind g) m F H P (wn G W σ)) (hb : ∀ r hs, asB r = none → g r hs = .bad)
    (k : ∀ r b m2 F2 H2 hs2, asB r = some b → Fin m F H hs2 m2 F2 H2 → Sm X.K er m2 F2 env hs2 σ H2 → Post (g r hs2) m F H P (wn G W σ) → Q' b H2) : tT X.K er G W C a σ H1 Q' := by
  refine ⟨m1, F1, env, hs1, s, ?_⟩
  unfold evalT
  generalize evalE C a env hs1 = y at h
  cases y with
  | ok r hs2 =>
    have h' : Post (g r hs2) m F H P (wn G W σ) := h
    show Post (Res.of (asB r) hs2) m1 F1 H1 _ _
    cases e : asB r with
    | none =>
      rw [hb r hs2 e] at h'
      exact h'.elim
    | some b => exact fun m2 F2 H2 f2 => k r b m2 F2 H2 hs2 e (f.trans f2) (s.fin f2) h'
  | ex c hs2 => exact fun m2 F2 H2 f2 => h m2 F2 H2 (f.trans f2)
  | bad => exact h
theorem s_notT {a : E} {x : Expr} {p : Pos} (ha : PT X x (tT X.K er G W C a)) : PT X (.UnaryOp .Not x p) (tT X.K er G W C (.not_ a)) := by
  refine pt_imp (pt_not ha) fun σ H Q ⟨m, F, env, hs, s, q⟩ => ?_
  simp only [evalT, evalE] at q
  refine sub_T (.refl s.c) s (Post.asc q) (fun r hs e => by rw [e]; rfl) fun r b m2 F2 H2 hs2 e f2 s2 q2 => ?_
  rw [e] at q2
  exact q2 m2 F2 H2 f2
theorem s_ite {c a b : E} {x y z : Expr} {p : Pos} (hc : PT X x (tT X.K er G W C c)) (ha : PE X y (tE X.K er G W C a)) (hb : PE X z (tE X.K er G W C b)) : PE X (.IfExp x y z p) (tE X.K er G W C (.ite c a b)) := by
  refine pe_imp (pe_ifExp hc ha hb) fun σ H Q ⟨m, F, env, hs, s, q⟩ => ?_
  simp only [evalE] at q
  refine sub_T (.refl s.c) s q (fun r hs e => by rw [e]) fun r k m2 F2 H2 hs2 e f2 s2 q2 => ?_
  rw [e] at q2
  cases k with
  | true => exact iteT ⟨m2, F2, env, hs2, s2, (Post.on f2 q2).mono fun r m' F' H' hs' g h v rv => h.2 v (rv.back f2.1.trk)⟩
  | false => exact iteF ⟨m2, F2, env, hs2, s2, (Post.on f2 q2).mono fun r m' F' H' hs' g h v rv => h.2 v (rv.back f2.1.trk)⟩
/-- the rest, asked from here -/
theorem tE_on {m m2 : List Addr} {F F2 H H2 : Hp} {env : Env} {hs2 : Hs} {σ : L2.St} {a : E} {Q : VK} (f2 : Fin m F H hs2 m2 F2 H2) (s2 : Sm X.K er m2 F2 env hs2 σ H2)
    (q : Post (evalE C a env hs2) m F H (fun r m' F' H' _ => ∀ v, RelR X.K er m' F' H H' r v → Q v H') (wn G W σ)) : tE X.K er G W C a σ H2 Q :=
  ⟨m2, F2, env, hs2, s2, (Post.on f2 q).mono fun r m' F' H' hs' g h v rv => h.2 v (rv.back f2.1.trk)⟩

def tA (K : PySem.W.Frag) (er : Nat → V → Prop) (G : Ctx) (W : WX) (C : Cf) (es : E) : TE := fun σ H Q => ∃ (m : List Addr) (F : Hp) (env : Env) (hs : Hs), Sm K er m F env hs σ H ∧
  Post (evalA C es env hs) m F H (fun r m' F' H' _ => ∀ v, RelR K er m' F' H H' r v → Q v H') (wn G W σ)
def tAT (K : PySem.W.Frag) (er : Nat → V → Prop) (G : Ctx) (W : WX) (C : Cf) (es : E) : TT := fun σ H Q => ∃ (m : List Addr) (F : Hp) (env : Env) (hs : Hs), Sm K er m F env hs σ H ∧
  Post ((evalA C es env hs).bind fun x h => Res.of (asB x) h) m F H (fun b m' F' H' _ => Q b H') (wn G W σ)
def tO (K : PySem.W.Frag) (er : Nat → V → Prop) (G : Ctx) (W : WX) (C : Cf) (es : E) : TE := fun σ H Q => ∃ (m : List Addr) (F : Hp) (env : Env) (hs : Hs), Sm K er m F env hs σ H ∧
  Post (evalO C es env hs) m F H (fun r m' F' H' _ => ∀ v, RelR K er m' F' H H' r v → Q v H') (wn G W σ)
def tOT (K : PySem.W.Frag) (er : Nat → V → Prop) (G : Ctx) (W : WX) (C : Cf) (es : E) : TT := fun σ H Q => ∃ (m : List Addr) (F : Hp) (env : Env) (hs : Hs), Sm K er m F env hs σ H ∧
  Post ((evalO C es env hs).bind fun x h => Res.of (asB x) h) m F H (fun b m' F' H' _ => Q b H') (wn G W σ)
theorem and_one {a : E} {x : Expr} {p : Pos} (ha : PE X x (tE X.K er G W C a)) : PE X (.BoolOp .And [x] p) (tA X.K er G W C (.cons a .nil)) :=
  pe_imp (pe_one ha) fun σ H Q ⟨m, F, env, hs, s, q⟩ => ⟨m, F, env, hs, s, by simpa only [evalA] using q⟩
theorem or_one {a : E} {x : Expr} {p : Pos} (ha : PE X x (tE X.K er G W C a)) : PE X (.BoolOp .Or [x] p) (tO X.K er G W C (.cons a .nil)) :=
  pe_imp (pe_one ha) fun σ H Q ⟨m, F, env, hs, s, q⟩ => ⟨m, F, env, hs, s, by simpa only [evalO] using q⟩
theorem and_more {a b r : E} {x y : Expr} {xs : List Expr} {p : Pos} (ha : PE X x (tE X.K er G W C a)) (hb : PE X (.BoolOp .And (y :: xs) p) (tA X.K er G W C (.cons b r))) : PE X (.BoolOp .And (x :: y :: xs) p) (tA X.K er G W C (.cons a (.cons b r))) := by
  refine pe_imp (pe_and ha hb) fun σ H Q ⟨m, F, env, hs, s, q⟩ => ?_
  simp only [evalA] at q
  refine sub_E (.refl s.c) s q fun r1 m1 F1 H1 hs1 v1 f1 _ s1 rv1 q1 => ?_
  cases e : asB r1 with
  | none => rw [e] at q1; exact q1.elim
  | some k =>
    rw [e] at q1
    refine ⟨k, asB_v rv1 e, ?_⟩
    cases k with
    | true => exact iteT ⟨m1, F1, env, hs1, s1, (Post.on f1 q1).mono fun r m' F' H' hs' g h v rv => h.2 v (rv.back f1.1.trk)⟩
    | false => exact iteF (q1.tell f1 rel_bool)
theorem or_more {a b r : E} {x y : Expr} {xs : List Expr} {p : Pos} (ha : PE X x (tE X.K er G W C a)) (hb : PE X (.BoolOp .Or (y :: xs) p) (tO X.K er G W C (.cons b r))) : PE X (.BoolOp .Or (x :: y :: xs) p) (tO X.K er G W C (.cons a (.cons b r))) := by
  refine pe_imp (pe_or ha hb) fun σ H Q ⟨m, F, env, hs, s, q⟩ => ?_
  simp only [evalO] at q
  refine sub_E (.refl s.c) s q fun r1 m1 F1 H1 hs1 v1 f1 _ s1 rv1 q1 => ?_
  cases e : asB r1 with
  | none => rw [e] at q1; exact q1.elim
  | some k =>
    rw [e] at q1
    refine ⟨k, asB_v rv1 e, ?_⟩
    cases k with
    | false => exact iteF ⟨m1, F1, env, hs1, s1, (Post.on f1 q1).mono fun r m' F' H' hs' g h v rv => h.2 v (rv.back f1.1.trk)⟩
    | true => exact iteT (q1.tell f1 rel_bool)
theorem andT_one {a : E} {x : Expr} {p : Pos} (ha : PT X x (tT X.K er G W C a)) : PW X (.BoolOp .And [x] p) (tAT X.K er G W C (.cons a .nil)) :=
  pw_imp (pw_and1 ha) fun σ H Q ⟨m, F, env, hs, s, q⟩ => ⟨m, F, env, hs, s, by simpa only [evalA, evalT] using q⟩
theorem orT_one {a : E} {x : Expr} {p : Pos} (ha : PT X x (tT X.K er G W C a)) : PW X (.BoolOp .Or [x] p) (tOT X.K er G W C (.cons a .nil)) :=
  pw_imp (pw_or1 ha) fun σ H Q ⟨m, F, env, hs, s, q⟩ => ⟨m, F, env, hs, s, by simpa only [evalO, evalT] using q⟩
theorem andT_more {a b r : E} {x y : Expr} {xs : List Expr} {p : Pos} (ha : PT X x (tT X.K er G W C a)) (hb : PW X (.BoolOp .And (y :: xs) p) (tAT X.K er G W C (.cons b r))) : PW X (.BoolOp .And (x :: y :: xs) p) (tAT X.K er G W C (.cons a (.cons b r))) := by
  refine pw_imp (pw_and ha hb) fun σ H Q ⟨m, F, env, hs, s, q⟩ => ?_
  simp only [evalA] at q
  refine sub_T (.refl s.c) s (Post.asc q) (fun r hs e => by rw [e]; rfl) fun r1 k m1 F1 H1 hs1 e f1 s1 q1 => ?_
  rw [e] at q1
  cases k with
  | true => exact iteT ⟨m1, F1, env, hs1, s1, (Post.on f1 q1).mono fun r m' F' H' hs' g h => h.2⟩
  | false => exact iteF (q1 m1 F1 H1 f1)
theorem orT_more {a b r : E} {x y : Expr} {xs : List Expr} {p : Pos} (ha : PT X x (tT X.K er G W C a)) (hb : PW X (.BoolOp .Or (y :: xs) p) (tOT X.K er G W C (.cons b r))) : PW X (.BoolOp .Or (x :: y :: xs) p) (tOT X.K er G W C (.cons a (.cons b r))) := by
  refine pw_imp (pw_or ha hb) fun σ H Q ⟨m, F, env, hs, s, q⟩ => ?_
  simp only [evalO] at q
  refine sub_T (.refl s.c) s (Post.asc q) (fun r hs e => by rw [e]; rfl) fun r1 k m1 F1 H1 hs1 e f1 s1 q1 => ?_
  rw [e] at q1
  cases k with
  | false => exact iteF ⟨m1, F1, env, hs1, s1, (Post.on f1 q1).mono fun r m' F' H' hs' g h => h.2⟩
  | true => exact iteT (q1 m1 F1 H1 f1)
/-- any other expression, as a test -/
theorem s_val {a : E} {x : Expr} (ha : PE X x (tE X.K er G W C a)) (he : ∀ whole, isTrue x X.env whole = (do let v ← whole; standAt x.pos; holding [v] (truthy v))) : PT X x (tT X.K er G W C a) := by
  refine pt_imp (pt_val ha he) fun σ H Q ⟨m, F, env, hs, s, q⟩ => ?_
  simp only [evalT] at q
  refine sub_E (.refl s.c) s q fun r1 m1 F1 H1 hs1 v1 f1 _ s1 rv1 q1 => ?_
  cases e : asB r1 with
  | none => rw [e] at q1; exact q1.elim
  | some k =>
    rw [e] at q1
    exact ⟨k, asB_v rv1 e, q1 m1 F1 H1 f1⟩
end
end Mi

/-! Mi: subscripts, slices, calls, built-ins. -/
namespace Mi
open PySem PySem.Spec PyProof.Rows L2

section
variable {α : Type} {F : Hp}
theorem RpL.atI {ds : List PyData} {vs : List V} {i : Int} {d : PyData} (h : RpL F ds vs) (e : ixD ds i = some d) : ∃ v, L2.atI vs i = some v ∧ Rp F d v := by
  unfold ixD L2.atI at e
  unfold L2.atI
  rw [h.length]
  cases q : L2.ixN ds.length i with
  | none => rw [q] at e; cases e
  | some j =>
    rw [q] at e
    exact h.get' (i := j) e
theorem RpL.cut {ds : List PyData} {vs : List V} (h : RpL F ds vs) (lo hi : Option Int) : RpL F (Mi.cut ds lo hi) (cutV vs lo hi) := by
  unfold Mi.cut cutV Mi.sIx
  rw [h.length]
  exact (h.drop _).take _
end
section
variable {G : Ctx} {X : Cx} {N : List Str} {sc : Scope} {C : Cf} {cm : Bool} {er : Nat → V → Prop} {W : WX}
def rIxM (K : PySem.W.Frag) (er : Nat → V → Prop) : R2 := fun x y H Q => ∃ (m : List Addr) (F H0 : Hp) (hs : Hs) (a i r : R), Cells m F hs H ∧ RelR K er m F H0 H a x ∧ RelR K er m F H0 H i y ∧ ixO a i hs = some r ∧ ∀ v H', Gives F H r v H' → Q v H'
theorem ix_rule (hu : X.A.units + 200 < cLine) : IxR X (rIxM X.K er) := by
  intro value slice pins s σ H x y v u Q I rx ry ⟨m, F, H0, hs, a, i, r, c, ra, ri, e, q⟩ hs'
  unfold ixO at e
  split at e
  · rename_i k
    cases (Rp.int_of (F := F) ri)
    split at e
    · rename_i ns
      obtain ⟨b, rfl, hq⟩ := ra
      cases hj : ixD ns k with
      | none => rw [hj] at e; cases e
      | some j =>
        rw [hj] at e
        cases e
        refine ix_list value slice pins s σ H _ _ v u Q I rx ry ⟨b, _, k, .int j, rfl, rfl, script_sub c.frz hq, ?_, q _ _ gives_int⟩ hs'
        unfold ixD L2.atI at hj
        unfold L2.atI
        rw [List.length_map]
        cases z : L2.ixN ns.length k with
        | none => rw [z] at hj; cases hj
        | some t =>
          rw [z] at hj
          have hj' : ns[t]? = some j := hj
          show (ns.map V.int)[t]? = _
          rw [List.getElem?_map, hj']
          rfl
    · split at e
      · rename_i kvs hk
        obtain ⟨b, rfl, hc⟩ := lookD_cell c ra hk
        rcases cell_dget hc k with ⟨e1, g⟩ | ⟨d, w, e1, g, rp⟩
        · rw [e1] at e; cases e
        · rw [e1] at e
          cases e
          cases rx
          exact tail_any (dict_typeIs I g) PySem.F.slot_dict_getitem.lookup (d_getItem (by omega) I g ry fun w' s3 I3 rw' => ⟨w, H, I3, rw', q _ _ (.inl ⟨rfl, rp⟩)⟩) hs'
      · split at e
        · rename_i xs hl
          obtain ⟨b, vs, rfl, h1, h2⟩ := look_lk c ra hl
          cases hj : ixD xs k with
          | none => rw [hj] at e; cases e
          | some d =>
            rw [hj] at e
            cases e
            obtain ⟨w, h3, h4⟩ := h2.atI hj
            exact ix_list value slice pins s σ H _ _ v u Q I rx ry ⟨b, vs, k, w, rfl, rfl, SqL.of h1, h3, q _ _ (.inl ⟨rfl, h4⟩)⟩ hs'
        · rename_i xs hl
          obtain ⟨b, vs, rfl, h1, h2⟩ := Rp.tuple_iff.mp (look_lk c ra hl)
          cases hj : ixD xs k with
          | none => rw [hj] at e; cases e
          | some d =>
            rw [hj] at e
            cases e
            obtain ⟨w, h3, h4⟩ := h2.atI hj
            exact ix_tup value slice pins s σ H _ _ v u Q I rx ry ⟨b, vs, k, w, rfl, rfl, SqT.dn (c.frz _ _ h1), h3, q _ _ (.inl ⟨rfl, h4⟩)⟩ hs'
        · rename_i z hl
          split at e
          · rename_i hz
            cases (Rp.str_of (F := F) (look_lk c ra hl))
            cases hj : ixD z.cps.toList k with
            | none => rw [hj] at e; cases e
            | some d =>
              rw [hj] at e
              cases e
              exact ix_str value slice pins s σ H _ _ v u Q I rx ry ⟨z, k, d, rfl, rfl, line_le hz, hj, q _ _ gives_str⟩ hs'
          · cases e
        · cases e
  · cases e
def notSlice : Expr → Bool
  | .Slice .. => false
  | _ => true
theorem plainIx {e : Expr} (h : notSlice e = true) : PlainIx e := fun o i => by
  cases e <;> first | rfl | cases h
theorem s_ix (hx : XOk G X N sc C cm er W) {a i : E} {x y : Expr} {p : Pos} (ns : notSlice y = true) (ha : PE X x (tE X.K er G W C a)) (hi : PE X y (tE X.K er G W C i)) : PE X (.Subscript x y p) (tE X.K er G W C (.ix a i)) := by
  refine pe_imp (pe_ix (ix_rule (er := er) hx.hu) ha hi (plainIx ns)) fun σ H Q ⟨m, F, env, hs, s, q⟩ => ?_
  simp only [evalE] at q
  refine sub_E (.refl s.c) s q fun r1 m1 F1 H1 hs1 v1 f1 _ s1 rv1 q1 => ?_
  refine sub_E f1 s1 q1 fun r2 m2 F2 H2 hs2 v2 f2 g2 s2 rv2 q2 => ?_
  obtain ⟨r, e, q3⟩ := post_of q2
  exact ⟨m2, F2, H, hs2, r1, r2, r, f2.2, rv1.ext g2.1, rv2, e, fun v H' g => q3.give f2 g⟩
/-! slices -/
def rSlM (K : PySem.W.Frag) (er : Nat → V → Prop) : V → Option Int → Option Int → Hp → VK → Prop := fun x lo hi H Q => ∃ (m : List Addr) (F H0 : Hp) (hs : Hs) (a r : R), Cells m F hs H ∧ RelR K er m F H0 H a x ∧ slO a lo hi hs = some r ∧ ∀ v H', Gives F H r v H' → Q v H'
theorem cut_all {vs : List V} {lo hi : Option Int} (h : HT.sIx vs.length 0 lo = 0 ∧ HT.sIx vs.length vs.length hi = vs.length) : cutV vs lo hi = vs := by
  unfold cutV
  rw [h.1, h.2]
  simp
theorem sl_rule : SlR X (rSlM X.K er) := by
  intro pins s σ H x v vl vu lo hi sl Q I rx hsl pl pu ⟨m, F, H0, hs, a, r, c, ra, e, q⟩
  unfold slO at e
  split at e
  · rename_i xs hl
    cases e
    obtain ⟨b, vs, rfl, h1, h2⟩ := look_lk c ra hl
    exact sl_list pins s σ H _ v vl vu lo hi sl Q I rx hsl pl pu ⟨b, vs, rfl, SqL.of h1, fun p np => q _ _ ⟨p, _, rfl, np, rfl, h2.cut lo hi⟩⟩
  · rename_i xs hl
    cases e
    obtain ⟨b, vs, rfl, h1, h2⟩ := Rp.tuple_iff.mp (look_lk c ra hl)
    refine sl_tupK pins s σ H _ v vl vu lo hi sl Q I rx hsl pl pu ⟨b, vs, rfl, SqT.dn (c.frz _ _ h1), fun z => q _ _ (.inl ⟨rfl, ?_⟩), fun _ p o np nd => q _ _ (.inr ⟨_, p, _, o, rfl, rfl, np, nd, rfl, h2.cut lo hi⟩)⟩
    have := h2.cut lo hi
    rw [cut_all z] at this
    exact Rp.tuple_iff.mpr ⟨b, vs, rfl, h1, this⟩
  · rename_i z hl
    split at e
    · rename_i hz
      cases e
      cases (Rp.str_of (F := F) (look_lk c ra hl))
      refine sl_str pins s σ H _ v vl vu lo hi sl Q I rx hsl pl pu ⟨z, rfl, line_le hz, ?_⟩
      exact q _ _ gives_str
    · cases e
  · cases e
/-- a bound's reading -/
def tP (K : PySem.W.Frag) (er : Nat → V → Prop) (G : Ctx) (W : WX) (C : Cf) (e : E) : TO := fun σ H Q => ∃ (m : List Addr) (F : Hp) (env : Env) (hs : Hs), Sm K er m F env hs σ H ∧
  Post ((evalL C e env hs).bind fun r h => Res.of (bnd r) h) m F H (fun b m' F' H' _ => Q b H') (wn G W σ)
theorem po_imp {e : Option Expr} {t t' : TO} (h : PO X e t) (w : ∀ σ H Q, t' σ H Q → t σ H Q) : PO X e t' := ⟨fun pins s σ H Q I q => h.run pins s σ H Q I (w σ H Q q)⟩
theorem s_bnd0 : PO X none (tP X.K er G W C .nil) := po_imp po_none fun σ H Q ⟨m, F, env, hs, s, q⟩ => by
  simp only [evalL, Res.bind_ok, bnd] at q
  exact q m F H (.refl s.c)
theorem s_bnd1 {a : E} {x : Expr} (ha : PE X x (tE X.K er G W C a)) : PO X (some x) (tP X.K er G W C (.cons a .nil)) := po_imp (po_some ha) fun σ H Q ⟨m, F, env, hs, s, q⟩ => by
  simp only [evalL] at q
  refine sub_E (.refl s.c) s (Post.asc q) fun r1 m1 F1 H1 hs1 v1 f1 _ s1 rv1 q1 => ?_
  simp only [Res.bind_ok] at q1
  obtain ⟨b, e, q2⟩ := post_of q1
  unfold bnd at e
  split at e
  · rename_i z
    cases z
  · rename_i k z
    cases e
    cases z
    exact ⟨k, Rp.int_of (F := F1) rv1, q2 m1 F1 H1 f1⟩
  · cases e
/-- a bound is asked -/
theorem sub_P {m m1 : List Addr} {F F1 H H1 : Hp} {env : Env} {hs1 : Hs} {σ : L2.St} {α : Type} {a : E} {g : Option Int → Hs → Res α} {P : α → List Addr → Hp → Hp → Hs → Prop} {Q' : Option Int → Hp → Prop} (f : Fin m F H hs1 m1 F1 H1) (s : Sm X.K er m1 F1 env hs1 σ H1)
    (h : Post (((evalL C a env hs1).bind fun r h => Res.of (bnd r) h).bind g) m F H P (wn G W σ))
    (k : ∀ b m2 F2 H2 hs2, Fin m F H hs2 m2 F2 H2 → Fin m1 F1 H1 hs2 m2 F2 H2 → Sm X.K er m2 F2 env hs2 σ H2 → Post (g b hs2) m F H P (wn G W σ) → Q' b H2) : tP X.K er G W C a σ H1 Q' :=
  ⟨m1, F1, env, hs1, s, (Post.on f (Post.bind h)).mono fun b m2 F2 H2 hs2 f2 p => k b m2 F2 H2 hs2 p.1 f2 (s.fin f2) p.2⟩
theorem s_slc {a lo hi : E} {x : Expr} {l u : Option Expr} {p p2 : Pos} (ha : PE X x (tE X.K er G W C a)) (hl : PO X l (tP X.K er G W C lo)) (hh : PO X u (tP X.K er G W C hi)) : PE X (.Subscript x (.Slice l u none p2) p) (tE X.K er G W C (.slc a lo hi)) := by
  refine pe_imp (pe_slice (sl_rule (er := er)) ha hl hh) fun σ H Q ⟨m, F, env, hs, s, q⟩ => ?_
  simp only [evalE] at q
  refine sub_E (.refl s.c) s q fun r1 m1 F1 H1 hs1 v1 f1 _ s1 rv1 q1 => ?_
  refine sub_P f1 s1 q1 fun b m2 F2 H2 hs2 f2 g2 s2 q2 => ?_
  refine sub_P f2 s2 q2 fun b' m3 F3 H3 hs3 f3 g3 s3 q3 => ?_
  obtain ⟨r, e, q4⟩ := post_of q3
  exact ⟨m3, F3, H, hs3, r1, r, f3.2, (rv1.ext g2.1).ext g3.1, e, fun v H' g => q4.give f3 g⟩
/-! ### calls -/
theorem RelW.ofEr {m : List Addr} {F : Hp} {K : PySem.W.Frag} {er er' : Nat → V → Prop} (h : ∀ c v, er c v → er' c v) {w : Mi.W} {v : V} (r : RelW K er m F w v) : RelW K er' m F w v := by
  cases w with
  | e c => exact h c v r
  | d x => exact r
  | r n => exact r
  | s ns => exact r
theorem RelWs.ofEr {m : List Addr} {F : Hp} {K : PySem.W.Frag} {er er' : Nat → V → Prop} (h : ∀ c v, er c v → er' c v) : ∀ {ws : List Mi.W} {vs : List V}, RelWs K er m F ws vs → RelWs K er' m F ws vs
  | _, _, .nil => .nil
  | _, _, .cons a b => .cons (RelW.ofEr h a) (RelWs.ofEr h b)
theorem RelR.ofEr {m : List Addr} {F H0 H : Hp} {K : PySem.W.Frag} {er er' : Nat → V → Prop} (h : ∀ c v, er c v → er' c v) {w : R} {v : V} (r : RelR K er m F H0 H w v) : RelR K er' m F H0 H w v := by
  cases w with
  | v w => exact RelW.ofEr h r
  | fl xs => exact r
  | fd xs => exact r
  | ft ws =>
    obtain ⟨a, vs, e, h1, h2⟩ := r
    exact ⟨a, vs, e, h1, RelWs.ofEr h h2⟩
theorem s_call (hx : XOk G X N sc C cm er W) (hc : cm = true) {f : Nat} {x : Str} {es : E} {y : Expr} {ys : List Expr} {p p' : Pos} (hf : G.fn f = some x) (hg : glOk sc x = true) (ns : ∀ e ∈ y :: ys, noStar e = true) (ha : PA X (y :: ys) (tL X.K er G W C es)) :
    PE X (.Call (.Name x p) (y :: ys) [] p') (tE X.K er G W C (.call f es)) := by
  obtain ⟨k, fa, fd, ps, F1, hr, hm, hk, hb⟩ := hx.fn hc f x hf
  obtain ⟨h1, h2, _⟩ := glOk_i hx hg
  refine pe_imp (pe_callS (E := WE W) F1 hr h1 hm hk hb (fun σ => passAt hx.tk σ) ha h2 (starE (ns y List.mem_cons_self)) (star_plain fun e he => ns e (List.mem_cons_of_mem _ he))) fun σ H Q ⟨m, F, env, hs, s, q⟩ => ?_
  simp only [evalE] at q
  refine sub_L (.refl s.c) s q fun rs m1 F1 H1 hs1 vs f1 _ s1 rv1 q1 => ?_
  cases e : allW rs with
  | none => rw [e] at q1; exact q1.elim
  | some ws =>
    rw [e] at q1
    obtain ⟨F2, h2, r2⟩ := holdW f1.2 rv1.hd e
    have f2 := h2.fin f1
    refine ⟨m1, F2, hs1, ws, h2.c, RelWs.ofEr (fun c v z => absurd z (hx.noer hc c v)) r2, (Post.on f2 q1).mono fun r m' F' H' hs' g h v rv => h.2 v ?_⟩
    exact (RelR.ofEr (fun c v z => z.elim) rv).back f2.1.trk
/-! ### built-ins -/
def bootOf (s : String) (b : Bool) : Value := if b then .type s else .builtin s
theorem s_bi1 (hx : XOk G X N sc C cm er W) {b : Bi} {x : String} {a : E} {y : Expr} {p p' : Pos} (hg : glOk sc (Str.ofString x) = true) (hbt : Str.ofString x ∈ G.bt) (hv : bootBuiltins (Str.ofString x) = some (.builtin x)) (hc : CallR X (.builtin x) (rB1 X.K er (oneO b))) (ns : noStar y = true) (ha : PE X y (tE X.K er G W C a)) :
    PE X (.Call (.Name (Str.ofString x) p) [y] [] p') (tE X.K er G W C (.bi b (.cons a .nil))) := by
  obtain ⟨h1, h2, h3⟩ := glOk_i hx hg
  refine pe_imp (pe_callB hc h1 (hx.bt _ hbt) hv (pa_cons ha pa_nil (starE ns)) h3 h2 (starE ns) (star_plain (fun _ z => nomatch z))) fun σ H Q ⟨m, F, env, hs, s, q⟩ => ?_
  simp only [evalE, evalL] at q
  refine sub_E (.refl s.c) s (Post.asc q) fun r1 m1 F1 H1 hs1 v1 f1 _ s1 rv1 q1 => ?_
  simp only [Res.bind_ok, biO] at q1
  obtain ⟨r, e, q2⟩ := post_of q1
  exact ⟨m1, F1, H, hs1, r1, r, v1, rfl, f1.2, rv1, e, fun v H' g => q2.give f1 g⟩
theorem s_bi1T (hx : XOk G X N sc C cm er W) {b : Bi} {x : String} {a : E} {y : Expr} {p p' : Pos} (hg : glOk sc (Str.ofString x) = true) (hbt : Str.ofString x ∈ G.bt) (hv : bootBuiltins (Str.ofString x) = some (.type x)) (hc : CallR X (.type x) (rB1 X.K er (oneO b))) (ns : noStar y = true) (ha : PE X y (tE X.K er G W C a)) :
    PE X (.Call (.Name (Str.ofString x) p) [y] [] p') (tE X.K er G W C (.bi b (.cons a .nil))) := by
  obtain ⟨h1, h2, h3⟩ := glOk_i hx hg
  refine pe_imp (pe_callTy hc h1 (hx.bt _ hbt) hv (pa_cons ha pa_nil (starE ns)) h3 h2 (starE ns) (star_plain (fun _ z => nomatch z))) fun σ H Q ⟨m, F, env, hs, s, q⟩ => ?_
  simp only [evalE, evalL] at q
  refine sub_E (.refl s.c) s (Post.asc q) fun r1 m1 F1 H1 hs1 v1 f1 _ s1 rv1 q1 => ?_
  simp only [Res.bind_ok, biO] at q1
  obtain ⟨r, e, q2⟩ := post_of q1
  exact ⟨m1, F1, H, hs1, r1, r, v1, rfl, f1.2, rv1, e, fun v H' g => q2.give f1 g⟩
/-- two numbers -/
def rB2 (f : Int → Int → Option R) : List V → Hp → VK → Prop := fun vs H Q => ∃ i j k, vs = [.int i, .int j] ∧ f i j = some (rInt k) ∧ Q (.int k) H
theorem two_int {b : Bi} {i j : Int} {r : R} (h : two b i j = some r) : ∃ k, r = rInt k := by
  unfold two at h
  split at h <;> first | (cases h; exact ⟨_, rfl⟩) | cases h
theorem s_bi2 (hx : XOk G X N sc C cm er W) {b : Bi} {x : String} {a c : E} {y z : Expr} {p p' : Pos} (hg : glOk sc (Str.ofString x) = true) (hbt : Str.ofString x ∈ G.bt) (hv : bootBuiltins (Str.ofString x) = some (.builtin x)) (hc : CallR X (.builtin x) (rB2 (two b))) (ns : noStar y = true) (ns2 : noStar z = true)
    (ha : PE X y (tE X.K er G W C a)) (hb : PE X z (tE X.K er G W C c)) : PE X (.Call (.Name (Str.ofString x) p) [y, z] [] p') (tE X.K er G W C (.bi b (.cons a (.cons c .nil)))) := by
  obtain ⟨h1, h2, h3⟩ := glOk_i hx hg
  refine pe_imp (pe_callB hc h1 (hx.bt _ hbt) hv (pa_cons ha (pa_cons hb pa_nil (starE ns2)) (starE ns)) h3 h2 (starE ns) (star_plain (fun e he => by simp at he; rw [he]; exact ns2))) fun σ H Q ⟨m, F, env, hs, s, q⟩ => ?_
  simp only [evalE, evalL] at q
  refine sub_E (.refl s.c) s (Post.asc q) fun r1 m1 F1 H1 hs1 v1 f1 _ s1 rv1 q1 => ?_
  refine sub_E f1 s1 (Post.asc (Post.asc q1)) fun r2 m2 F2 H2 hs2 v2 f2 g2 s2 rv2 q2 => ?_
  simp only [Res.bind_ok, biO, twoO] at q2
  obtain ⟨r, e, q3⟩ := post_of q2
  split at e
  · rename_i i j
    obtain ⟨k, rfl⟩ := two_int e
    refine ⟨i, j, k, ?_, e, q3.tell f2 rel_int⟩
    rw [Rp.int_of (F := F1) rv1, Rp.int_of (F := F2) rv2]
  · cases e
theorem min2_rule (hc : X.calm = true) : CallR X (.builtin "min") (rB2 (two .min2)) := fun pins s σ H vs us Q I r ⟨i, j, k, e, h, q⟩ => call_min2 hc pins s σ H vs us Q I r ⟨i, j, e, by
  have : rInt (if j < i then j else i) = rInt k := Option.some.inj h
  simp only [rInt, R.v.injEq, W.d.injEq, PyData.int.injEq] at this
  rw [this]
  exact q⟩
theorem max2_rule (hc : X.calm = true) : CallR X (.builtin "max") (rB2 (two .max2)) := fun pins s σ H vs us Q I r ⟨i, j, k, e, h, q⟩ => call_max2 hc pins s σ H vs us Q I r ⟨i, j, e, by
  have : rInt (if j > i then j else i) = rInt k := Option.some.inj h
  simp only [rInt, R.v.injEq, W.d.injEq, PyData.int.injEq] at this
  rw [this]
  exact q⟩
/-! ### isinstance -/
def kdN : PyData → String
  | .none => "NoneType" | .bool _ => "bool" | .int _ => "int" | .str _ => "str" | .list _ => "list" | .tuple _ => "tuple" | .dict _ => "dict"
theorem kitB_kd : ∀ (t : Ty) (x : PyData), kitB (kdN x) (tyN t) = some (isTy t x) := by
  intro t x
  cases t <;> cases x <;> (simp only [kdN, tyN, isTy]; decide +kernel)
theorem kind_ty {m : List Addr} {F H0 H : Hp} {hs : Hs} {r : R} {v : V} {x : PyData} (c : Cells m F hs H) (h : RelR X.K er m F H0 H r v) (e : kind hs r = some x) : TyX X.K H v (.type (kdN x)) := by
  cases r with
  | v w =>
    cases w with
    | d y =>
      simp only [kind, Option.some.injEq] at e
      subst e
      cases y with
      | none => rw [Rp.none_of (F := F) h]; exact .base .non
      | bool b => rw [Rp.bool_of (F := F) h]; exact .base (.bl b)
      | int b => rw [Rp.int_of (F := F) h]; exact .base (.int b)
      | str b => rw [Rp.str_of (F := F) h]; exact .base (.str b)
      | list ds =>
        obtain ⟨a, vs, rfl, h1, _⟩ := Rp.list_iff.mp h
        exact .base (.lst (dn_of (c.frz _ _ h1) fun _ z => nomatch z))
      | tuple ds =>
        obtain ⟨a, vs, rfl, h1, _⟩ := Rp.tuple_iff.mp h
        obtain ⟨u, hu, _⟩ := dn_tup (c.frz _ _ h1)
        exact .fTuple hu
      | dict kvs =>
        have h' : Rp F (.dict kvs) v := h
        simp only [Rp] at h'
        obtain ⟨_, a, rfl, h1⟩ := h'
        exact .base (.dK (dn_of (c.frz _ _ h1) fun _ z => nomatch z))
    | r n =>
      obtain ⟨a, h1, rfl⟩ := h
      simp only [kind] at e
      cases hc : hs[n]? with
      | none => rw [hc] at e; cases e
      | some y =>
        rw [hc] at e
        have h2 := c.cell n _ a hc h1
        cases y with
        | lst xs =>
          cases e
          obtain ⟨vs, h3, _⟩ := h2
          exact .base (.lst h3)
        | dct kvs =>
          cases e
          obtain ⟨vs, h3, _⟩ := h2
          exact .base (.dK h3)
        | lck kvs => cases e
        | gone => cases e
    | e c => simp [kind] at e
    | s ns => simp [kind] at e
  | fl xs =>
    cases e
    obtain ⟨a, vs, rfl, h1, _⟩ := h
    exact .base (.lst h1)
  | fd kvs =>
    cases e
    obtain ⟨a, rfl, ⟨ks, h1, _⟩, _⟩ := h
    exact .base (.dK h1)
  | ft ws => simp [kind] at e
theorem s_isi1 (hx : XOk G X N sc C cm er W) {t : Ty} {a : E} {y : Expr} {p p' p2 : Pos} (hg : glOk sc "isinstance" = true) (hbt : ("isinstance" : Str) ∈ G.bt) (hg2 : glOk sc (Str.ofString (tyN t)) = true) (hbt2 : Str.ofString (tyN t) ∈ G.bt) (hv : bootBuiltins (Str.ofString (tyN t)) = some (.type (tyN t))) (ns : noStar y = true)
    (ha : PE X y (tE X.K er G W C a)) : PE X (.Call (.Name "isinstance" p) [y, .Name (Str.ofString (tyN t)) p2] [] p') (tE X.K er G W C (.bi (.isi [t]) (.cons a .nil))) := by
  obtain ⟨h1, h2, h3⟩ := glOk_i hx hg
  obtain ⟨h4, h5, h6⟩ := glOk_i hx hg2
  refine pe_imp (pe_callB call_isi h1 (hx.bt _ hbt) (by decide +kernel) (pa_cons ha (pa_cons (pe_bltn (v := .ty (tyN t)) h4 (hx.bt _ hbt2) hv rfl h6 h5) pa_nil) (starE ns)) h3 h2 (starE ns) (star_plain (fun e he => by simp at he; rw [he]; rfl))) fun σ H Q ⟨m, F, env, hs, s, q⟩ => ?_
  simp only [evalE, evalL] at q
  refine sub_E (.refl s.c) s (Post.asc q) fun r1 m1 F1 H1 hs1 v1 f1 _ s1 rv1 q1 => ?_
  simp only [Res.bind_ok, biO, oneO, isiO] at q1
  obtain ⟨r, e, q2⟩ := post_of q1
  cases hk : kind hs1 r1 with
  | none => rw [hk] at e; cases e
  | some x =>
    rw [hk] at e
    cases e
    refine ⟨v1, .ty (tyN t), _, _, isTy t x, rfl, .ty _, kind_ty f1.2 rv1 hk, kit_ty (kitB_kd t x), ?_⟩
    have : (List.any [t] fun t => isTy t x) = isTy t x := by simp
    have q2 := show Post (Res.ok (rBool _) hs1) m F H _ _ from q2
    rw [this] at q2
    exact q2.tell f1 rel_bool
theorem ref_u {a : Addr} : ∀ u, RelV (.ref a) u → u = .ref a := fun _ r => r
theorem ty_u {n : String} : ∀ u, RelV (.ty n) u → u = .type n := fun _ r => r
/-- isinstance(e, its class) -/
theorem s_isx (hx : XOk G X N sc C cm er W) {k : Nat} {a : E} {y : Expr} {z : Str} {p p' p2 : Pos} (hk : k ≠ 0) (hg : glOk sc "isinstance" = true) (hbt : ("isinstance" : Str) ∈ G.bt) (hz : G.cls k = some z) (hgz : glOk sc z = true) (ns : noStar y = true)
    (ha : PE X y (tE X.K er G W C a)) : PE X (.Call (.Name "isinstance" p) [y, .Name z p2] [] p') (tE X.K er G W C (.bi (.isx k) (.cons a .nil))) := by
  obtain ⟨h1, h2, h3⟩ := glOk_i hx hg
  obtain ⟨h4, h5, h6⟩ := glOk_i hx hgz
  refine pe_imp (pe_callB call_isX h1 (hx.bt _ hbt) (by decide +kernel) (pa_cons ha (pa_cons (pe_glob (v := .ref (G.ca k)) h4 (hx.clm k z hz) rfl h5) pa_nil) (starE ns)) h3 h2 (starE ns) (star_plain (fun e he => by simp at he; rw [he]; rfl))) fun σ H Q ⟨m, F, env, hs, s, q⟩ => ?_
  simp only [evalE, evalL] at q
  refine sub_E (.refl s.c) s (Post.asc q) fun r1 m1 F1 H1 hs1 v1 f1 _ s1 rv1 q1 => ?_
  simp only [Res.bind_ok, biO, oneO] at q1
  obtain ⟨r, e, q2⟩ := post_of q1
  unfold isxO at e
  split at e
  · rename_i c
    cases e
    obtain ⟨b, oe, rfl, g1, g2, g3, g4, _, g5⟩ := hx.ero c v1 rv1
    exact ⟨b, G.ca c, oe, .ref (G.ca k), _, decide (k = c), g1, g4, g2, g3, rfl, ref_u, g5 k z hk hz, q2.tell f1 rel_bool⟩
  · cases e
/-- isinstance(e, ValueError) -/
theorem s_isve (hx : XOk G X N sc C cm er W) {a : E} {y : Expr} {p p' p2 : Pos} (hg : glOk sc "isinstance" = true) (hbt : ("isinstance" : Str) ∈ G.bt) (hg2 : glOk sc (Str.ofString "ValueError") = true) (hbt2 : Str.ofString "ValueError" ∈ G.bt) (ns : noStar y = true)
    (ha : PE X y (tE X.K er G W C a)) : PE X (.Call (.Name "isinstance" p) [y, .Name (Str.ofString "ValueError") p2] [] p') (tE X.K er G W C (.bi .isve (.cons a .nil))) := by
  obtain ⟨h1, h2, h3⟩ := glOk_i hx hg
  obtain ⟨h4, h5, h6⟩ := glOk_i hx hg2
  refine pe_imp (pe_callB call_isX h1 (hx.bt _ hbt) (by decide +kernel) (pa_cons ha (pa_cons (pe_bltn (v := .ty "ValueError") h4 (hx.bt _ hbt2) (by decide +kernel) rfl h6 h5) pa_nil) (starE ns)) h3 h2 (starE ns) (star_plain (fun e he => by simp at he; rw [he]; rfl))) fun σ H Q ⟨m, F, env, hs, s, q⟩ => ?_
  simp only [evalE, evalL] at q
  refine sub_E (.refl s.c) s (Post.asc q) fun r1 m1 F1 H1 hs1 v1 f1 _ s1 rv1 q1 => ?_
  simp only [Res.bind_ok, biO, oneO] at q1
  obtain ⟨r, e, q2⟩ := post_of q1
  unfold isveO at e
  split at e
  · rename_i c
    cases e
    obtain ⟨b, oe, rfl, g1, g2, g3, g4, g5, _⟩ := hx.ero c v1 rv1
    exact ⟨b, G.ca c, oe, .ty "ValueError", _, true, g1, g4, g2, g3, rfl, ty_u, g5, q2.tell f1 rel_bool⟩
  · cases e
theorem s_isi2 (hx : XOk G X N sc C cm er W) {t u : Ty} {a : E} {y : Expr} {k : Nat} {p p' p2 p3 p4 : Pos} (hg : glOk sc "isinstance" = true) (hbt : ("isinstance" : Str) ∈ G.bt) (hg2 : glOk sc (Str.ofString (tyN t)) = true) (hbt2 : Str.ofString (tyN t) ∈ G.bt) (hv : bootBuiltins (Str.ofString (tyN t)) = some (.type (tyN t)))
    (hg3 : glOk sc (Str.ofString (tyN u)) = true) (hbt3 : Str.ofString (tyN u) ∈ G.bt) (hv2 : bootBuiltins (Str.ofString (tyN u)) = some (.type (tyN u))) (ns : noStar y = true)
    (ha : PE X y (tE X.K er G W C a)) : PE X (.Call (.Name "isinstance" p) [y, .Tuple [.Name (Str.ofString (tyN t)) p2, .Name (Str.ofString (tyN u)) p3] k p4] [] p') (tE X.K er G W C (.bi (.isi [t, u]) (.cons a .nil))) := by
  obtain ⟨h1, h2, h3⟩ := glOk_i hx hg
  obtain ⟨h4, h5, h6⟩ := glOk_i hx hg2
  obtain ⟨h7, h8, h9⟩ := glOk_i hx hg3
  refine pe_imp (pe_callB call_isiT h1 (hx.bt _ hbt) (by decide +kernel) (pa_cons ha (pa_cons (pe_tup (pa_cons (pe_bltn (v := .ty (tyN t)) h4 (hx.bt _ hbt2) hv rfl h6 h5) (pa_cons (pe_bltn (v := .ty (tyN u)) h7 (hx.bt _ hbt3) hv2 rfl h9 h8) pa_nil))) pa_nil) (starE ns)) h3 h2 (starE ns) (star_plain (fun e he => by simp at he; rw [he]; rfl))) fun σ H Q ⟨m, F, env, hs, s, q⟩ => ?_
  simp only [evalE, evalL] at q
  refine sub_E (.refl s.c) s (Post.asc q) fun r1 m1 F1 H1 hs1 v1 f1 _ s1 rv1 q1 => ?_
  simp only [Res.bind_ok, biO, oneO, isiO] at q1
  obtain ⟨r, e, q2⟩ := post_of q1
  cases hk : kind hs1 r1 with
  | none => rw [hk] at e; cases e
  | some x =>
    rw [hk] at e
    cases e
    refine ⟨by show 2 ≤ sizeLine; decide, fun tp np => ?_⟩
    obtain ⟨c2, e2⟩ := f1.2.new (o := .tup [.ty (tyN t), .ty (tyN u)]) np
    refine ⟨v1, tp, [.ty (tyN t), .ty (tyN u)], _, [.type (tyN t), .type (tyN u)], isTy t x || isTy u x, rfl, upd_same, .cons (.ty _) (.cons (.ty _) .nil), kind_ty c2 (rv1.ext e2) hk,
      kitAny_cons (kit_ty (kitB_kd t x)) (fun z => by rw [z, Bool.false_or]; exact kitAny_cons (kit_ty (kitB_kd u x)) (fun z => by rw [z]; exact kitAny_nil) (fun z => z)) (fun z => by rw [z]; rfl), ?_⟩
    have : (List.any [t, u] fun t => isTy t x) = (isTy t x || isTy u x) := by simp
    have q2 := show Post (Res.ok (rBool _) hs1) m F H _ _ from q2
    rw [this] at q2
    exact q2.tell (f1.trans ⟨e2, c2⟩) rel_bool
end
end Mi

/-! Mi: x[::-1]. -/
namespace Mi
open PySem PySem.Spec PyProof.Rows L2

section
variable {prog : Program} {w : World} {A : Around} {E : Value → Shared → Prop} {s : Shared}
theorem rev_places (n : Nat) : Builtin.Slice.slicePlaces ((n : Int) - 1) (-1) (-1) = n := by
  unfold Builtin.Slice.slicePlaces
  have h : ¬ ((-1 : Int) > 0) := by decide
  rw [if_neg h]
  split
  · show (((n : Int) - 1 - -1 - 1) / 1 + 1).toNat = n
    omega
  · show Int.toNat 0 = n
    have : ¬ (n : Int) - 1 > -1 := by assumption
    omega
theorem rev_pick (xs : Array Value) : ((List.range xs.size).filterMap fun (k : Nat) => xs[(((xs.size : Int) - 1) + (k : Int) * (-1)).toNat]?).toArray = xs.toList.reverse.toArray := by
  have e : ((List.range xs.size).filterMap fun (k : Nat) => xs[(((xs.size : Int) - 1) + (k : Int) * (-1)).toNat]?) = ((List.range xs.size).map fun k => xs.size - 1 - k).filterMap (xs[·]?) := by
    rw [List.filterMap_map]
    congr 1
    funext k
    show xs[(((xs.size : Int) - 1) + (k : Int) * (-1)).toNat]? = xs[xs.size - 1 - k]?
    congr 1
    omega
  rw [e, PySem.W.krv_range, List.filterMap_reverse, PySem.W.krv_all]
/-- t[::-1], t a tuple -/
theorem getItem_tuple_rev {t sl : Addr} {items : Array Value} {vs : Value} {Q : Value → Shared → Prop} (ht : IsTup s.heap t items) (hs : s.heap.IsSliceOf sl .none .none vs) (ps : IsPart vs (some (-1)))
    (h : Q (.ref s.heap.objs.size) { s with heap := s.heap.push { cls := .type "tuple", data := .seq items.toList.reverse.toArray } }) (hsz : items.size ≤ sizeLine) : wpAny (model prog w) A (getItem (.ref t) (.ref sl)) Q E s := by
  have hz : sizeOk (.seq items.toList.reverse.toArray) := by
    show items.toList.reverse.toArray.size ≤ sizeLine
    rw [List.size_toArray, List.length_reverse, Array.length_toList]
    exact hsz
  obtain ⟨os, hos, hcs, hds⟩ := id hs
  have hT : s.TypeIs (.ref sl) "slice" := ⟨os, hos, hcs⟩
  have ap : ∀ {A : Around} {E : Value → Shared → Prop} {Q : Int × Int × Nat → Shared → Prop}, Q ((items.size : Int) - 1, -1, items.size) s → wpAny (model prog w) A (Builtin.Slice.sliceApplied (.ref sl) (pure (items.size : Int))) Q E s := fun {A E Q} q => by
    unfold Builtin.Slice.sliceApplied Builtin.Slice.sliceFields
    refine wpAny_bind (wpAny_bind (wpAny_field hos hds (x := .none) rfl (wpAny_bind (wpAny_field hos hds (x := .none) rfl (wpAny_bind (wpAny_field hos hds (x := vs) rfl (wpAny_pure ?_)))))))
    refine wpAny_bind (HT.slicePart_ ps ?_)
    show wpAny _ _ (if ((-1 : Int) == 0) = true then _ else _) _ _ s
    rw [if_neg (by decide)]
    refine wpAny_bind (HT.slicePart_ (o := none) .none (wpAny_bind (HT.slicePart_ (o := none) .none (wpAny_bind (wpAny_pure ?_)))))
    have e : Builtin.Slice.sliceAdjust none none (-1) (items.size : Int) = ((items.size : Int) - 1, -1) := rfl
    show wpAny _ _ (pure ((items.size : Int) - 1, (-1 : Int), Builtin.Slice.slicePlaces ((items.size : Int) - 1) (-1) (-1))) _ _ s
    rw [rev_places]
    exact wpAny_pure q
  unfold getItem
  refine wpAny_holding ?_
  refine wpAny_bind (wpAny_sequenceKey ht.typeIs (by decide) ?_)
  refine wpAny_bind (wpAny_callSpecial?_slot (name := Str.ofString "__getitem__") ht.typeIs slot_tuple_getitem (wpAny_call_entry slot_tuple_getitem ht.typeIs entry_tuple_getitem ?_ (args_tuple_getitem _ _)))
  refine wpAny_bind (m := Builtin.Tuple.tupleItemsOf (.ref t)) (tupleItemsOf_ ht (wpAny_bind (wpAny_typeOf hT ?_)))
  rw [if_pos (by decide)]
  refine wpAny_bind (ap ?_)
  show wpAny _ _ (if (((items.size : Int) - 1 == 0) && ((-1 : Int) == 1) && (items.size == items.size)) = true then _ else _) _ _ s
  rw [if_neg (by simp), rev_pick]
  refine wpAny_bind (m := Builtin.Tuple.tupleExact _) (wpAny_newObj_type (wpAny_pure ⟨_, rfl, wpAny_pure h⟩) hz)
end
section
variable {G : Ctx} {X : Cx} {N : List Str} {sc : Scope} {C : Cf} {cm : Bool} {er : Nat → V → Prop} {W : WX}
theorem s_rev (hx : XOk G X N sc C cm er W) {a : E} {x : Expr} {p p2 p3 p4 : Pos} {k : Nat} (ha : PE X x (tE X.K er G W C a)) : PE X (.Subscript x (.Slice none none (some (.UnaryOp .USub (.Constant (.int 1) k p3) p4)) p2) p) (tE X.K er G W C (.rev a)) := by
  refine ⟨fun pins s σ H Q I h => ?_⟩
  obtain ⟨m, F, env, hs, sm, q⟩ := h
  simp only [evalE] at q
  refine Subscript_ (thn (ha.run pins s σ H (fun v H' => ∃ r1 m1 F1 hs1, Fin m F H hs1 m1 F1 H' ∧ RelR X.K er m1 F1 H H' r1 v ∧ Post (Res.of (revO r1 hs1) hs1) m F H (fun r m' F' H' _ => ∀ v, RelR X.K er m' F' H H' r v → Q v H') (wn G W σ)) I (sub_E (.refl sm.c) sm q fun r1 m1 F1 H1 hs1 v1 f1 _ s1 rv1 q1 => ⟨r1, m1, F1, hs1, f1, rv1, q1⟩)) fun v s1 ⟨x1, H1, I1, rx, r1, m1, F1, hs1, f1, rv1, q1⟩ => ?_)
  refine wpAny_Slice ?_
  rw [evalPart_none]
  refine wpAny_pure ?_
  refine wpAny_pure (thn ((po_some (pe_un un_neg pe_int)).run pins s1 σ H1 (fun o H' => o = some (-1) ∧ H' = H1) I1 ⟨1, rfl, -1, rfl, rfl, rfl⟩) fun vs s2 ⟨o, H2, I2, ip, e1, e2⟩ => ?_)
  subst e1 e2
  have I3 : Inv X pins σ H2 { s2 with heap := s2.heap.push { cls := .type "slice", data := .fields #[.none, .none, vs] } } := I2.kept (t' := s2.toks) fun b ob q => Heap.get?_push_of_some _ q
  obtain ⟨r, e, q2⟩ := post_of q1
  unfold revO at e
  split at e
  · rename_i xs hl
    cases e
    obtain ⟨b, ws, rfl, h1, h2⟩ := look_lk f1.2 rv1 hl
    cases rx
    obtain ⟨its, rv, pl, hz⟩ := I3.list (SqL.of h1)
    refine tail_any (ops := [.ref b, .ref s2.heap.objs.size]) pl.isList.typeIs list_getitem_lookup (wpAny_getItem_list_slice pl.isList (Heap.IsSliceOf.new ..) .none .none ip (by decide) ?_ (by rw [List.size_toArray, ← rv.length]; exact hz)) (by with_unfolding_all rfl)
    rw [PySem.W.krv_pick, List.toList_toArray]
    refine ⟨.ref _, _, I3.lnew rv.reverse (by rw [List.length_reverse]; exact hz), rfl, ?_⟩
    exact q2.give f1 ⟨_, _, rfl, I3.hok.fresh (Nat.le_refl _), rfl, h2.reverse⟩
  · rename_i xs hl
    cases e
    obtain ⟨b, ws, rfl, h1, h2⟩ := Rp.tuple_iff.mp (look_lk f1.2 rv1 hl)
    cases rx
    obtain ⟨its, rv, pl, hz⟩ := I3.tuple (SqT.dn (f1.2.frz _ _ h1))
    refine tail_any (ops := [.ref b, .ref s2.heap.objs.size]) pl.typeIs PyProof.Rows.slot_tuple_getitem.lookup (getItem_tuple_rev pl (Heap.IsSliceOf.new ..) ip ?_ (by rw [List.size_toArray, ← rv.length]; exact hz)) (by with_unfolding_all rfl)
    rw [List.toList_toArray]
    exact laid_known (tk := s2.toks) I3 rv.reverse (by rw [List.length_reverse]; exact hz) fun p o np nd => q2.give f1 (.inr ⟨_, p, _, o, rfl, rfl, np, nd, rfl, h2.reverse⟩)
  · cases e
end
end Mi

/-! Mi: list(range(n)), tuple(range(n)), len(set(xs)). -/
namespace Mi
open PySem PySem.Spec PyProof.Rows L2

theorem rg_upto {F : Hp} (n : Int) : RpL F (upto 0 n.toNat) (rgV 0 n) := by
  have := upto_rp (F := F) n.toNat 0
  unfold rgV
  rw [Int.sub_zero]
  exact this
theorem far_rg {n : Int} (h : far n = true) : RgOk 0 n := by
  unfold far at h
  simp only [Bool.and_eq_true, decide_eq_true_eq] at h
  exact ⟨by omega, by omega, by omega, by omega, by omega⟩
theorem mem_nubI : ∀ {xs : List Int} {k : Int}, k ∈ nubI xs ↔ k ∈ xs
  | [], k => Iff.rfl
  | x :: xs, k => by
    unfold nubI
    split
    · rename_i h
      rw [mem_nubI, List.mem_cons]
      exact ⟨.inr, fun z => z.elim (fun e => by rw [e]; exact List.contains_iff_mem.mp h) id⟩
    · rw [List.mem_cons, List.mem_cons, mem_nubI]
theorem nubI_nodup : ∀ (xs : List Int), (nubI xs).Nodup
  | [] => List.nodup_nil
  | x :: xs => by
    unfold nubI
    split
    · exact nubI_nodup xs
    · rename_i h
      exact List.nodup_cons.mpr ⟨fun z => h (List.contains_iff_mem.mpr (mem_nubI.mp z)), nubI_nodup xs⟩
theorem nodup_len : ∀ {xs ys : List Int}, xs.Nodup → (∀ k ∈ xs, k ∈ ys) → xs.length ≤ ys.length
  | [], _, _, _ => Nat.zero_le _
  | x :: xs, ys, d, s => by
    obtain ⟨d1, d2⟩ := List.nodup_cons.mp d
    have hx := s x List.mem_cons_self
    have := nodup_len (xs := xs) (ys := ys.erase x) d2 fun k hk => (List.mem_erase_of_ne fun e => d1 (by rw [← e]; exact hk)).mpr (s k (List.mem_cons_of_mem _ hk))
    rw [List.length_erase_of_mem hx] at this
    have := List.length_pos_of_mem hx
    rw [List.length_cons]
    omega
theorem dedup_ok : ∀ (l acc : List Int), acc.Nodup → (l.foldl PyProof.Rows.step_dedup acc).Nodup ∧ ∀ k, k ∈ l.foldl PyProof.Rows.step_dedup acc ↔ k ∈ acc ∨ k ∈ l
  | [], acc, d => ⟨d, fun k => by simp⟩
  | x :: l, acc, d => by
    rw [List.foldl_cons]
    by_cases h : acc.any (· == x) = true
    · have e : PyProof.Rows.step_dedup acc x = acc := by unfold PyProof.Rows.step_dedup; rw [if_pos h]
      obtain ⟨y, hy, e2⟩ := List.any_eq_true.mp h
      have : y = x := by simpa using e2
      subst this
      rw [e]
      obtain ⟨h1, h2⟩ := dedup_ok l acc d
      refine ⟨h1, fun k => ?_⟩
      rw [h2, List.mem_cons]
      exact ⟨fun z => z.elim .inl fun z => .inr (.inr z), fun z => z.elim .inl fun z => z.elim (fun e => .inl (e ▸ hy)) .inr⟩
    · have e : PyProof.Rows.step_dedup acc x = acc ++ [x] := by unfold PyProof.Rows.step_dedup; rw [if_neg h]
      have nx : x ∉ acc := fun z => h (List.any_eq_true.mpr ⟨x, z, by simp⟩)
      rw [e]
      obtain ⟨h1, h2⟩ := dedup_ok l (acc ++ [x]) (List.nodup_append.mpr ⟨d, by simp, fun a ha b hb e => nx (by simp at hb; rw [← hb, ← e]; exact ha)⟩)
      refine ⟨h1, fun k => ?_⟩
      rw [h2, List.mem_append, List.mem_singleton, List.mem_cons]
      exact ⟨fun z => z.elim (fun z => z.elim .inl fun z => .inr (.inl z)) fun z => .inr (.inr z), fun z => z.elim (fun z => .inl (.inl z)) fun z => z.elim (fun z => .inl (.inr z)) .inr⟩
theorem range_getD (ns : List Int) : (List.range ns.length).map (fun i => ns.getD i 0) = ns := by
  refine List.ext_getElem (by simp) fun i h1 h2 => ?_
  simp [List.getD_eq_getElem?_getD, List.getElem?_eq_getElem h2]
theorem firstMet_nub (ns : List Int) : (PyProof.Rows.firstMet (fun i => ns.getD i 0) ns.length).length = (nubI ns).length := by
  unfold PyProof.Rows.firstMet
  rw [range_getD]
  obtain ⟨h1, h2⟩ := dedup_ok ns [] List.nodup_nil
  refine Nat.le_antisymm (nodup_len h1 fun k hk => mem_nubI.mpr (by simpa using (h2 k).mp hk)) (nodup_len (nubI_nodup ns) fun k hk => (h2 k).mpr (.inr (mem_nubI.mp hk)))
section
variable {G : Ctx} {X : Cx} {N : List Str} {sc : Scope} {C : Cf} {cm : Bool} {er : Nat → V → Prop} {W : WX}
theorem s_listRng (hx : XOk G X N sc C cm er W) (hc : cm = true) {a : E} {y : Expr} {p p2 p3 p4 : Pos} (hg : glOk sc "list" = true) (hbt : ("list" : Str) ∈ G.bt) (hg2 : glOk sc "range" = true) (hbt2 : ("range" : Str) ∈ G.bt) (ns : noStar y = true) (ha : PE X y (tE X.K er G W C a)) :
    PE X (.Call (.Name "list" p) [.Call (.Name "range" p2) [y] [] p3] [] p4) (tE X.K er G W C (.bi .listRng (.cons a .nil))) := by
  refine pe_imp (pe_listRg (hx.calm hc) (glOk_i hx hg).1 (hx.bt _ hbt) (prg_1 (glOk_i hx hg2).1 (hx.bt _ hbt2) ha (starE ns))) fun σ H Q ⟨m, F, env, hs, s, q⟩ => ?_
  simp only [evalE, evalL] at q
  refine sub_E (.refl s.c) s (Post.asc q) fun r1 m1 F1 H1 hs1 v1 f1 _ s1 rv1 q1 => ?_
  simp only [Res.bind_ok, biO, oneO] at q1
  obtain ⟨r, e, q2⟩ := post_of q1
  unfold listRngO at e
  split at e
  · rename_i n
    split at e
    · rename_i hf
      cases e
      exact ⟨n, Rp.int_of (F := F1) rv1, far_rg hf, fun l hl => q2.give f1 ⟨l, _, rfl, hl, rfl, rg_upto n⟩⟩
    · cases e
  · cases e
theorem s_tupRng (hx : XOk G X N sc C cm er W) (hc : cm = true) {a : E} {y : Expr} {p p2 p3 p4 : Pos} (hg : glOk sc "tuple" = true) (hbt : ("tuple" : Str) ∈ G.bt) (hg2 : glOk sc "range" = true) (hbt2 : ("range" : Str) ∈ G.bt) (ns : noStar y = true) (ha : PE X y (tE X.K er G W C a)) :
    PE X (.Call (.Name "tuple" p) [.Call (.Name "range" p2) [y] [] p3] [] p4) (tE X.K er G W C (.bi .tupRng (.cons a .nil))) := by
  refine pe_imp (pe_tupRgK (hx.calm hc) (glOk_i hx hg).1 (hx.bt _ hbt) (prg_1 (glOk_i hx hg2).1 (hx.bt _ hbt2) ha (starE ns))) fun σ H Q ⟨m, F, env, hs, s, q⟩ => ?_
  simp only [evalE, evalL] at q
  refine sub_E (.refl s.c) s (Post.asc q) fun r1 m1 F1 H1 hs1 v1 f1 _ s1 rv1 q1 => ?_
  simp only [Res.bind_ok, biO, oneO] at q1
  obtain ⟨r, e, q2⟩ := post_of q1
  unfold tupRngO at e
  split at e
  · rename_i n
    split at e
    · rename_i hf
      cases e
      exact ⟨n, Rp.int_of (F := F1) rv1, far_rg hf, fun l o hl nd => q2.give f1 (.inr ⟨_, l, _, o, rfl, rfl, hl, nd, rfl, rg_upto n⟩)⟩
    · cases e
  · cases e
theorem s_lenSet (hx : XOk G X N sc C cm er W) (hc : cm = true) {a : E} {y : Expr} {p p2 p3 p4 : Pos} (hg : glOk sc "len" = true) (hbt : ("len" : Str) ∈ G.bt) (hg2 : glOk sc "set" = true) (hbt2 : ("set" : Str) ∈ G.bt) (ns : noStar y = true) (ha : PE X y (tE X.K er G W C a)) :
    PE X (.Call (.Name "len" p) [.Call (.Name "set" p2) [y] [] p3] [] p4) (tE X.K er G W C (.bi .lenSet (.cons a .nil))) := by
  have na : starEach [y] X.env = (false, eval y X.env) :: starEach [] X.env := starE ns
  refine ⟨fun pins s σ H Q I ⟨m, F, env, hs, sm, q⟩ => ?_⟩
  simp only [evalE, evalL] at q
  refine Call_ (ld_blt I (glOk_i hx hg).1 (hx.bt _ hbt) boot_len (callWith_builtin1 (args_cons (Call_ (ld_blt I (glOk_i hx hg2).1 (hx.bt _ hbt2) boot_set (callWith_type1 (args_cons (thn (ha.run pins s σ H (fun v H' => ∃ r1 m1 F1 hs1, Fin m F H hs1 m1 F1 H' ∧ RelR X.K er m1 F1 H H' r1 v ∧ Post (Res.of (lenSetO r1 hs1) hs1) m F H (fun r m' F' H' _ => ∀ v, RelR X.K er m' F' H H' r v → Q v H') (wn G W σ)) I (sub_E (.refl sm.c) sm (Post.asc q) fun r1 m1 F1 H1 hs1 v1 f1 _ s1 rv1 q1 => ⟨r1, m1, F1, hs1, f1, rv1, by simpa only [Res.bind_ok, biO, oneO] using q1⟩)) fun v s1 ⟨x1, H1, I1, rx, r1, m1, F1, hs1, f1, rv1, q1⟩ => args_nil ?_) na) na))) rfl) rfl))
  obtain ⟨r, e, q2⟩ := post_of q1
  unfold lenSetO at e
  split at e
  · rename_i xs hl
    split at e
    · rename_i is hi
      split at e
      · rename_i hz
        cases e
        obtain ⟨b, ws, rfl, h1, h2⟩ := look_lk f1.2 rv1 hl
        have := intsD_vs hi h2
        subst this
        cases rx
        obtain ⟨its, rv, pl, hz2⟩ := I1.list (SqL.of h1)
        have hn : its.toArray.size = is.length := by rw [List.size_toArray, ← rv.length, List.length_map]
        refine call_set_list (I1.ok.hd (hx.calm hc)) pl.isList (ns := is) (by simpa using rv.ints) (by rw [hn]; unfold scanBound; omega) fun h' tk hS hk => ?_
        rw [hn] at hS
        obtain ⟨o, es, ep, t, ho, hex, hd, _, _, _, hf, hm⟩ := hS
        rw [firstMet_nub] at hm
        have hle : (nubI is).length ≤ is.length := nodup_len (nubI_nodup is) fun k hk => mem_nubI.mp hk
        have I2 : Inv X pins σ H1 { s1 with heap := h', toks := tk } := I1.kept fun b o e => hk b o (Heap.lt_size e) e
        exact args_nil (call_len_set ho hex hd hf (by rw [hm]; omega) ⟨.int (nubI is).length, H1, I2.tok _, ⟨_, by rw [hm]⟩, q2.tell f1 rel_int⟩)
      · cases e
    · cases e
  · cases e
end
end Mi

/-! Mi: methods of lists and dicts. -/
namespace Mi
open PySem PySem.Spec PyProof.Rows L2

theorem placeOf_find (d : PyData) : ∀ (xs : List PyData) (n : Nat), placeOf d xs n = (SeqAt.dataPlace xs d).map (· + n)
  | [], n => rfl
  | x :: xs, n => by
    unfold placeOf SeqAt.dataPlace
    rw [List.findIdx?_cons]
    split
    · simp
    · have := placeOf_find d xs (n + 1)
      unfold SeqAt.dataPlace at this
      rw [this, Option.map_map]
      congr 1
      funext k
      show k + (n + 1) = k + 1 + n
      omega
theorem inOk_i {d : PyData} {xs : List PyData} (h : inOk d xs = true) : d.plain = true ∧ PyData.plainAll xs = true ∧ d.depth ≤ 64 := by
  unfold inOk at h
  simp only [Bool.and_eq_true] at h
  exact ⟨h.1.1, h.1.2, of_decide_eq_true h.2⟩
/-- a list's method asked of one thing (or a tuple's) -/
def isTupO : Option PyData → Bool
  | some (.tuple _) => true
  | _ => false
def rM1 (K : PySem.W.Frag) (er : Nat → V → Prop) (m : Mt) (tu : Bool) : V → List V → Hp → VK → Prop := fun x vs H Q => ∃ (m0 : List Addr) (F H0 H1 : Hp) (hs : Hs) (o a r : R) (v : V), vs = [v] ∧ Cells m0 F hs H ∧ RelR K er m0 F H0 H o x ∧ RelR K er m0 F H1 H a v ∧ isTupO (look hs o) = tu ∧ mtO m o [a] hs = some r ∧ ∀ v H', Gives F H r v H' → Q v H'
section
variable {X : Cx} {er : Nat → V → Prop}
theorem mt_countM (hu : X.A.units + 200 < cLine) : MtR X "list.count" (rM1 X.K er .count false) := by
  intro pins s σ H x vs v us Q I rx rv h
  obtain ⟨m0, F, H0, H1, hs, o, a, r, w, rfl, c, ro, ra, tu, e, q⟩ := h
  obtain ⟨u, rfl, ru⟩ := rv.one
  simp only [mtO] at e
  split at e
  · rename_i xs d hl hd
    split at e
    · rename_i io
      cases e
      obtain ⟨b, ws, rfl, h1, h2⟩ := look_lk c ro hl
      cases rx
      obtain ⟨its, rv, pl, hz⟩ := I.list (SqL.of h1)
      obtain ⟨as, hr⟩ := RpL.reads I xs ws its (RpL.sub c.frz _ _ h2) rv
      obtain ⟨bs, hd'⟩ := Rp.reads I d w u ((look_lk c ra hd).rp c.frz) ru
      obtain ⟨i1, i2, i3⟩ := inOk_i io
      exact SeqAt.count_list_data pl.isList (vs := its.toArray) (by simpa using hr) hd' i2 i1 (by omega) ⟨.int _, H, I.tok _, ⟨_, rfl⟩, q _ _ gives_int⟩
    · cases e
  · rename_i xs d hl hd
    rw [hl] at tu
    cases tu
  · cases e
theorem mt_countT (hu : X.A.units + 200 < cLine) : MtR X "tuple.count" (rM1 X.K er .count true) := by
  intro pins s σ H x vs v us Q I rx rv h
  obtain ⟨m0, F, H0, H1, hs, o, a, r, w, rfl, c, ro, ra, tu, e, q⟩ := h
  obtain ⟨u, rfl, ru⟩ := rv.one
  simp only [mtO] at e
  split at e
  · rename_i xs d hl hd
    rw [hl] at tu
    cases tu
  · rename_i xs d hl hd
    split at e
    · rename_i io
      cases e
      obtain ⟨b, ws, rfl, h1, h2⟩ := Rp.tuple_iff.mp (look_lk c ro hl)
      cases rx
      obtain ⟨its, rv, pl, hz⟩ := I.tuple (SqT.dn (c.frz _ _ h1))
      obtain ⟨as, hr⟩ := RpL.reads I xs ws its (RpL.sub c.frz _ _ h2) rv
      obtain ⟨bs, hd'⟩ := Rp.reads I d w u ((look_lk c ra hd).rp c.frz) ru
      obtain ⟨i1, i2, i3⟩ := inOk_i io
      exact SeqAt.count_tuple_data (show s.heap.IsTuple b its.toArray from pl) (vs := its.toArray) (by simpa using hr) hd' i2 i1 (by omega) ⟨.int _, H, I.tok _, ⟨_, rfl⟩, q _ _ gives_int⟩
    · cases e
  · cases e
theorem mt_indexM (hu : X.A.units + 200 < cLine) : MtR X "list.index" (rM1 X.K er .index false) := by
  intro pins s σ H x vs v us Q I rx rv h
  obtain ⟨m0, F, H0, H1, hs, o, a, r, w, rfl, c, ro, ra, tu, e, q⟩ := h
  obtain ⟨u, rfl, ru⟩ := rv.one
  simp only [mtO] at e
  split at e
  · rename_i xs d hl hd
    split at e
    · rename_i io
      rw [placeOf_find] at e
      cases hp : SeqAt.dataPlace xs d with
      | none => rw [hp] at e; cases e
      | some j =>
        rw [hp] at e
        cases e
        obtain ⟨b, ws, rfl, h1, h2⟩ := look_lk c ro hl
        cases rx
        obtain ⟨its, rv, pl, hz⟩ := I.list (SqL.of h1)
        obtain ⟨as, hr⟩ := RpL.reads I xs ws its (RpL.sub c.frz _ _ h2) rv
        obtain ⟨bs, hd'⟩ := Rp.reads I d w u ((look_lk c ra hd).rp c.frz) ru
        obtain ⟨i1, i2, i3⟩ := inOk_i io
        have hr' : ReadsAll s.heap its.toArray.toList xs as := by simpa using hr
        obtain ⟨⟨cls, dd, data, sl⟩, ho, hc, n, hdd⟩ := pl.isList
        simp only at hc hdd
        subst hc hdd
        obtain ⟨hj, hit, hno⟩ := SeqAt.hit_at (vs := its.toArray) hr' i2 hp
        have hsm : (j : Int) < 2 ^ 63 - 1 := by
          rw [List.size_toArray, ← rv.length] at hj
          have := sizeLine_eq
          omega
        exact call_meets PySem.F.slot_list_index ⟨_, ho, rfl⟩ PySem.F.entry_list_index (PySem.F.args_list_index_2 _ _) (SeqAt.list_indexAt b its.toArray n dd sl u _ j hj hsm hit hno) ⟨ho, SeqAt.items_plain (vs := its.toArray) hr' hd' i2 i1 (by omega), ⟨.int _, H, I.tok _, ⟨_, rfl⟩, q _ _ gives_int⟩⟩
    · cases e
  · rename_i xs d hl hd
    rw [hl] at tu
    cases tu
  · cases e
theorem mt_indexT (hu : X.A.units + 200 < cLine) : MtR X "tuple.index" (rM1 X.K er .index true) := by
  intro pins s σ H x vs v us Q I rx rv h
  obtain ⟨m0, F, H0, H1, hs, o, a, r, w, rfl, c, ro, ra, tu, e, q⟩ := h
  obtain ⟨u, rfl, ru⟩ := rv.one
  simp only [mtO] at e
  split at e
  · rename_i xs d hl hd
    rw [hl] at tu
    cases tu
  · rename_i xs d hl hd
    split at e
    · rename_i io
      rw [placeOf_find] at e
      cases hp : SeqAt.dataPlace xs d with
      | none => rw [hp] at e; cases e
      | some j =>
        rw [hp] at e
        cases e
        obtain ⟨b, ws, rfl, h1, h2⟩ := Rp.tuple_iff.mp (look_lk c ro hl)
        cases rx
        obtain ⟨its, rv, pl, hz⟩ := I.tuple (SqT.dn (c.frz _ _ h1))
        obtain ⟨as, hr⟩ := RpL.reads I xs ws its (RpL.sub c.frz _ _ h2) rv
        obtain ⟨bs, hd'⟩ := Rp.reads I d w u ((look_lk c ra hd).rp c.frz) ru
        obtain ⟨i1, i2, i3⟩ := inOk_i io
        have hr' : ReadsAll s.heap its.toArray.toList xs as := by simpa using hr
        obtain ⟨⟨cls, dd, data, sl⟩, ho, hc, n, hdd⟩ := pl
        simp only at hc hdd
        subst hc hdd
        obtain ⟨hj, hit, hno⟩ := SeqAt.hit_at (vs := its.toArray) hr' i2 hp
        have eqs : ∀ y, y ∈ its.toArray → SeqAt.EqAt X.A.in1 s y u (PyData.eqv (SeqAt.readOf s.heap y) d) := SeqAt.items_plain (vs := its.toArray) hr' hd' i2 i1 (by omega)
        generalize hk : (fun m : Nat => if h : m < its.toArray.size then PyData.eqv (SeqAt.readOf s.heap its.toArray[m]) d else false) = k
        have kat : ∀ m (hm : m < its.toArray.size), k m = PyData.eqv (SeqAt.readOf s.heap its.toArray[m]) d := fun m hm => by
          rw [← hk]
          exact dif_pos hm
        exact call_meets PySem.F.slot_tuple_index ⟨_, ho, rfl⟩ PySem.F.entry_tuple_index (PySem.F.args_tuple_index_2 _ _) (SeqAt.tuple_index2_found b its.toArray n dd sl u k j hj (Nat.zero_le _) hj (by rw [kat j hj]; exact hit) fun m hm _ hmj => by rw [kat m hm]; exact hno m hm hmj)
          ⟨ho, fun m hm => by rw [kat m hm]; exact eqs _ (Array.getElem_mem hm), ⟨.int _, H, I.tok _, ⟨_, rfl⟩, q _ _ gives_int⟩⟩
    · cases e
  · cases e
/-- a tuple with no dict of its own -/
def tyT (x : V) (H : Hp) : Prop := ∃ (b : Addr) (o : Obj) (vs : List V), x = .ref b ∧ H b = some (.frz o (.tup vs)) ∧ o.dict = none
theorem tyT_is {pins : List (Addr × Obj)} {σ : L2.St} {H : Hp} {s : Shared} {x : V} {v : Value} (I : Inv X pins σ H s) (r : RelV x v) (ty : tyT x H) :
    s.TypeIs v "tuple" ∧ ∀ a, v = .ref a → ∃ ob, s.heap.get? a = some ob ∧ ob.dict = none := by
  obtain ⟨b, o, vs, rfl, h1, h2⟩ := ty
  obtain rfl : v = .ref b := r
  obtain ⟨e, -, its, -, ⟨ob, e2, hc, -⟩⟩ := I.hok b _ h1
  exact ⟨⟨ob, e2, hc⟩, fun a ea => by cases ea; exact ⟨o, e, h2⟩⟩
/-- a method that lists and tuples both have, asked of one thing -/
def tBM2 (K : PySem.W.Frag) (rl rt : V → List V → Hp → VK → Prop) (to : TE) (t : TA) : TE := fun σ H Q => to σ H fun x H1 =>
  (tyV K "list" x H1 ∧ t σ H1 fun xs H2 => rl x xs H2 Q) ∨ (tyT x H1 ∧ t σ H1 fun xs H2 => rt x xs H2 Q)
theorem pe_bm2 {o e : Expr} {to : TE} {t : TA} {name : Str} {apos cpos : Pos} {il it : String} {rl rt : V → List V → Hp → VK → Prop} (sl : Slot "list" name il) (st : Slot "tuple" name it) (tl : typeOf (.builtin il) = pure (.type "method_descriptor"))
    (tt : typeOf (.builtin it) = pure (.type "method_descriptor")) (ml : MtR X il rl) (mt : MtR X it rt) (ho : PE X o to) (ha : PA X [e] t) (hb : attributeBase o name X.env (eval o X.env) = eval o X.env)
    (few : ((backTo cpos (starEach [e] X.env)).all (fun x => !x.1) && (backToKw cpos (keywordEach [] X.env)).all (fun x => x.1.isSome) && decide (([e] : List Expr).length + ([] : List Keyword).length + (if ([] : List Keyword).isEmpty then 0 else 1) < 30)) = true)
    (hl : (apos.endLine == cpos.line) = true) (hs : starEach [e] X.env = (false, eval e X.env) :: starEach [] X.env) (hp : (backTo cpos (starEach [] X.env)).any (·.1) = false) :
    PE X (.Call (.Attribute o name apos) [e] [] cpos) (tBM2 X.K rl rt to t) := by
  refine ⟨fun pins s σ H Q I h => wpAny_Call_method_late hb few hl rfl (thn (ho.run pins s σ H _ I h) fun v s1 ⟨x, H1, I1, r1, q1⟩ => ?_)⟩
  have np : (false || (backTo cpos (starEach [] X.env)).any (·.1)) = false := by rw [hp]; rfl
  rcases q1 with ⟨ty, q1⟩ | ⟨ty, q1⟩
  · obtain ⟨h1, h2⟩ := tyV_is I1 r1 ty
    have hA := ha.run cpos pins s1 σ H1 _ I1 q1
    refine ⟨"list", il, PySem.F.plainAttrs_list, sl, tl, h1, h2, ?_⟩
    rw [hs] at hA ⊢
    exact Calls.callWith_builtin np (Calls.evalArgs_plain (thn hA fun us s2 ⟨vs, H2, I2, r2, q2⟩ => ml pins s2 σ H2 x vs v us Q I2 r1 r2 q2))
  · obtain ⟨h1, h2⟩ := tyT_is I1 r1 ty
    have hA := ha.run cpos pins s1 σ H1 _ I1 q1
    refine ⟨"tuple", it, PySem.F.plainAttrs_tuple, st, tt, h1, h2, ?_⟩
    rw [hs] at hA ⊢
    exact Calls.callWith_builtin np (Calls.evalArgs_plain (thn hA fun us s2 ⟨vs, H2, I2, r2, q2⟩ => mt pins s2 σ H2 x vs v us Q I2 r1 r2 q2))
end
/-! ### in a text -/
theorem attr_base {o : Expr} (h : notCall0 o = true) (name : Str) (env : PySem.Env) (w : Sem Value) : attributeBase o name env w = w := by
  unfold attributeBase
  split
  · cases h
  · rfl
section
variable {G : Ctx} {X : Cx} {N : List Str} {sc : Scope} {C : Cf} {cm : Bool} {er : Nat → V → Prop} {W : WX}
theorem few1 {y : Expr} {env : PySem.Env} {p : Pos} (ns : noStar y = true) : ((backTo p (starEach [y] env)).all (fun x => !x.1) && (backToKw p (keywordEach [] env)).all (fun x => x.1.isSome) && decide (([y] : List Expr).length + ([] : List Keyword).length + (if ([] : List Keyword).isEmpty then 0 else 1) < 30)) = true := by
  rw [starE ns]
  rfl
/-- a list's place, what it is in the heap -/
theorem list_ty {m : List Addr} {F H0 H : Hp} {hs : Hs} {r : R} {v : V} (c : Cells m F hs H) (rr : RelR X.K er m F H0 H r v) (e : (match look hs r with | some (.list _) => true | _ => false) = true) : tyV X.K "list" v H := by
  split at e
  · rename_i xs hl
    obtain ⟨a, vs, rfl, h1, h2⟩ := look_lk c rr hl
    exact .inl ⟨rfl, vs, SqL.of h1⟩
  · cases e
theorem gives_mt {m : Mt} {o a r : R} {hs : Hs} (hm : m = .count ∨ m = .index) (e : mtR m o [a] hs = .ok r hs') : hs' = hs ∧ mtO m o [a] hs = some r := by
  have hp : popO m o [a] hs = none := by
    unfold popO
    rcases hm with rfl | rfl <;> (split <;> first | rfl | (split <;> first | rfl | (split <;> first | rfl | simp_all)))
  unfold mtR at e
  rw [hp] at e
  cases z : mtO m o [a] hs with
  | none => rw [z] at e; cases e
  | some r' =>
    rw [z] at e
    cases e
    exact ⟨rfl, rfl⟩
theorem tup_ty {m : List Addr} {F H0 H : Hp} {hs : Hs} {r : R} {v : V} (c : Cells m F hs H) (rr : RelR X.K er m F H0 H r v) (e : isTupO (look hs r) = true) : tyT v H := by
  unfold isTupO at e
  split at e
  · rename_i xs hl
    obtain ⟨a, vs, rfl, h1, h2⟩ := Rp.tuple_iff.mp (look_lk c rr hl)
    obtain ⟨o, ho, hd⟩ := dn_tup (c.frz _ _ h1)
    exact ⟨a, o, vs, rfl, ho, hd⟩
  · cases e
/-- what a sequence is does not change while its method's argument is found -/
theorem look_tup_r (g : Hs) (n : Nat) : isTupO (look g (.v (.r n))) = false := by
  simp only [look]
  cases hc : g[n]? with
  | none => rfl
  | some y => cases y <;> rfl
theorem look_tup_stay (hs hs2 : Hs) (r : R) : isTupO (look hs2 r) = isTupO (look hs r) := by
  cases r with
  | v w =>
    cases w with
    | r n => rw [look_tup_r, look_tup_r]
    | _ => rfl
  | fd kvs => cases kvs <;> rfl
  | _ => rfl
theorem seq_at {hs : Hs} {r : R} (h : (match look hs r with | some (.list _) => true | some (.tuple _) => true | _ => false) = true) (ht : isTupO (look hs r) = false) : (match look hs r with | some (.list _) => true | _ => false) = true := by
  cases e : look hs r with
  | none => rw [e] at h; cases h
  | some d =>
    rw [e] at h ht
    cases d with
    | list xs => rfl
    | tuple xs => cases ht
    | _ => cases h
theorem s_mt1 (hx : XOk G X N sc C cm er W) {m : Mt} {il it nm : String} (hm : m = .count ∨ m = .index) (sl : Slot "list" (Str.ofString nm) il) (st : Slot "tuple" (Str.ofString nm) it) (tl : typeOf (.builtin il) = pure (.type "method_descriptor")) (tt : typeOf (.builtin it) = pure (.type "method_descriptor"))
    (hr : MtR X il (rM1 X.K er m false)) (hr2 : MtR X it (rM1 X.K er m true)) {o a : E} {x y : Expr} {p pc : Pos} (nc : notCall0 x = true) (hl : (p.endLine == pc.line) = true) (ns : noStar y = true) (ho : PE X x (tE X.K er G W C o)) (ha : PE X y (tE X.K er G W C a)) :
    PE X (.Call (.Attribute x (Str.ofString nm) p) [y] [] pc) (tE X.K er G W C (.mt m o (.cons a .nil))) := by
  refine pe_imp (pe_bm2 sl st tl tt hr hr2 ho (pa_cons ha pa_nil (starE ns)) (attr_base nc _ _ _) (few1 ns) hl (starE ns) (by rfl)) fun σ H Q ⟨m0, F, env, hs, s, q⟩ => ?_
  simp only [evalE] at q
  refine sub_E (.refl s.c) s q fun r1 m1 F1 H1 hs1 v1 f1 _ s1 rv1 q1 => ?_
  split at q1
  · rename_i hat
    simp only [evalL] at q1
    have hat' : (match look hs1 r1 with | some (.list _) => true | some (.tuple _) => true | _ => false) = true := by
      rcases hm with rfl | rfl <;> exact hat
    have both : ∀ tu : Bool, isTupO (look hs1 r1) = tu → tE X.K er G W C a σ H1 fun v2 H2 => rM1 X.K er m tu v1 [v2] H2 Q := fun tu ht => by
      refine sub_E f1 s1 (Post.asc q1) fun r2 m2 F2 H2 hs2 v2 f2 g2 s2 rv2 q2 => ?_
      simp only [Res.bind_ok] at q2
      cases e : mtR m r1 [r2] hs2 with
      | bad => rw [e] at q2; exact q2.elim
      | ex c h =>
        exfalso
        unfold mtR at e
        split at e
        · cases e
        · cases z : mtO m r1 [r2] hs2 with
          | none => rw [z] at e; cases e
          | some r' => rw [z] at e; cases e
      | ok r hs3 =>
        obtain ⟨rfl, e2⟩ := gives_mt hm e
        rw [e] at q2
        exact ⟨m2, F2, H, H, hs3, r1, r2, r, v2, rfl, f2.2, rv1.ext g2.1, rv2, by rw [look_tup_stay hs1]; exact ht, e2, fun v H' g => q2.give f2 g⟩
    cases ht : isTupO (look hs1 r1) with
    | false => exact .inl ⟨list_ty f1.2 rv1 (seq_at hat' ht), both false ht⟩
    | true => exact .inr ⟨tup_ty f1.2 rv1 ht, both true ht⟩
  · exact q1.elim
theorem gives_mtS {m : Mt} {o a r : R} {hs : Hs} (hm : m = .join ∨ m = .split) (e : mtR m o [a] hs = .ok r hs') : hs' = hs ∧ mtO m o [a] hs = some r := by
  have hp : popO m o [a] hs = none := by
    unfold popO
    rcases hm with rfl | rfl <;> (split <;> first | rfl | (split <;> first | rfl | (split <;> first | rfl | simp_all)))
  unfold mtR at e
  rw [hp] at e
  cases z : mtO m o [a] hs with
  | none => rw [z] at e; cases e
  | some r' =>
    rw [z] at e
    cases e
    exact ⟨rfl, rfl⟩
theorem mtR_exS {m : Mt} {o : R} {as : List R} {hs hs' : Hs} {c : Nat} (e : mtR m o as hs = .ex c hs') : False := by
  unfold mtR at e
  split at e
  · cases e
  · cases z : mtO m o as hs with
    | none => rw [z] at e; cases e
    | some r' => rw [z] at e; cases e
theorem strs_rp {F : Hp} : ∀ {xs : List PyData} {ys : List Str} {ws : List V}, strsD xs = some ys → RpL F xs ws → ws = ys.map V.str
  | [], ys, ws, h, r => by
    cases h
    have r := (by simpa only [RpL] using r : ws = [])
    rw [r]
    rfl
  | x :: xs, ys, ws, h, r => by
    obtain ⟨v, ws', rfl, r1, r2⟩ := (by simpa only [RpL] using r : ∃ v r, ws = v :: r ∧ Rp F x v ∧ RpL F xs r)
    cases x with
    | str s =>
      simp only [strsD] at h
      cases e : strsD xs with
      | none => rw [e] at h; cases h
      | some zs =>
        rw [e] at h
        cases h
        rw [strs_rp e r2, (by simpa only [Rp] using r1 : v = .str s)]
        rfl
    | _ => simp [strsD] at h
theorem rp_strs {F : Hp} : ∀ ys : List Str, RpL F (ys.map .str) (ys.map V.str)
  | [] => by simp [RpL]
  | y :: ys => by
    simp only [List.map_cons, RpL]
    exact ⟨_, _, rfl, rp_str, rp_strs ys⟩
theorem s_join (hx : XOk G X N sc C cm er W) {o a : E} {x y : Expr} {p pc : Pos} (nc : notCall0 x = true) (hl : (p.endLine == pc.line) = true) (ns : noStar y = true) (ho : PE X x (tE X.K er G W C o)) (ha : PE X y (tE X.K er G W C a)) :
    PE X (.Call (.Attribute x (Str.ofString "join") p) [y] [] pc) (tE X.K er G W C (.mt .join o (.cons a .nil))) := by
  refine pe_imp (pe_join ho ha (starE ns) (attr_base nc _ _ _) hl) fun σ H Q ⟨m0, F, env, hs, s, q⟩ => ?_
  simp only [evalE] at q
  refine sub_E (.refl s.c) s q fun r1 m1 F1 H1 hs1 v1 f1 _ s1 rv1 q1 => ?_
  split at q1
  · rename_i hat
    obtain ⟨z, rfl⟩ : ∃ z, r1 = .v (.d (.str z)) := by
      simp only [mtAt] at hat
      split at hat
      · exact ⟨_, rfl⟩
      · cases hat
    cases (Rp.str_of (F := F1) (look_lk f1.2 rv1 (d := .str z) rfl))
    refine ⟨⟨z, rfl⟩, ?_⟩
    simp only [evalL] at q1
    refine sub_E f1 s1 (Post.asc q1) fun r2 m2 F2 H2 hs2 v2 f2 g2 s2 rv2 q2 => ?_
    simp only [Res.bind_ok] at q2
    cases e : mtR .join (.v (.d (.str z))) [r2] hs2 with
    | bad => rw [e] at q2; exact q2.elim
    | ex c h => exact (mtR_exS e).elim
    | ok r hs3 =>
      obtain ⟨rfl, e2⟩ := gives_mtS (.inl rfl) e
      rw [e] at q2
      simp only [mtO] at e2
      split at e2
      · rename_i s0 xs ho2 hlk
        cases ho2
        split at e2
        · rename_i ys hys
          split at e2
          · rename_i hsz
            cases e2
            obtain ⟨b, ws, rfl, h1, h2⟩ := look_lk f2.2 rv2 hlk
            cases strs_rp hys h2
            exact ⟨_, b, ys, rfl, rfl, .inl (SqL.of h1), hsz, q2.give f2 gives_str⟩
          · cases e2
        · cases e2
      · cases e2
  · exact q1.elim
theorem s_split (hx : XOk G X N sc C cm er W) {o a : E} {x y : Expr} {p pc : Pos} (nc : notCall0 x = true) (hl : (p.endLine == pc.line) = true) (ns : noStar y = true) (ho : PE X x (tE X.K er G W C o)) (ha : PE X y (tE X.K er G W C a)) :
    PE X (.Call (.Attribute x (Str.ofString "split") p) [y] [] pc) (tE X.K er G W C (.mt .split o (.cons a .nil))) := by
  refine pe_imp (pe_split ho ha (starE ns) (attr_base nc _ _ _) hl) fun σ H Q ⟨m0, F, env, hs, s, q⟩ => ?_
  simp only [evalE] at q
  refine sub_E (.refl s.c) s q fun r1 m1 F1 H1 hs1 v1 f1 _ s1 rv1 q1 => ?_
  split at q1
  · rename_i hat
    obtain ⟨z, rfl⟩ : ∃ z, r1 = .v (.d (.str z)) := by
      simp only [mtAt] at hat
      split at hat
      · exact ⟨_, rfl⟩
      · cases hat
    cases (Rp.str_of (F := F1) (look_lk f1.2 rv1 (d := .str z) rfl))
    refine ⟨⟨z, rfl⟩, ?_⟩
    simp only [evalL] at q1
    refine sub_E f1 s1 (Post.asc q1) fun r2 m2 F2 H2 hs2 v2 f2 g2 s2 rv2 q2 => ?_
    simp only [Res.bind_ok] at q2
    cases e : mtR .split (.v (.d (.str z))) [r2] hs2 with
    | bad => rw [e] at q2; exact q2.elim
    | ex c h => exact (mtR_exS e).elim
    | ok r hs3 =>
      obtain ⟨rfl, e2⟩ := gives_mtS (.inr rfl) e
      rw [e] at q2
      obtain ⟨b, rfl⟩ : ∃ b, r2 = .v (.d (.str b)) := by
        unfold mtO at e2
        split at e2 <;> first | cases e2 | skip
        all_goals simp_all
      cases (Rp.str_of (F := F2) (look_lk f2.2 rv2 (d := .str b) rfl))
      simp only [mtO] at e2
      split at e2
      · rename_i hsz
        cases e2
        exact ⟨z, b, rfl, rfl, hsz.1, line_le hsz.2, fun p np => q2.give f2 ⟨p, _, rfl, np, rfl, rp_strs _⟩⟩
      · cases e2
  · exact q1.elim
theorem mtR_ex {m : Mt} {o : R} {as : List R} {hs hs' : Hs} {c : Nat} (e : mtR m o as hs = .ex c hs') : False := by
  unfold mtR at e
  split at e
  · cases e
  · cases z : mtO m o as hs with
    | none => rw [z] at e; cases e
    | some r' => rw [z] at e; cases e
theorem mtR_pop {m : Mt} {o r : R} {as : List R} {hs hs' : Hs} (hm : m = .pop0 ∨ m = .pop1) (e : mtR m o as hs = .ok r hs') : ∃ x n xs, popO m o as hs = some (x, n, xs) ∧ r = .v (.d x) ∧ hs' = setCell hs n (.lst xs) := by
  unfold mtR at e
  split at e
  · rename_i x n xs h
    cases e
    exact ⟨x, n, xs, h, rfl, rfl⟩
  · exfalso
    have : mtO m o as hs = none := by
      rcases hm with rfl | rfl <;> (unfold mtO; split <;> simp_all)
    rw [this] at e
    cases e
theorem pop0_i {o r : R} {hs hs' : Hs} (e : mtR .pop0 o [] hs = .ok r hs') : ∃ n xs y, o = .v (.r n) ∧ hs[n]? = some (.lst xs) ∧ xs[xs.length - 1]? = some y ∧ r = .v (.d y) ∧ hs' = hs.set n (.lst xs.dropLast) := by
  obtain ⟨x, n, xs, h, rfl, rfl⟩ := mtR_pop (.inl rfl) e
  unfold popO at h
  split at h
  · rename_i k
    split at h
    · rename_i ys hy
      simp only [Option.map_eq_some_iff, Prod.mk.injEq] at h
      obtain ⟨y, h1, rfl, rfl, rfl⟩ := h
      exact ⟨k, ys, y, rfl, hy, h1, rfl, rfl⟩
    · cases h
  · cases h
theorem pop1_i {o a r : R} {hs hs' : Hs} (e : mtR .pop1 o [a] hs = .ok r hs') : ∃ n xs i k y, o = .v (.r n) ∧ a = .v (.d (.int i)) ∧ hs[n]? = some (.lst xs) ∧ xs.length ≤ line ∧ L2.ixN xs.length i = some k ∧ xs[k]? = some y ∧ r = .v (.d y) ∧ hs' = hs.set n (.lst (xs.eraseIdx k)) := by
  obtain ⟨x, n, xs, h, rfl, rfl⟩ := mtR_pop (.inr rfl) e
  unfold popO at h
  split at h
  · rename_i j
    split at h
    · rename_i ys hy
      split at h
      · rename_i z
        cases z
      · rename_i i _ z
        cases z
        split at h
        · cases h
        · rename_i hz
          split at h
          · rename_i k hk
            simp only [Option.map_eq_some_iff, Prod.mk.injEq] at h
            obtain ⟨y, h1, rfl, rfl, rfl⟩ := h
            exact ⟨j, ys, i, k, y, rfl, rfl, hy, Nat.le_of_not_lt hz, hk, h1, rfl, rfl⟩
          · cases h
      · cases h
    · cases h
  · cases h
theorem write_fin {m0 m : List Addr} {F0 F H0 H : Hp} {hs : Hs} (f : Fin m0 F0 H0 hs m F H) {n : Nat} {a : Addr} {c : Cell} {o o0 : HO} (hn : m[n]? = some a) (fa : F a = none) (ho : H a = some o0) (fr : Free o0) (h : ∀ G, G a = some o → CellR F G a c) : Fin m0 F0 H0 (hs.set n c) m F (upd H a o) :=
  f.trans ⟨ext_write (List.mem_of_getElem? hn) ho fr, f.2.write hn fa h⟩
theorem s_pop0 (hx : XOk G X N sc C cm er W) {o : E} {x : Expr} {p pc : Pos} (nc : notCall0 x = true) (hl : (p.endLine == pc.line) = true) (ho : PE X x (tE X.K er G W C o)) :
    PE X (.Call (.Attribute x (Str.ofString "pop") p) [] [] pc) (tE X.K er G W C (.mt .pop0 o .nil)) := by
  refine pe_imp (pe_bm0 PySem.F.plainAttrs_list PySem.F.slot_list_pop PySem.F.type_list_pop mt_pop ho (attr_base nc _ _ _) hl) fun σ H Q ⟨m0, F, env, hs, s, q⟩ => ?_
  simp only [evalE] at q
  refine sub_E (.refl s.c) s q fun r1 m1 F1 H1 hs1 v1 f1 _ s1 rv1 q1 => ?_
  split at q1
  · rename_i hat
    refine ⟨list_ty f1.2 rv1 hat, ?_⟩
    simp only [evalL, Res.bind_ok] at q1
    cases e : mtR .pop0 r1 [] hs1 with
    | bad => rw [e] at q1; exact q1.elim
    | ex c h => exact (mtR_ex e).elim
    | ok r hs3 =>
      rw [e] at q1
      obtain ⟨n, xs, y, rfl, hn, hy, rfl, rfl⟩ := pop0_i e
      obtain ⟨b, hb, rfl⟩ := rv1
      obtain ⟨vs, g1, g2⟩ := f1.2.cell n _ b hn hb
      obtain ⟨u, hu, ru⟩ := g2.get' hy
      refine ⟨b, vs, u, rfl, rfl, g1, by rw [g2.length]; exact hu, ?_⟩
      have w := write_fin f1 hb (f1.2.apl hn hb) g1 (fun _ _ z => nomatch z) (c := .lst xs.dropLast) (o := .lst vs.dropLast) fun G hG => ⟨_, hG, g2.dropLast⟩
      exact q1 m1 F1 _ w _ ru
  · exact q1.elim
theorem s_pop1 (hx : XOk G X N sc C cm er W) {o a : E} {x y : Expr} {p pc : Pos} (nc : notCall0 x = true) (hl : (p.endLine == pc.line) = true) (ns : noStar y = true) (ho : PE X x (tE X.K er G W C o)) (ha : PE X y (tE X.K er G W C a)) :
    PE X (.Call (.Attribute x (Str.ofString "pop") p) [y] [] pc) (tE X.K er G W C (.mt .pop1 o (.cons a .nil))) := by
  refine pe_imp (pe_bm PySem.F.plainAttrs_list PySem.F.slot_list_pop PySem.F.type_list_pop mt_popAt ho (pa_cons ha pa_nil (starE ns)) (attr_base nc _ _ _) (few1 ns) hl (starE ns) (by rfl)) fun σ H Q ⟨m0, F, env, hs, s, q⟩ => ?_
  simp only [evalE] at q
  refine sub_E (.refl s.c) s q fun r1 m1 F1 H1 hs1 v1 f1 _ s1 rv1 q1 => ?_
  split at q1
  · rename_i hat
    refine ⟨list_ty f1.2 rv1 hat, ?_⟩
    simp only [evalL] at q1
    refine sub_E f1 s1 (Post.asc q1) fun r2 m2 F2 H2 hs2 v2 f2 g2 s2 rv2 q2 => ?_
    simp only [Res.bind_ok] at q2
    cases e : mtR .pop1 r1 [r2] hs2 with
    | bad => rw [e] at q2; exact q2.elim
    | ex c h => exact (mtR_ex e).elim
    | ok r hs3 =>
      rw [e] at q2
      obtain ⟨n, xs, i, k, z, rfl, rfl, hn, hle, hk, hz, rfl, rfl⟩ := pop1_i e
      obtain ⟨b, hb, rfl⟩ := rv1.ext g2.1
      obtain ⟨vs, g1, g3⟩ := f2.2.cell n _ b hn hb
      obtain ⟨u, hu, ru⟩ := g3.get' hz
      obtain ⟨k1, k2, k3, k4⟩ := L2.ixN_seq hk
      have hle' : xs.length ≤ 16777216 := hle
      refine ⟨b, vs, i, k, u, rfl, by rw [Rp.int_of (F := F2) rv2], g1, by omega, by omega, by rw [g3.length]; exact k1, hu, ?_⟩
      have w := write_fin f2 hb (f2.2.apl hn hb) g1 (fun _ _ z => nomatch z) (c := .lst (xs.eraseIdx k)) (o := .lst (vs.eraseIdx k)) fun G hG => ⟨_, hG, g3.eraseIdx k⟩
      exact q2 m2 F2 _ w _ ru
  · exact q1.elim
theorem popO_get {o : R} {as : List R} {hs : Hs} : popO .get o as hs = none := by
  unfold popO
  split
  · split <;> rfl
  · rfl
theorem mtO_get {o a c r : R} {hs : Hs} (e : mtO .get o [a, c] hs = some r) : ∃ k dv kvs, a = .v (.d (.int k)) ∧ c = .v (.d dv) ∧ lookD hs o = some kvs ∧ r = .v (.d ((dget kvs k).getD dv)) := by
  unfold mtO at e
  split at e
  · rename_i h1 h2
    cases h1
  · rename_i h1 h2
    cases h1
  · rename_i h1 h2
    cases h2
    cases z : lookD hs o with
    | none => rw [z] at e; cases e
    | some kvs =>
      rw [z] at e
      cases e
      exact ⟨_, _, kvs, rfl, rfl, rfl, rfl⟩
  · rename_i h1 h2
    cases h1
  · rename_i h1 h2
    cases h1
  · cases e
theorem s_get (hx : XOk G X N sc C cm er W) {o a c : E} {x y z : Expr} {p pc : Pos} (nc : notCall0 x = true) (hl : (p.endLine == pc.line) = true) (ns : noStar y = true) (ns2 : noStar z = true) (ho : PE X x (tE X.K er G W C o)) (ha : PE X y (tE X.K er G W C a)) (hb : PE X z (tE X.K er G W C c)) :
    PE X (.Call (.Attribute x (Str.ofString "get") p) [y, z] [] pc) (tE X.K er G W C (.mt .get o (.cons a (.cons c .nil)))) := by
  have tr : backTo pc (starEach [y, z] X.env) = [(false, eval y X.env), (false, eval z X.env)] := by
    rw [starE ns, starE ns2]
    rfl
  have hu := hx.hu
  refine pe_imp (pe_dget2 (by omega) ho ha hb ⟨attr_base nc _ _ _, by rw [starE ns, starE ns2]; rfl, hl, tr⟩) fun σ H Q ⟨m0, F, env, hs, s, q⟩ => ?_
  simp only [evalE] at q
  refine sub_E (.refl s.c) s q fun r1 m1 F1 H1 hs1 v1 f1 _ s1 rv1 q1 => ?_
  split at q1
  · rename_i hat
    have hat' : (lookD hs1 r1).isSome = true := hat
    have isd : ∃ b, v1 = .ref b ∧ IsD H1 b := by
      cases hk : lookD hs1 r1 with
      | some kvs =>
        obtain ⟨b, rfl, ks, g1, _⟩ := lookD_cell f1.2 rv1 hk
        exact ⟨b, rfl, .inl ⟨ks, g1⟩⟩
      | none => rw [hk] at hat'; cases hat'
    obtain ⟨b, rfl, g1⟩ := isd
    refine ⟨b, rfl, g1, ?_⟩
    simp only [evalL] at q1
    refine sub_E f1 s1 (Post.asc q1) fun r2 m2 F2 H2 hs2 v2 f2 g2 s2 rv2 q2 => ?_
    refine sub_E f2 s2 (Post.asc (Post.asc q2)) fun r3 m3 F3 H3 hs3 v3 f3 g3 s3 rv3 q3 => ?_
    simp only [Res.bind_ok] at q3
    have rv1' := (rv1.ext g2.1).ext g3.1
    have rv2' := rv2.ext g3.1
    unfold mtR at q3
    rw [popO_get] at q3
    obtain ⟨r, e, q4⟩ := post_of q3
    obtain ⟨k, dv, kv3, rfl, rfl, hk3, rfl⟩ := mtO_get e
    obtain ⟨b', eb, hc⟩ := lookD_cell f3.2 rv1' hk3
    cases eb
    have ei := Rp.int_of (F := F3) rv2'
    subst ei
    rcases cell_dget hc k with ⟨e1, g⟩ | ⟨d, w, e1, g, rp⟩
    · refine ⟨none, g, ?_⟩
      rw [e1] at q4
      exact q4.tell f3 rv3
    · refine ⟨some w, g, ?_⟩
      rw [e1] at q4
      exact q4.tell f3 rp
  · exact q1.elim
end
end Mi

/-! Mi: one of several defs is asked. -/
namespace Mi
open PySem PySem.Spec PyProof.Rows L2

section
variable {G : Ctx} {X : Cx} {N : List Str} {sc : Scope} {C : Cf} {cm : Bool} {er : Nat → V → Prop} {W : WX}
/-- the def at fa is f -/
def DefAt (X : Cx) (G : Ctx) (C : Cf) (f : Nat) (fa : Addr) : Prop := ∃ k fd ps, FnOk X.prog X.w X.K X.mg X.base (L2.CX X.prog X.w) k fa fd ps (spOf X.K G C f) ∧ Room k X.A ∧ PySem.W.keepIn X.K (.ref fa) = true ∧ Binds X.K fd ps []
theorem pa_defs (hx : XOk G X N sc C cm er W) (hc : cm = true) : ∀ {fs : List Nat} {ys : List Expr}, chkF G sc fs ys = true → ∃ as : List Addr, as.length = fs.length ∧ (∀ (j f : Nat), fs[j]? = some f → ∃ a, as[j]? = some a ∧ DefAt X G C f a) ∧ (∀ e ∈ ys, noStar e = true) ∧ PA X ys (fun _ H Q => Q (as.map V.ref) H)
  | [], [], _ => ⟨[], rfl, (fun j f h => by simp at h), (fun e z => by cases z), pa_nil⟩
  | [], _ :: _, h => by simp [chkF] at h
  | _ :: _, [], h => by simp [chkF] at h
  | f :: fs, y :: ys, h => by
    simp only [chkF, Bool.and_eq_true] at h
    obtain ⟨x, p, rfl, h1⟩ := onName_i h.1
    simp only [Bool.and_eq_true, decide_eq_true_eq] at h1
    obtain ⟨k, fa, fd, ps, F1, hr, hm, hk, hb⟩ := hx.fn hc f x h1.1
    obtain ⟨g1, g2, _⟩ := glOk_i hx h1.2
    obtain ⟨as, l, q, ns, pa⟩ := pa_defs hx hc h.2
    refine ⟨fa :: as, by simp [l], fun j g hj => ?_, fun e he => ?_, ?_⟩
    · cases j with
      | zero =>
        cases hj
        exact ⟨fa, rfl, k, fd, ps, F1, hr, hk, hb⟩
      | succ j => exact q j g hj
    · rcases List.mem_cons.mp he with rfl | he
      · rfl
      · exact ns e he
    · exact pa_imp (pa_cons (pe_glob (v := .ref fa) g1 hm rfl g2) pa (starE (by rfl))) fun σ H Q h => h
/-- a call of what an expression gives -/
theorem pe_of {fe e : Expr} {es : List Expr} {pos : Pos} {tf : TE} {t : TA} (tk : Takes X W) (hf : PE X fe tf) (ht : eval (.Call fe (e :: es) [] pos) X.env = (do callWith pos (← eval fe X.env) [] (backTo pos (starEach (e :: es) X.env)) (backToKw pos (keywordEach [] X.env))))
    (ha : PA X (e :: es) t) (he : starEach (e :: es) X.env = (false, eval e X.env) :: starEach es X.env) (hpl : (backTo pos (starEach es X.env)).any (·.1) = false) :
    PE X (.Call fe (e :: es) [] pos) (fun σ H Q => tf σ H fun y H1 => ∃ f fa, y = .ref fa ∧ DefAt X G C f fa ∧ t σ H1 fun vs H2 => spOf X.K G C f vs H2 Q (WE W σ)) := by
  refine ⟨fun pins s σ H Q I h => ?_⟩
  refine Call_ (thn (hf.run pins s σ H _ I h) ?_) ht
  rintro u s1 ⟨_, H1, J, ru, f, fa, rfl, ⟨k, fd, ps, F1, room, kp, bnd⟩, g⟩
  obtain rfl : u = Value.ref fa := ru
  refine PySem.W.callWith_K (h₀ := X.base) J.ok.mod.kin kp (thn (ha.run pos pins s1 σ H1 _ J g) ?_) he hpl
  rintro us s2 ⟨vs, H2, J2, r, g2⟩
  exact ⟨J2.kIn, run_fnS F1 room bnd (passAt tk σ) J2 r g2⟩
theorem s_pick (hx : XOk G X N sc C cm er W) (hc : cm = true) {fs : List Nat} {i es : E} {ls : List Expr} {ix y : Expr} {ys : List Expr} {p p2 p3 : Pos} (hl : chkF G sc fs ls = true) (hn : fs.length ≤ 1000) (ni : notSlice ix = true) (hi : PE X ix (tE X.K er G W C i))
    (ns : ∀ e ∈ y :: ys, noStar e = true) (ha : PA X (y :: ys) (tL X.K er G W C es)) : PE X (.Call (.Subscript (.List ls p) ix p2) (y :: ys) [] p3) (tE X.K er G W C (.pick fs i es)) := by
  obtain ⟨as, l, q0, nl, pl⟩ := pa_defs hx hc hl
  refine pe_imp (pe_of (G := G) (C := C) (t := tL X.K er G W C es) hx.tk (pe_ix ix_list (pe_lst pl) hi (plainIx ni)) (by rfl) ha (starE (ns y List.mem_cons_self)) (star_plain fun e he => ns e (List.mem_cons_of_mem _ he))) fun σ H Q ⟨m, F, env, hs, s, q⟩ => ?_
  refine ⟨by rw [List.length_map, l]; exact Nat.le_trans hn (by decide), fun b nb => ?_⟩
  obtain ⟨c1, e1⟩ := s.c.new (o := .lst (as.map V.ref)) nb
  have f0 : Fin m F H hs m F (upd H b (.lst (as.map V.ref))) := ⟨e1, c1⟩
  simp only [evalE] at q
  refine sub_E f0 (s.fin f0) (Post.on (Fin.refl s.c) q) fun r1 m1 F1 H1 hs1 v1 f1 g1 s1 rv1 q1 => ?_
  split at q1
  · rename_i k
    cases hk : ixD fs k with
    | none => rw [hk] at q1; exact q1.elim
    | some f =>
      rw [hk] at q1
      obtain rfl := Rp.int_of (F := F1) rv1
      have hb : H1 b = some (.lst (as.map V.ref)) := g1.1.old b _ upd_same (s.c.mnone nb)
      obtain ⟨j, hj, hf⟩ := Option.bind_eq_some_iff.mp (show (ixN fs.length k).bind (fun j => fs[j]?) = some f from hk)
      obtain ⟨a, ha1, hd⟩ := q0 j f hf
      have hat : L2.atI (as.map V.ref) k = some (.ref a) := by
        unfold L2.atI
        rw [List.length_map, l, hj]
        simp [ha1]
      refine ⟨b, _, k, .ref a, rfl, rfl, SqL.of hb, hat, f, a, rfl, hd, ?_⟩
      refine sub_L f1 s1 q1 fun rs m2 F2 H2 hs2 vs f2 _ s2 rv2 q2 => ?_
      cases e : allW rs with
      | none => rw [e] at q2; exact q2.elim
      | some ws =>
        rw [e] at q2
        obtain ⟨F3, h3, r3⟩ := holdW f2.2 rv2.hd e
        have f3 := h3.fin f2
        refine ⟨m2, F3, hs2, ws, h3.c, RelWs.ofEr (fun c v z => absurd z (hx.noer hc c v)) r3, (Post.on f3 q2).mono fun r m' F' H' hs' g h v rv => h.2.2 v ?_⟩
        exact (RelR.ofEr (fun c v z => z.elim) rv).back f3.1.trk
  · exact q1.elim
end
end Mi

/-! Mi: sorted(set(xs)) of whole numbers, of tuples of whole numbers. -/
namespace Mi
open PySem PySem.Spec PyProof.Rows L2

section
variable {P : Program} {w : World} {A : Around} {E : Value → Shared → Prop} {s : Shared}
/-- a set as it is made -/
abbrev setO0 (w : World) : Obj := { cls := .type "set", dict := none, data := .set #[] 0 (.fresh 0 0 (!w.params.followText "set-order")) }
set_option maxHeartbeats 8000000 in
theorem set_listI {l : Addr} {items : Array Value} (ns : List Int) {Q : Value → Shared → Prop} (hh : A.handled = none) (hl : s.heap.IsList l items) (hit : IntsAre items.toList ns) (hb : ns.length + 1 < scanBound)
    (h : ∀ (h' : Heap) (tk c : Nat), SetR w h' s.heap.objs.size (fun j => decide (j ∈ ns)) c → c ≤ ns.length → (∀ b o, s.heap.get? b = some o → h'.get? b = some o) → Q (.ref s.heap.objs.size) { s with heap := h', toks := tk }) :
    wpAny (model P w) A (call (.type "set") [.ref l]) Q E s := by
  have zi : items.size = ns.length := by
    have q := IntsAre.length hit
    rw [Array.length_toList] at q
    exact q
  obtain ⟨c, tl, mr⟩ := F.called_set.mro
  have md := F.called_set.made
  have sb := F.called_set.sub
  refine wpAny_call (codeAny_of_tree ?_)
  show wpAny _ _ (callAny (.type "set") _) _ _ _
  refine wpAny_pure ⟨Code.quiet_builtin _ (by decide +kernel), codeAny_builtin F.entry_type_call ?_⟩
  rw [Around.under_plain (weight_type_call_type "set" [.ref l] []) rfl]
  have h1 := F.called_set.notType
  have h2 := F.called_set.canCreate
  have tc := F.typeCall_set_1 (.ref l)
  repeat (any_goals (first | assumption | wp_step))

  refine codeAny_mono (code_set_led1 (.ref l) (E := E) (Q₁ := fun obj s₁ => obj = .ref s.heap.objs.size ∧ s₁ = { s with heap := s.heap.push (setO0 w) }) ⟨rfl, rfl⟩) fun r s₁ hr => ?_
  cases r with
  | error e => exact hr
  | ok fl =>
    cases fl with
    | ret obj =>
      obtain ⟨rfl, rfl⟩ := hr
      have hS : (s.heap.push (setO0 w)).get? s.heap.objs.size = some (setO0 w) := Heap.get?_push_size _ rfl
      have hT : Shared.TypeIs { s with heap := s.heap.push (setO0 w) } (.ref s.heap.objs.size) "set" := ⟨_, hS, rfl⟩
      have li0 := F.called_set.init.lookup
      have bi0 := F.called_set.init.bind (.ref s.heap.objs.size)
      repeat (any_goals (first | assumption | wp_step))

      refine codeAny_mono (codeAny_call_builtin (R := wants (fun r s₂ => r = .none ∧ ∃ h' tk c, s₂ = { s with heap := h', toks := tk } ∧ SetR w h' s.heap.objs.size (fun j => decide (j ∈ ns)) c ∧ c ≤ ns.length ∧
          (∀ b o, s.heap.get? b = some o → h'.get? b = some o)) E) F.called_set.init.plain F.entry_set_init (check_set_init_1 hT ?_)) fun r₂ s₂ z2 => ?_
      · obtain ⟨ol, ol0, hcl, nl, hdl⟩ := hl
        obtain ⟨ocls, odict, odata, oslots⟩ := ol
        simp only at hcl hdl
        subst hcl; subst hdl
        have ol1 : (s.heap.push (setO0 w)).get? l = some { cls := .type "list", dict := odict, data := .seq items nl, slots := oslots } := Heap.get?_push_of_some _ ol0
        have l1s := F.sub_list_set
        have l1f := F.sub_list_frozenset
        have ne0 : (Value.type "list" == Value.type "dict") = false := by decide
        have ll1 : (s.heap.push (setO0 w)).IsList l items := ⟨_, ol1, rfl, nl, rfl⟩
        unfold Builtin.«set.__init__» noKeywords Builtin.Frozenset.updateFrom
        generalize hPI : pyIter = PI
        wp_walk
        subst hPI

        refine wpAny_pyIter_list ll1 ?_
        refine wpAny_bind (wpAny_runValue ?_)
        have lS : l < s.heap.objs.size := Heap.lt_size ol0
        have h3h : A.in1.in1.in1.handled = none := by simp [hh]
        have zz1 : (s.heap.push (setO0 w)).objs.size = s.heap.objs.size + 1 := Heap.size_push ..
        have nI : l ≠ (s.heap.push (setO0 w)).objs.size := by
          rw [Heap.size_push]; exact Nat.ne_of_lt (Nat.lt_succ_of_lt lS)
        have nS : s.heap.objs.size ∉ [(s.heap.push (setO0 w)).objs.size, l] := by
          rw [Heap.size_push]; simp only [List.mem_cons, List.mem_singleton, List.not_mem_nil, or_false, not_or]
          exact ⟨Nat.ne_of_lt (Nat.lt_succ_self _), Nat.ne_of_gt lS⟩
        have vl : ∀ (i : Nat) (v : Value), items[i]? = some v → ∃ k t, ns[i]? = some k ∧ v = .int k t := fun i v hv => by
          have hi : i < ns.length := by rw [← zi]; exact (Array.getElem?_eq_some_iff.mp hv).1
          obtain ⟨t, e⟩ := PyProof.Rows.IntsAre.int_at hit i v (by rw [Array.getElem?_toList]; exact hv)
          refine ⟨ns[i], t, List.getElem?_eq_getElem hi, ?_⟩
          rw [e, List.getD_eq_getElem?_getD, List.getElem?_eq_getElem hi] <;> rfl
        refine set_update_ints ((Walks.list h3h _ l nI items).toS) s.heap.objs.size
          nS ns zi hb vl (items.size - 0) 0 _ (by omega) (Nat.zero_le _)
          ⟨⟨_, Heap.get?_push_size _ rfl, rfl, rfl⟩, (ll1.push _)⟩ ?hS0 ?hR
        case hS0 =>
          have gt0 : ((s.heap.push (setO0 w)).push { cls := .type "list_iterator", data := .fields #[.ref l, .int 0 0] }).get? s.heap.objs.size
              = some (setO0 w) := Heap.get?_push_of_some _ hS
          exact ⟨0, Nat.le_refl 0, setR_new_at gt0⟩
        case hR =>
          intro s' c' hm hc' hS'
          obtain ⟨h', g2, d', tk', os'⟩ := s'
          have eg : g2 = s.gens := hm.gens
          have ed : d' = s.drawn := hm.drawn
          have eo : os' = s.os := hm.os
          subst eg; subst ed; subst eo
          show wpAny _ _ _ _ _ _
          refine wpAny_pure ?_
          show wpAny _ _ (ret Value.none) _ _ _
          rw [zi] at hc'
          refine wpAny_pure ⟨rfl, h', tk', c', rfl, hS', hc', fun b o e => ?_⟩
          have hb0 : b < s.heap.objs.size := Heap.lt_size e
          have hb1 : b ≠ s.heap.objs.size := Nat.ne_of_lt hb0
          have hb2 : b ≠ (s.heap.push (setO0 w)).objs.size := by
            rw [Heap.size_push]; exact Nat.ne_of_lt (Nat.lt_succ_of_lt hb0)
          exact hm.heap b o (by simp only [List.mem_cons, List.mem_singleton, List.not_mem_nil, or_false, not_or]; exact ⟨hb1, hb2⟩) (Heap.get?_push_of_some _ (Heap.get?_push_of_some _ e))

      · cases r₂ with
        | error e => exact z2
        | ok fl₂ =>
          cases fl₂ with
          | ret r =>
            obtain ⟨rfl, h', tk, c', rfl, hS', hc', hk'⟩ := z2
            repeat (any_goals (first | assumption | wp_step))
            exact h _ _ _ hS' hc' hk'
          | _ => exact z2.elim
    | _ => exact hr.elim

set_option maxHeartbeats 8000000 in
theorem set_tupT {l : Addr} {items : Array Value} (ks : List (Addr × List Int)) {Q : Value → Shared → Prop} (hh : A.handled = none) (hl : s.heap.IsTuple l items) (hit : items.toList = ks.map fun p => Value.ref p.1)
    (hk : ∀ p ∈ ks, IsT P w s.heap p.2 p.1) (few : ks.length < 64) (hu : A.units + 3 < cLine)
    (h : ∀ (h' : Heap) (tk : Nat) L es ep t, SetTR P w h' s.heap.objs.size L es ep t → Got ks ks.length L → (∀ b o, s.heap.get? b = some o → h'.get? b = some o) → Q (.ref s.heap.objs.size) { s with heap := h', toks := tk }) :
    wpAny (model P w) A (call (.type "set") [.ref l]) Q E s := by
  have zi : items.size = ks.length := by
    have q := congrArg List.length hit
    rw [Array.length_toList, List.length_map] at q
    exact q
  obtain ⟨c, tl, mr⟩ := F.called_set.mro
  have md := F.called_set.made
  have sb := F.called_set.sub
  refine wpAny_call (codeAny_of_tree ?_)
  show wpAny _ _ (callAny (.type "set") _) _ _ _
  refine wpAny_pure ⟨Code.quiet_builtin _ (by decide +kernel), codeAny_builtin F.entry_type_call ?_⟩
  rw [Around.under_plain (weight_type_call_type "set" [.ref l] []) rfl]
  have h1 := F.called_set.notType
  have h2 := F.called_set.canCreate
  have tc := F.typeCall_set_1 (.ref l)
  repeat (any_goals (first | assumption | wp_step))

  refine codeAny_mono (code_set_led1 (.ref l) (E := E) (Q₁ := fun obj s₁ => obj = .ref s.heap.objs.size ∧ s₁ = { s with heap := s.heap.push (setO0 w) }) ⟨rfl, rfl⟩) fun r s₁ hr => ?_
  cases r with
  | error e => exact hr
  | ok fl =>
    cases fl with
    | ret obj =>
      obtain ⟨rfl, rfl⟩ := hr
      have hS : (s.heap.push (setO0 w)).get? s.heap.objs.size = some (setO0 w) := Heap.get?_push_size _ rfl
      have hT : Shared.TypeIs { s with heap := s.heap.push (setO0 w) } (.ref s.heap.objs.size) "set" := ⟨_, hS, rfl⟩
      have li0 := F.called_set.init.lookup
      have bi0 := F.called_set.init.bind (.ref s.heap.objs.size)
      repeat (any_goals (first | assumption | wp_step))

      refine codeAny_mono (codeAny_call_builtin (R := wants (fun r s₂ => r = .none ∧ ∃ h' tk L es ep t, s₂ = { s with heap := h', toks := tk } ∧ SetTR P w h' s.heap.objs.size L es ep t ∧ Got ks ks.length L ∧
          (∀ b o, s.heap.get? b = some o → h'.get? b = some o)) E) F.called_set.init.plain F.entry_set_init (check_set_init_1 hT ?_)) fun r₂ s₂ z2 => ?_
      · obtain ⟨ol, ol0, hcl, nl, hdl⟩ := hl
        obtain ⟨ocls, odict, odata, oslots⟩ := ol
        simp only at hcl hdl
        subst hcl; subst hdl
        have ol1 : (s.heap.push (setO0 w)).get? l = some { cls := .type "tuple", dict := odict, data := .seq items nl, slots := oslots } := Heap.get?_push_of_some _ ol0
        have l1s := F.sub_tuple_set
        have l1f := F.sub_tuple_frozenset
        have ne0 : (Value.type "tuple" == Value.type "dict") = false := by decide
        have ll1 : (s.heap.push (setO0 w)).IsTuple l items := ⟨_, ol1, rfl, nl, rfl⟩
        unfold Builtin.«set.__init__» noKeywords Builtin.Frozenset.updateFrom
        generalize hPI : pyIter = PI
        wp_walk
        subst hPI

        refine wpAny_pyIter_tuple ll1 ?_
        refine wpAny_bind (wpAny_runValue ?_)
        have lS : l < s.heap.objs.size := Heap.lt_size ol0
        have h3h : A.in1.in1.in1.handled = none := by simp [hh]
        have zz1 : (s.heap.push (setO0 w)).objs.size = s.heap.objs.size + 1 := Heap.size_push ..
        have nI : l ≠ (s.heap.push (setO0 w)).objs.size := by
          rw [Heap.size_push]; exact Nat.ne_of_lt (Nat.lt_succ_of_lt lS)
        have nS : s.heap.objs.size ∉ [(s.heap.push (setO0 w)).objs.size, l] := by
          rw [Heap.size_push]; simp only [List.mem_cons, List.mem_singleton, List.not_mem_nil, or_false, not_or]
          exact ⟨Nat.ne_of_lt (Nat.lt_succ_self _), Nat.ne_of_gt lS⟩
        have vl : ∀ (i : Nat) (v : Value), items[i]? = some v → ∃ p, ks[i]? = some p ∧ v = .ref p.1 := fun i v hv => by
          have q : items.toList[i]? = some v := by rw [Array.getElem?_toList]; exact hv
          rw [hit, List.getElem?_map] at q
          cases e : ks[i]? with
          | none => rw [e] at q; cases q
          | some p =>
            rw [e] at q
            exact ⟨p, rfl, (Option.some.inj q).symm⟩
        have nof : ∀ b, s.heap.objs.size ≤ b → s.heap.get? b = none := fun b hb => by
          cases q : s.heap.get? b with
          | none => rfl
          | some o => exact absurd (Nat.lt_of_lt_of_le (Heap.lt_size q) hb) (Nat.lt_irrefl _)
        refine set_update_tups ((Walks.tuple h3h _ l nI items).toS) s.heap.objs.size
          nS ks zi few vl s.heap hk (nof _ (Nat.le_refl _)) (fun b hb => nof b (by
            rw [List.mem_singleton.mp hb, Heap.size_push]
            exact Nat.le_succ _)) hu (items.size - 0) 0 _ (by omega) (Nat.zero_le _)
          ⟨⟨_, Heap.get?_push_size _ rfl, rfl, rfl⟩, (ll1.push _)⟩ (fun b o e => Heap.get?_push_of_some _ (Heap.get?_push_of_some _ e)) ?hS0 ?hR
        case hS0 =>
          have gt0 : ((s.heap.push (setO0 w)).push { cls := .type "tuple_iterator", data := .fields #[.ref l, .int 0 0] }).get? s.heap.objs.size
              = some (setO0 w) := Heap.get?_push_of_some _ hS
          exact ⟨[], #[], 0, _, setTR_fresh gt0, Got.zero ks⟩
        case hR =>
          intro s' L es ep t hm hS' g' kp
          obtain ⟨h', g2, d', tk', os'⟩ := s'
          have eg : g2 = s.gens := hm.gens
          have ed : d' = s.drawn := hm.drawn
          have eo : os' = s.os := hm.os
          subst eg; subst ed; subst eo
          show wpAny _ _ _ _ _ _
          refine wpAny_pure ?_
          show wpAny _ _ (ret Value.none) _ _ _
          rw [zi] at g'
          exact wpAny_pure ⟨rfl, h', tk', L, es, ep, t, rfl, hS', g', kp⟩

      · cases r₂ with
        | error e => exact z2
        | ok fl₂ =>
          cases fl₂ with
          | ret r =>
            obtain ⟨rfl, h', tk, L, es, ep, t, rfl, hS', g', hk'⟩ := z2
            repeat (any_goals (first | assumption | wp_step))
            exact h _ _ _ _ _ _ hS' g' hk'
          | _ => exact z2.elim
    | _ => exact hr.elim

end
end Mi

/-! Mi: set(a list of tuples of whole numbers), bounded by the distinct ones. -/
namespace Mi
open PySem PySem.Spec PyProof.Rows L2
theorem TupS.distinct_le {A B : List (List Int)} (na : A.Nodup) (h : ∀ x ∈ A, x ∈ B) : A.length ≤ B.length := by
  induction A generalizing B with
  | nil => exact Nat.zero_le _
  | cons a A ih =>
    obtain ⟨n1, n2⟩ := List.nodup_cons.mp na
    have ha := h a List.mem_cons_self
    have := ih (B := B.erase a) n2 fun x hx => (List.mem_erase_of_ne (fun e : x = a => n1 (e ▸ hx))).mpr (h x (List.mem_cons_of_mem _ hx))
    rw [List.length_erase_of_mem ha] at this
    have := List.length_pos_of_mem ha
    rw [List.length_cons]
    omega
section
variable {P : Program} {w : World} {A : Around} {E : Value → Shared → Prop} {s : Shared}

/-- the loop of set.update over tuples, bounded by the distinct ones -/
theorem set_update_tupsN {I : Addr} {fp wr : List Addr} {G : Array GenState → Array GenState → Prop} {n : Nat} {Pv : Nat → Value → Prop} {St : Nat → Shared → Prop} {R : Result → Shared → Prop}
  (W : WalksS P w A.in1 I fp wr G n Pv St) (S : Addr) (hSf : S ∉ fp) (ks : List (Addr × List Int)) (hn : n = ks.length) (Dv : List (List Int)) (dl : Dv.length < 63) (dk : ∀ p ∈ ks, p.2 ∈ Dv) (hval : ∀ i v, Pv i v → ∃ p, ks[i]? = some p ∧ v = .ref p.1)
  (h0 : Heap) (hk : ∀ p ∈ ks, IsT P w h0 p.2 p.1) (hS0 : h0.get? S = none) (hw0 : ∀ b ∈ wr, h0.get? b = none) (hu : A.in1.units < cLine) :
  ∀ (k i : Nat) (s : Shared), n - i = k → i ≤ n → St i s → (∀ b o, h0.get? b = some o → s.heap.get? b = some o) → (∃ L es ep t, SetTR P w s.heap S L es ep t ∧ Got ks i L) →
    (∀ s' L es ep t, Moved (S :: wr) G s s' → SetTR P w s'.heap S L es ep t → Got ks n L → (∀ b o, h0.get? b = some o → s'.heap.get? b = some o) → R (.ok (.ret .none)) s') →
    codeAny (model P w) A (.builtin "set.update.loop" ⟨[.ref S, .ref I], []⟩) R s := by
  have apart : S ∉ wr := fun z => hSf (W.sub _ z)
  have into : ∀ b ∈ wr, b ∈ S :: wr := fun b z => List.mem_cons_of_mem _ z
  have stay : ∀ {u v : Shared}, Moved wr G u v → (∀ b o, h0.get? b = some o → u.heap.get? b = some o) → ∀ b o, h0.get? b = some o → v.heap.get? b = some o := fun mv q b o e =>
    mv.heap b o (fun z => by rw [hw0 b z] at e; cases e) (q b o e)
  have fewL : ∀ {h : Heap} {i : Nat} {L : List (Addr × List Int)} {es ep t}, SetTR P w h S L es ep t → Got ks i L → L.length + 1 < 64 := fun R0 g => by
    have := TupS.distinct_le R0.nd (B := Dv) fun x hx => by
      obtain ⟨p, hp, rfl⟩ := List.mem_map.mp hx
      exact dk p (List.mem_of_mem_take (g.sub p hp))
    rw [List.length_map] at this
    omega
  intro k
  induction k with
  | zero =>
    intro i s e1 e2 now q ⟨L, es, ep, t, set, g⟩ done
    obtain rfl : i = n := by omega
    refine codeAny_builtin F.entry_set_update_loop ?_
    rw [Around.under_plainId F.plain_set_update_loop _]
    show wpAny _ A.in1 (pyNext (.ref I) >>= _) _ _ s
    refine wpAny_bind (W.done s _ _ now fun u mv => ?_)
    show wpAny _ A.in1 (ret Value.none) _ _ u
    have q2 := stay mv q
    exact wpAny_pure (done u L es ep t (mv.mono into) (set.keep (fun o e => mv.heap S o apart e) fun p z => isT_keep (hk p (List.mem_of_mem_take (g.sub p z))) q2) g q2)
  | succ k ih =>
    intro i s e1 e2 now q ⟨L, es, ep, t, set, g⟩ done
    have lt : i < n := by omega
    refine codeAny_builtin F.entry_set_update_loop ?_
    rw [Around.under_plainId F.plain_set_update_loop _]
    show wpAny _ A.in1 (pyNext (.ref I) >>= _) _ _ s
    refine wpAny_bind (W.item i s _ _ lt now fun v u pv next mv => ?_)
    obtain ⟨p, at_, rfl⟩ := hval i v pv
    have q2 := stay mv q
    have set2 : SetTR P w u.heap S L es ep t := set.keep (fun o e => mv.heap S o apart e) fun p z => isT_keep (hk p (List.mem_of_mem_take (g.sub p z))) q2
    have tp : IsT P w u.heap p.2 p.1 := isT_keep (hk p (List.mem_of_getElem? at_)) q2
    show wpAny _ A.in1 (holding [Value.ref p.1] (setAdd S (.ref p.1)) >>= _) _ _ u
    refine wpAny_bind (wpAny_holding ?_)
    unfold setAdd
    refine wpAny_holding ?_
    refine wpAny_bind (wpAny_pyHash_tuple hu tp ?_)
    refine add_at (s := { u with toks := u.toks + (p.2.length + 1) }) set2 tp hu (fewL set2 g) fun b h' L' es' ep' t' same set3 c1 c2 => ?_
    have g2 : Got ks (i + 1) L' := by
      rcases Classical.em (p.2 ∈ L.map (·.2)) with c | c
      · rw [c1 c]; exact g.same at_ c
      · exact g.more at_ (c2 c)
    have q3 : ∀ b o, h0.get? b = some o → h'.get? b = some o := fun b o e => (same.2 b (fun z => by rw [z, hS0] at e; cases e)).trans (q2 b o e)
    refine wpAny_pure ⟨plainId_quiet F.plain_set_update_loop _, ih (i + 1) _ (by omega) lt (W.frame _ u _ _ next (Nat.le_add_right _ _) fun b z o e => ?_) q3 ⟨L', es', ep', t', set3, g2⟩ fun x L2 es2 ep2 t2 mv2 set4 g3 q4 => ?_⟩
    · rw [same.2 b (fun z2 : b = S => hSf (by rw [← z2]; exact z))]; exact e
    · refine done x L2 es2 ep2 t2 (Moved.trans W.gtrans ((mv.mono into).then_heap (Nat.le_add_right _ _) fun b o z e => ?_) mv2) set4 g3 q4
      rw [same.2 b (fun z2 : b = S => z (by rw [z2]; exact List.mem_cons_self))]; exact e
set_option maxHeartbeats 8000000 in
theorem set_listTN {l : Addr} {items : Array Value} (ks : List (Addr × List Int)) {Q : Value → Shared → Prop} (hh : A.handled = none) (hl : s.heap.IsList l items) (hit : items.toList = ks.map fun p => Value.ref p.1)
    (hk : ∀ p ∈ ks, IsT P w s.heap p.2 p.1) (Dv : List (List Int)) (dl : Dv.length < 63) (dk : ∀ p ∈ ks, p.2 ∈ Dv) (hu : A.units + 3 < cLine)
    (h : ∀ (h' : Heap) (tk : Nat) L es ep t, SetTR P w h' s.heap.objs.size L es ep t → Got ks ks.length L → (∀ b o, s.heap.get? b = some o → h'.get? b = some o) → Q (.ref s.heap.objs.size) { s with heap := h', toks := tk }) :
    wpAny (model P w) A (call (.type "set") [.ref l]) Q E s := by
  have zi : items.size = ks.length := by
    have q := congrArg List.length hit
    rw [Array.length_toList, List.length_map] at q
    exact q
  obtain ⟨c, tl, mr⟩ := F.called_set.mro
  have md := F.called_set.made
  have sb := F.called_set.sub
  refine wpAny_call (codeAny_of_tree ?_)
  show wpAny _ _ (callAny (.type "set") _) _ _ _
  refine wpAny_pure ⟨Code.quiet_builtin _ (by decide +kernel), codeAny_builtin F.entry_type_call ?_⟩
  rw [Around.under_plain (weight_type_call_type "set" [.ref l] []) rfl]
  have h1 := F.called_set.notType
  have h2 := F.called_set.canCreate
  have tc := F.typeCall_set_1 (.ref l)
  repeat (any_goals (first | assumption | wp_step))

  refine codeAny_mono (code_set_led1 (.ref l) (E := E) (Q₁ := fun obj s₁ => obj = .ref s.heap.objs.size ∧ s₁ = { s with heap := s.heap.push (setO0 w) }) ⟨rfl, rfl⟩) fun r s₁ hr => ?_
  cases r with
  | error e => exact hr
  | ok fl =>
    cases fl with
    | ret obj =>
      obtain ⟨rfl, rfl⟩ := hr
      have hS : (s.heap.push (setO0 w)).get? s.heap.objs.size = some (setO0 w) := Heap.get?_push_size _ rfl
      have hT : Shared.TypeIs { s with heap := s.heap.push (setO0 w) } (.ref s.heap.objs.size) "set" := ⟨_, hS, rfl⟩
      have li0 := F.called_set.init.lookup
      have bi0 := F.called_set.init.bind (.ref s.heap.objs.size)
      repeat (any_goals (first | assumption | wp_step))

      refine codeAny_mono (codeAny_call_builtin (R := wants (fun r s₂ => r = .none ∧ ∃ h' tk L es ep t, s₂ = { s with heap := h', toks := tk } ∧ SetTR P w h' s.heap.objs.size L es ep t ∧ Got ks ks.length L ∧
          (∀ b o, s.heap.get? b = some o → h'.get? b = some o)) E) F.called_set.init.plain F.entry_set_init (check_set_init_1 hT ?_)) fun r₂ s₂ z2 => ?_
      · obtain ⟨ol, ol0, hcl, nl, hdl⟩ := hl
        obtain ⟨ocls, odict, odata, oslots⟩ := ol
        simp only at hcl hdl
        subst hcl; subst hdl
        have ol1 : (s.heap.push (setO0 w)).get? l = some { cls := .type "list", dict := odict, data := .seq items nl, slots := oslots } := Heap.get?_push_of_some _ ol0
        have l1s := F.sub_list_set
        have l1f := F.sub_list_frozenset
        have ne0 : (Value.type "list" == Value.type "dict") = false := by decide
        have ll1 : (s.heap.push (setO0 w)).IsList l items := ⟨_, ol1, rfl, nl, rfl⟩
        unfold Builtin.«set.__init__» noKeywords Builtin.Frozenset.updateFrom
        generalize hPI : pyIter = PI
        wp_walk
        subst hPI

        refine wpAny_pyIter_list ll1 ?_
        refine wpAny_bind (wpAny_runValue ?_)
        have lS : l < s.heap.objs.size := Heap.lt_size ol0
        have h3h : A.in1.in1.in1.handled = none := by simp [hh]
        have zz1 : (s.heap.push (setO0 w)).objs.size = s.heap.objs.size + 1 := Heap.size_push ..
        have nI : l ≠ (s.heap.push (setO0 w)).objs.size := by
          rw [Heap.size_push]; exact Nat.ne_of_lt (Nat.lt_succ_of_lt lS)
        have nS : s.heap.objs.size ∉ [(s.heap.push (setO0 w)).objs.size, l] := by
          rw [Heap.size_push]; simp only [List.mem_cons, List.mem_singleton, List.not_mem_nil, or_false, not_or]
          exact ⟨Nat.ne_of_lt (Nat.lt_succ_self _), Nat.ne_of_gt lS⟩
        have vl : ∀ (i : Nat) (v : Value), items[i]? = some v → ∃ p, ks[i]? = some p ∧ v = .ref p.1 := fun i v hv => by
          have q : items.toList[i]? = some v := by rw [Array.getElem?_toList]; exact hv
          rw [hit, List.getElem?_map] at q
          cases e : ks[i]? with
          | none => rw [e] at q; cases q
          | some p =>
            rw [e] at q
            exact ⟨p, rfl, (Option.some.inj q).symm⟩
        have nof : ∀ b, s.heap.objs.size ≤ b → s.heap.get? b = none := fun b hb => by
          cases q : s.heap.get? b with
          | none => rfl
          | some o => exact absurd (Nat.lt_of_lt_of_le (Heap.lt_size q) hb) (Nat.lt_irrefl _)
        refine set_update_tupsN ((Walks.list h3h _ l nI items).toS) s.heap.objs.size
          nS ks zi Dv dl dk vl s.heap hk (nof _ (Nat.le_refl _)) (fun b hb => nof b (by
            rw [List.mem_singleton.mp hb, Heap.size_push]
            exact Nat.le_succ _)) hu (items.size - 0) 0 _ (by omega) (Nat.zero_le _)
          ⟨⟨_, Heap.get?_push_size _ rfl, rfl, rfl⟩, (ll1.push _)⟩ (fun b o e => Heap.get?_push_of_some _ (Heap.get?_push_of_some _ e)) ?hS0 ?hR
        case hS0 =>
          have gt0 : ((s.heap.push (setO0 w)).push { cls := .type "list_iterator", data := .fields #[.ref l, .int 0 0] }).get? s.heap.objs.size
              = some (setO0 w) := Heap.get?_push_of_some _ hS
          exact ⟨[], #[], 0, _, setTR_fresh gt0, Got.zero ks⟩
        case hR =>
          intro s' L es ep t hm hS' g' kp
          obtain ⟨h', g2, d', tk', os'⟩ := s'
          have eg : g2 = s.gens := hm.gens
          have ed : d' = s.drawn := hm.drawn
          have eo : os' = s.os := hm.os
          subst eg; subst ed; subst eo
          show wpAny _ _ _ _ _ _
          refine wpAny_pure ?_
          show wpAny _ _ (ret Value.none) _ _ _
          rw [zi] at g'
          exact wpAny_pure ⟨rfl, h', tk', L, es, ep, t, rfl, hS', g', kp⟩

      · cases r₂ with
        | error e => exact z2
        | ok fl₂ =>
          cases fl₂ with
          | ret r =>
            obtain ⟨rfl, h', tk, L, es, ep, t, rfl, hS', g', hk'⟩ := z2
            repeat (any_goals (first | assumption | wp_step))
            exact h _ _ _ _ _ _ hS' g' hk'
          | _ => exact z2.elim
    | _ => exact hr.elim

end
end Mi

/-! Mi: tables of sets up to 512 places: how a hash finds its place. -/
namespace Mi
open PySem PySem.Spec PyProof.Rows L2

/-- masks of the tables that come -/
def MkOk (m : Nat) : Prop := m = 7 ∨ m = 31 ∨ m = 127 ∨ m = 511
/-- from each hash each place begins a run, early -/
def Full (m : Nat) : Prop := ∀ (h : Int) (j : Nat), j ≤ m → ∃ n, n ≤ m + 12 ∧ runI m (SetTable.bits h) n = j

/-! ### 512 places -/
def orbN : Nat → Nat → List Nat
  | _, 0 => []
  | x, n + 1 => x :: orbN ((x * 5 + 1) % 512) n
theorem mem_orb {j : Nat} : ∀ (n c : Nat), j ∈ orbN (lcgN 511 c) n → ∃ b, b < n ∧ lcgN 511 (c + b) = j
  | 0, _, h => by cases h
  | n + 1, c, h => by
    rw [orbN] at h
    rcases List.mem_cons.mp h with e | h
    · exact ⟨0, Nat.succ_pos _, e.symm⟩
    · obtain ⟨b, hb, e⟩ := mem_orb n (c + 1) h
      exact ⟨b + 1, by omega, by rw [← e]; congr 1; omega⟩
theorem orb_full : ((List.range 512).all fun j => (orbN 0 512).contains j) = true := by decide +kernel
theorem orb_end (x : Nat) : ∀ n c, lcgI 511 (lcgN 511 c) n = lcgN 511 (c + n) := fun n c => lcgN_add 511 c n
def endN : Nat → Nat → Nat
  | x, 0 => x
  | x, n + 1 => endN ((x * 5 + 1) % 512) n
theorem endN_eq : ∀ n c, endN (lcgN 511 c) n = lcgN 511 (c + n)
  | 0, _ => rfl
  | n + 1, c => by
    have := endN_eq n (c + 1)
    rw [endN]
    rw [show c + (n + 1) = c + 1 + n by omega, ← this]
    rfl
theorem end_512 : endN 0 512 = 0 := by decide +kernel
theorem turn_512 : lcgN 511 512 = 0 := by
  have := endN_eq 512 0
  rw [Nat.zero_add] at this
  rw [← this]
  exact end_512
theorem again_512 : ∀ k, lcgN 511 (512 + k) = lcgN 511 k
  | 0 => turn_512
  | k + 1 => by
    show (lcgN 511 (512 + k) * 5 + 1) % 512 = (lcgN 511 k * 5 + 1) % 512
    rw [again_512 k]
theorem place_512 {j : Nat} (h : j ≤ 511) : ∃ b, b < 512 ∧ lcgN 511 b = j := by
  have h1 := List.all_eq_true.mp orb_full j (List.mem_range.mpr (by omega))
  have h2 : j ∈ orbN 0 512 := by simpa using h1
  have h2 : j ∈ orbN (lcgN 511 0) 512 := h2
  obtain ⟨b, hb, e⟩ := mem_orb 512 0 h2
  exact ⟨b, hb, by rw [Nat.zero_add] at e; exact e⟩
theorem from_512 {i j : Nat} (hi : i ≤ 511) (hj : j ≤ 511) : ∃ k, k ≤ 511 ∧ lcgI 511 i k = j := by
  obtain ⟨a, ha, rfl⟩ := place_512 hi
  obtain ⟨b, hb, rfl⟩ := place_512 hj
  by_cases c : a ≤ b
  · exact ⟨b - a, by omega, by rw [lcgN_add, Nat.add_sub_cancel' c]⟩
  · exact ⟨512 + b - a, by omega, by rw [lcgN_add, show a + (512 + b - a) = 512 + b by omega, again_512]⟩
theorem full_of {m : Nat} (hm : MkOk m) : Full m := by
  have small : MaskOk m → Full m := fun q h j hj => run_meets q h hj
  rcases hm with e | e | e | e
  · exact small (.inl e)
  · exact small (.inr (.inl e))
  · exact small (.inr (.inr e))
  · subst e
    intro h j hj
    obtain ⟨k, hk, e⟩ := from_512 (runI_le 511 (SetTable.bits h) 12) hj
    exact ⟨12 + k, by omega, by rw [runI_tail (bits_lt h)]; exact e⟩
theorem mk_odd {m : Nat} (h : MkOk m) : m % 2 = 1 := by
  rcases h with e | e | e | e <;> subst e <;> rfl
theorem mk_le {m : Nat} (h : MkOk m) : m ≤ 511 := by
  rcases h with e | e | e | e <;> omega
theorem way_in (m : Nat) (h : Int) (k : Nat) : way m h k ≤ m := by
  have i0 : SetTable.bits h % (m + 1) ≤ m := Nat.le_of_lt_succ (Nat.mod_lt _ (Nat.succ_pos m))
  have e0 := runEnd_bd i0
  have := nth_in (m := m) k (runAt m (SetTable.bits h % (m + 1)) (SetTable.bits h)) (by simp only [runAt]; omega)
  unfold way
  omega
theorem way_meets {m : Nat} (hm : MkOk m) (h : Int) {j : Nat} (hj : j ≤ m) : ∃ k, k < 10 * SetTable.turns m ∧ way m h k = j := by
  obtain ⟨n, n1, n2⟩ := full_of hm h j hj
  obtain ⟨k, k1, k2⟩ := run_nth m (SetTable.bits h) n
  refine ⟨k, by unfold SetTable.turns; omega, ?_⟩
  unfold way
  rw [k2]
  exact n2

/-- a table where the i-th hash is found again -/
structure Tab (t : SetTable) (hs : List Int) : Prop where
  up : Ris t.place.toList
  none : t.dummies = #[]
  len : t.place.size = hs.length
  mask : MkOk t.mask
  low : ∀ x ∈ t.place.toList, x ≤ t.mask
  met : ∀ (i : Nat) (h : Int) (j : Nat), hs[i]? = some h → t.place.toList[i]? = some j → ∃ k, way t.mask h k = j ∧ ∀ k', k' < k → way t.mask h k' ∈ t.place.toList
section
variable {t : SetTable} {hs : List Int}
/-- the first place on a way that nothing holds -/
theorem Tab.first (T : Tab t hs) (hl : hs.length ≤ t.mask) (h : Int) : ∃ K, K < 10 * SetTable.turns t.mask ∧ way t.mask h K ∉ t.place.toList ∧ ∀ k, k < K → way t.mask h k ∈ t.place.toList := by
  obtain ⟨j, j1, j2⟩ := st_missing t.place.toList (t.mask + 1) (by rw [Array.length_toList, T.len]; omega)
  obtain ⟨k, k1, k2⟩ := way_meets T.mask h (j := j) (by omega)
  obtain ⟨K, a, b, c⟩ := st_least (p := fun k => way t.mask h k ∉ t.place.toList) k (k2 ▸ j2)
  exact ⟨K, by omega, b, fun q hq => Classical.byContradiction fun z => c q hq z⟩
theorem Tab.ahead (T : Tab t hs) {h : Int} {K i j : Nat} (free : way t.mask h K ∉ t.place.toList) (hi : hs[i]? = some h) (hj : t.place.toList[i]? = some j) : ∃ k, k < K ∧ way t.mask h k = j := by
  obtain ⟨k, e, all⟩ := T.met i h j hi hj
  refine ⟨k, Classical.byContradiction fun z => free ?_, e⟩
  by_cases c : k = K
  · subst c
    rw [e]
    exact List.mem_of_getElem? hj
  · exact all K (by omega)
/-- one more -/
theorem Tab.more (T : Tab t hs) {h : Int} {K : Nat} (free : way t.mask h K ∉ t.place.toList) (held : ∀ k, k < K → way t.mask h k ∈ t.place.toList) {p : Nat} (hp : SetTable.below t.place (way t.mask h K) = p) :
    p ≤ hs.length ∧ Tab (t.put (way t.mask h K)).1 (hs.take p ++ h :: hs.drop p) ∧ (t.put (way t.mask h K)).1.place.size = hs.length + 1 ∧ (t.put (way t.mask h K)).1.dummies = #[] := by
  have c1 := (below_cut T.up (way t.mask h K)).1
  rw [hp] at c1
  have pl : p ≤ t.place.toList.length := by rw [Array.length_toList]; exact c1
  have ph : p ≤ hs.length := by rw [← T.len]; exact c1
  have lay := put_place t (way t.mask h K)
  rw [hp] at lay
  have size : (t.put (way t.mask h K)).1.place.size = hs.length + 1 := by
    rw [← Array.length_toList, lay, len_ins _ pl, Array.length_toList, T.len]
  have old : ∀ {x : Nat}, x ∈ t.place.toList → x ∈ (t.put (way t.mask h K)).1.place.toList := fun hx => by rw [lay]; exact mem_ins.2 (.inr hx)
  have nd := put_dm T.none (way t.mask h K)
  refine ⟨ph, ⟨?_, nd, by rw [size, len_ins _ ph], T.mask, fun x hx => ?_, fun i h' j' h1 h2 => ?_⟩, size, nd⟩
  · exact ris_insert T.up fun e => free (List.mem_of_getElem? (by rw [Array.getElem?_toList]; exact e))
  · rw [lay] at hx
    rcases mem_ins.1 hx with rfl | hx
    · exact way_in _ _ _
    · exact T.low x hx
  · rw [tins_get hs ph] at h1
    rw [lay, tins_get _ pl] at h2
    show ∃ k, way t.mask h' k = j' ∧ ∀ k', k' < k → way t.mask h' k' ∈ (t.put (way t.mask h K)).1.place.toList
    have keep : ∀ {i : Nat}, hs[i]? = some h' → t.place.toList[i]? = some j' → ∃ k, way t.mask h' k = j' ∧ ∀ k', k' < k → way t.mask h' k' ∈ (t.put (way t.mask h K)).1.place.toList := fun a b => by
      obtain ⟨k, e, z⟩ := T.met _ h' j' a b
      exact ⟨k, e, fun q hq => old (z q hq)⟩
    by_cases c : i < p
    · rw [if_pos c] at h1 h2
      exact keep h1 h2
    · rw [if_neg c] at h1 h2
      by_cases d : i = p
      · rw [if_pos d] at h1 h2
        cases h1
        cases h2
        exact ⟨K, rfl, fun q hq => old (held q hq)⟩
      · rw [if_neg d] at h1 h2
        exact keep h1 h2
end

/-! ### a table laid anew -/
section
variable {m : Nat} {owner : Array (Option Nat)} {done : List Int}
theorem seat_free (hm : MkOk m) (h : Int) {j : Nat} (hj : j ≤ m) (hf : oAt owner j = .none) :
    ∃ K, SetTable.layClean.free m owner (SetTable.turns m) (SetTable.bits h % (m + 1)) (SetTable.bits h) = some (way m h K) ∧ oAt owner (way m h K) = .none ∧ ∀ k, k < K → oAt owner (way m h k) ≠ .none := by
  obtain ⟨n, n1, n2⟩ := full_of hm h j hj
  let o := off m (SetTable.bits h % (m + 1)) (SetTable.bits h) n
  have at_o : way m h o = j := by
    unfold way
    rw [nth_off, itL_run]
    exact n2
  obtain ⟨K, k1, k2, k3⟩ := st_least (p := fun k => oAt owner (way m h k) = .none) o (by rw [at_o]; exact hf)
  refine ⟨K, free_spec m owner (SetTable.turns m) n _ _ K (by unfold SetTable.turns; omega) k1 (fun k hk => ?_) ?_, k2, k3⟩
  · show (oAt owner (way m h k)).isNone = false
    cases z : oAt owner (way m h k) with
    | none => exact absurd z (k3 k hk)
    | some _ => rfl
  · show (oAt owner (way m h K)).isNone = true
    rw [k2]
    rfl
theorem own_more (hm : MkOk m) (W : Own m done owner) (hl : done.length ≤ m) (h : Int) :
    ∃ j, SetTable.layClean.free m owner (SetTable.turns m) (SetTable.bits h % (m + 1)) (SetTable.bits h) = some j ∧ Own m (done ++ [h]) (owner.setIfInBounds j (some done.length)) := by
  obtain ⟨ps, p1, p2⟩ := W.ps
  obtain ⟨q, q1, q2⟩ := st_missing ps (m + 1) (by omega)
  have fq : oAt owner q = .none := Classical.byContradiction fun z => q2 (p2 q (by omega) z)
  obtain ⟨K, e1, e2, e3⟩ := seat_free hm h (j := q) (by omega) fq
  have jm := way_in m h K
  have here := oAt_set_self (owner := owner) (some done.length) (j := way m h K) (by rw [W.sz]; omega)
  refine ⟨_, e1, ?_⟩
  obtain ⟨j, ej⟩ : ∃ j, way m h K = j := ⟨_, rfl⟩
  rw [ej] at jm here e2 ⊢
  have there : ∀ {i : Nat}, i ≠ j → oAt (owner.setIfInBounds j (some done.length)) i = oAt owner i := fun c => oAt_set_ne _ c
  have stay : ∀ {i : Nat}, oAt owner i ≠ .none → oAt (owner.setIfInBounds j (some done.length)) i ≠ .none := fun {i} hi => by
    by_cases c : i = j
    · rw [c, here]
      simp
    · rw [there c]
      exact hi
  constructor
  · rw [Array.size_setIfInBounds]
    exact W.sz
  · intro i k hi e
    by_cases c : i = j
    · subst c
      rw [here] at e
      cases e
      exact ⟨h, K, by simp, ej, fun k' hk' => stay (e3 k' hk')⟩
    · rw [there c] at e
      obtain ⟨h', K', a1, a2, a3⟩ := W.at_ i k hi e
      have := (List.getElem?_eq_some_iff.mp a1).1
      exact ⟨h', K', by rw [List.getElem?_append_left this]; exact a1, a2, fun k' hk' => stay (a3 k' hk')⟩
  · intro k hk
    rw [List.length_append, List.length_singleton] at hk
    by_cases c : k = done.length
    · exact ⟨j, jm, by rw [c]; exact here⟩
    · obtain ⟨i, hi, e⟩ := W.all k (by omega)
      refine ⟨i, hi, ?_⟩
      rw [there fun z => by rw [z, e2] at e; cases e]
      exact e
  · refine ⟨j :: ps, by simp [p1], fun i hi e => ?_⟩
    by_cases c : i = j
    · rw [c]
      exact List.mem_cons_self
    · rw [there c] at e
      exact List.mem_cons_of_mem _ (p2 i hi e)
theorem own_all (hm : MkOk m) : ∀ (rest done : List Int) (owner : Array (Option Nat)), Own m done owner → done.length + rest.length ≤ m →
    ∃ owner', rest.foldl (stepF m) (some (owner, done.length)) = some (owner', done.length + rest.length) ∧ Own m (done ++ rest) owner'
  | [], done, owner, W, _ => ⟨owner, rfl, by rw [List.append_nil]; exact W⟩
  | h :: rest, done, owner, W, hl => by
    rw [List.length_cons] at hl
    obtain ⟨j, e, W1⟩ := own_more hm W (by omega) h
    have l1 : (done ++ [h]).length = done.length + 1 := by simp
    obtain ⟨o2, f, W2⟩ := own_all hm rest (done ++ [h]) _ W1 (by omega)
    rw [l1] at f
    refine ⟨o2, ?_, by rw [List.append_assoc] at W2; exact W2⟩
    rw [List.foldl_cons, stepF_some e, f, List.length_cons]
    congr 2
    omega
theorem own_laid (hm : MkOk m) {hs : Array Int} (hn : hs.size ≤ m) : ∃ owner, SetTable.layClean m hs = some owner ∧ Own m hs.toList owner := by
  obtain ⟨o, f, W⟩ := own_all hm hs.toList [] _ (Own.init m) (by simpa using hn)
  refine ⟨o, ?_, W⟩
  rw [layClean_eq]
  have f : hs.toList.foldl (stepF m) (some (Array.replicate (m + 1) .none, 0)) = _ := f
  rw [f]
  rfl
theorem laid_anew (t : SetTable) {hs : Array Int} {wanted : Nat} (hw : SetTable.sizeAbove wanted - 1 = m) (hm : MkOk m) (hn : hs.size ≤ m) :
    ∃ t' order, t.relaid hs wanted = some (t', order) ∧ order.toList.Perm (List.range hs.size) ∧ Tab t' (order.toList.map fun i => hs.getD i 0) ∧ t'.mask = m ∧ t'.led = t.led ∧ t'.plain = t.plain := by
  obtain ⟨owner, e, W⟩ := own_laid hm hn
  have made : t.relaid hs wanted = some (tabOf t m owner, ((liveOf m owner).map (·.2)).toArray) := by
    rw [relaid_eq, hw, e]
    rfl
  obtain ⟨r1, r2⟩ := ris_live (fun j => owner.getD j .none) (List.range (m + 1)) List.pairwise_lt_range
  have r1 : Ris ((liveOf m owner).map (·.1)) := r1
  have r2 : ∀ x ∈ (liveOf m owner).map (·.1), x ∈ List.range (m + 1) := r2
  have live : ∀ {j k : Nat}, (j, k) ∈ liveOf m owner ↔ j ≤ m ∧ oAt owner j = some k := mem_live W.sz
  have seat : ∀ k, k < hs.size → k ∈ (liveOf m owner).map (·.2) := fun k hk => by
    obtain ⟨j, a, b⟩ := W.all k (by simpa using hk)
    exact List.mem_map.mpr ⟨(j, k), live.2 ⟨a, b⟩, rfl⟩
  have many : (liveOf m owner).length = hs.size := by
    obtain ⟨ps, p1, p2⟩ := W.ps
    have nd1 : ((liveOf m owner).map (·.1)).Nodup := List.Pairwise.imp (fun h => Nat.ne_of_lt h) r1
    have a := nat_nodup_len ((liveOf m owner).map (·.1)) ps nd1 fun x hx => by
      obtain ⟨⟨y, k⟩, hq, rfl⟩ := List.mem_map.mp hx
      obtain ⟨b1, b2⟩ := live.1 hq
      exact p2 y b1 (by rw [b2]; simp)
    have b := nat_nodup_len (List.range hs.size) ((liveOf m owner).map (·.2)) List.nodup_range fun k hk => seat k (List.mem_range.mp hk)
    simp only [List.length_map, List.length_range, Array.length_toList, p1] at a b
    omega
  refine ⟨_, _, made, ?_, ⟨r1, rfl, ?_, hm, fun x hx => ?_, fun i h j h1 h2 => ?_⟩, rfl, rfl, rfl⟩
  · exact perm_range hs.size _ (by simpa using many) fun k hk => seat k hk
  · show ((liveOf m owner).map (·.1)).toArray.size = (((liveOf m owner).map (·.2)).map fun i => hs.getD i 0).length
    simp
  · have := List.mem_range.mp (r2 x hx)
    show x ≤ m
    omega
  · have h1 : (((liveOf m owner).map (·.2)).map fun i => hs.getD i 0)[i]? = some h := h1
    have h2 : ((liveOf m owner).map (·.1))[i]? = some j := h2
    simp only [List.getElem?_map, Option.map_map, Option.map_eq_some_iff] at h1 h2
    obtain ⟨⟨y, k⟩, hq, rfl⟩ := h2
    obtain ⟨q', hq', e'⟩ := h1
    rw [hq] at hq'
    cases hq'
    obtain ⟨b1, b2⟩ := live.1 (List.mem_of_getElem? hq)
    obtain ⟨h0, K, a1, a2, a3⟩ := W.at_ y k b1 b2
    have e0 : hs.getD k 0 = h0 := by
      rw [Array.getD_eq_getD_getElem?, ← Array.getElem?_toList, a1]
      rfl
    have e' : hs.getD k 0 = h := e'
    obtain rfl : h0 = h := by rw [← e0, e']
    refine ⟨K, a2, fun k' hk' => ?_⟩
    show way m h0 k' ∈ (liveOf m owner).map (·.1)
    cases z : oAt owner (way m h0 k') with
    | none => exact absurd z (a3 k' hk')
    | some k2 => exact List.mem_map.mpr ⟨(_, k2), live.2 ⟨way_in _ _ _, z⟩, rfl⟩
end
theorem grow_5 : SetTable.sizeAbove (SetTable.grown 5) = 32 := by decide +kernel
theorem grow_19 : SetTable.sizeAbove (SetTable.grown 19) = 128 := by decide +kernel
theorem grow_77 : SetTable.sizeAbove (SetTable.grown 77) = 512 := by decide +kernel
end Mi

/-! Mi: sets of nested tuples of numbers: searching, adding. -/
namespace Mi
open PySem PySem.Spec PyProof.Rows L2

mutual
/-- no text within -/
def numb : NestedKey → Bool
  | .none => true
  | .num _ => true
  | .text _ => false
  | .tup ks => numbs ks
def numbs : List NestedKey → Bool
  | [] => true
  | k :: ks => numb k && numbs ks
end
/-- the tuple at a is the key k -/
structure IsK (h : Heap) (k : NestedKey) (a : Addr) : Prop where
  is : NestedIs h k (.ref a)
  low : k.depth ≤ 8
  num : numb k = true
theorem IsK.kind {P : Program} {w : World} {h : Heap} {k : NestedKey} {a : Addr} (x : IsK h k a) : (nestedKind P w).is h k a := ⟨x.is, x.low⟩
theorem IsK.inj {h : Heap} {k k' : NestedKey} {a : Addr} (x : IsK h k a) (y : IsK h k' a) : k = k' := NestedIs.inj _ _ _ x.is y.is
theorem IsK.keep {h h' : Heap} {k : NestedKey} {a : Addr} (x : IsK h k a) (hk : ∀ c o, h.get? c = some o → h'.get? c = some o) : IsK h' k a := ⟨NestedIs.at (fun c o _ _ e _ => hk c o e) k _ x.is, x.low, x.num⟩
theorem IsK.but {h h' : Heap} {k : NestedKey} {a b : Addr} {o : Obj} {es : Array (Int × Value)} {ep : Nat} {t : SetTable} (x : IsK h k a) (ho : h.get? b = some o) (hd : o.data = .set es ep t) (hs : Heap.SameBut b h h') : IsK h' k a :=
  ⟨NestedIs.at (fun c o' vs n e ed => (hs.2 c fun z => by
    subst z
    rw [ho] at e
    cases e
    rw [hd] at ed
    cases ed).trans e) k _ x.is, x.low, x.num⟩

section
variable {P : Program} {w : World}
def NoCls (P : Program) (w : World) (n : Nat) (s : Shared) (v : Value) : Prop := ∀ (A : Around) (E : Value → Shared → Prop) (Q : Bool → Shared → Prop), Q false s → wpAny (model P w) A (ofAClassStatement n v) Q E s
def ByVal (P : Program) (w : World) (n : Nat) (s : Shared) (v : Value) : Prop := ∀ (A : Around) (E : Value → Shared → Prop) (Q : Bool → Shared → Prop), Q true s → wpAny (model P w) A (hashByValue n v) Q E s
theorem noCls_tup {n : Nat} {s : Shared} {a : Addr} {o : Obj} {vs : Array Value} {m : Nat} (ho : s.heap.get? a = some o) (hc : o.cls = .type "tuple") (hd : o.data = .seq vs m) (hq : ∀ v ∈ vs.toList, NoCls P w n s v) : NoCls P w (n + 1) s (.ref a) := fun A E Q h => by
  have ty : s.TypeIs (.ref a) "tuple" := ⟨o, ho, hc⟩
  unfold ofAClassStatement
  refine wpAny_bind (wpAny_typeOf ty ?_)
  dsimp only
  have e : (("tuple" : String) == "tuple") = true := by decide
  simp only [e, if_true, Bool.not_true, Bool.false_eq_true, if_false]
  try refine wpAny_bind (wpAny_pure ?_)
  try simp only [Bool.not_true, Bool.false_eq_true, if_false]
  show wpAny _ _ (seqItems? (.ref a) >>= _) _ _ s
  refine wpAny_bind (wpAny_seqItems ho hd ?_)
  dsimp only
  refine wpAny_bind ?_
  show wpAny _ _ (forIn vs _ _) _ _ s
  rw [← Array.forIn_toList]
  refine wpAny_forIn_list _ (fun rest r s' => r.1 = none ∧ s' = s ∧ ∀ v ∈ rest, NoCls P w n s v) _ ?_ ?_ _ _ ⟨rfl, rfl, hq⟩
  · rintro v rest r s' ⟨z, rfl, each⟩
    refine wpAny_bind (each v List.mem_cons_self _ _ _ ?_)
    simp only [Bool.false_eq_true, if_false]
    exact wpAny_pure ⟨rfl, rfl, fun u hu => each u (List.mem_cons_of_mem _ hu)⟩
  · rintro ⟨r1, r2⟩ s' ⟨z, rfl, _⟩
    simp only at z
    subst z
    exact wpAny_pure h
theorem byVal_tup {n : Nat} {s : Shared} {a : Addr} {o : Obj} {vs : Array Value} {m : Nat} (ho : s.heap.get? a = some o) (hc : o.cls = .type "tuple") (hd : o.data = .seq vs m) (hq : ∀ v ∈ vs.toList, ByVal P w n s v) : ByVal P w (n + 1) s (.ref a) := fun A E Q h => by
  have ty : s.TypeIs (.ref a) "tuple" := ⟨o, ho, hc⟩
  unfold hashByValue
  refine wpAny_bind (wpAny_specialOf ty F.slot_tuple_hash.lookup ?_)
  show wpAny _ _ (seqItems? (.ref a) >>= _) _ _ s
  refine wpAny_bind (wpAny_seqItems ho hd ?_)
  refine wpAny_bind ?_
  show wpAny _ _ (forIn vs _ _) _ _ s
  rw [← Array.forIn_toList]
  refine wpAny_forIn_list _ (fun rest r s' => r.1 = none ∧ s' = s ∧ ∀ v ∈ rest, ByVal P w n s v) _ ?_ ?_ _ _ ⟨rfl, rfl, hq⟩
  · rintro v rest r s' ⟨z, rfl, each⟩
    refine wpAny_bind (each v List.mem_cons_self _ _ _ ?_)
    simp only [Bool.not_true, Bool.false_eq_true, if_false]
    exact wpAny_pure ⟨rfl, rfl, fun u hu => each u (List.mem_cons_of_mem _ hu)⟩
  · rintro ⟨r1, r2⟩ s' ⟨z, rfl, _⟩
    simp only at z
    subst z
    exact wpAny_pure h
mutual
theorem noCls_key : ∀ (k : NestedKey) (v : Value) (n : Nat) (s : Shared), NestedIs s.heap k v → k.depth ≤ n → NoCls P w n s v
  | .none, _, n, s, x, _ => by
    cases x
    intro A E Q h
    cases n <;> exact wpAny_pure h
  | .num i, _, n, s, x, _ => by
    cases x <;> (intro A E Q h; cases n <;> exact wpAny_pure h)
  | .text y, _, n, s, x, _ => by
    cases x
    intro A E Q h
    cases n <;> exact wpAny_pure h
  | .tup ks, _, n, s, x, hn => by
    cases x with
    | tup hg hc hd hk =>
      simp only [NestedKey.depth] at hn
      cases n with
      | zero => omega
      | succ n => exact noCls_tup hg hc hd (noCls_keys ks _ n s hk (by omega))
theorem noCls_keys : ∀ (ks : List NestedKey) (vs : List Value) (n : Nat) (s : Shared), NestedAll s.heap ks vs → NestedKey.depthAll ks ≤ n → ∀ v ∈ vs, NoCls P w n s v
  | [], _, _, _, x, _, v, hv => by cases x; cases hv
  | k :: ks, _, n, s, x, hn, v, hv => by
    cases x with
    | cons x1 x2 =>
      simp only [NestedKey.depthAll] at hn
      rcases List.mem_cons.mp hv with rfl | hv
      · exact noCls_key k _ n s x1 (by omega)
      · exact noCls_keys ks _ n s x2 (by omega) v hv
end
mutual
theorem byVal_key : ∀ (k : NestedKey) (v : Value) (n : Nat) (s : Shared), NestedIs s.heap k v → k.depth ≤ n → numb k = true → ByVal P w n s v
  | .none, _, n, s, x, _, _ => by
    cases x
    intro A E Q h
    cases n <;> exact wpAny_pure h
  | .num i, _, n, s, x, _, _ => by
    cases x <;> (intro A E Q h; cases n <;> exact wpAny_pure h)
  | .text y, _, n, s, x, _, z => by cases z
  | .tup ks, _, n, s, x, hn, z => by
    cases x with
    | tup hg hc hd hk =>
      simp only [NestedKey.depth] at hn
      cases n with
      | zero => omega
      | succ n => exact byVal_tup hg hc hd (byVal_keys ks _ n s hk (by omega) z)
theorem byVal_keys : ∀ (ks : List NestedKey) (vs : List Value) (n : Nat) (s : Shared), NestedAll s.heap ks vs → NestedKey.depthAll ks ≤ n → numbs ks = true → ∀ v ∈ vs, ByVal P w n s v
  | [], _, _, _, x, _, _, v, hv => by cases x; cases hv
  | k :: ks, _, n, s, x, hn, z, v, hv => by
    cases x with
    | cons x1 x2 =>
      simp only [NestedKey.depthAll] at hn
      rw [numbs, Bool.and_eq_true] at z
      rcases List.mem_cons.mp hv with rfl | hv
      · exact byVal_key k _ n s x1 (by omega) z.1
      · exact byVal_keys ks _ n s x2 (by omega) z.2 v hv
end
end

section
variable {P : Program} {w : World} {A : Around} {E : Value → Shared → Prop} {s : Shared}
/-- searching among such tuples shows nothing -/
theorem unseen {k : NestedKey} {b : Addr} {Q : Bool → Shared → Prop} (x : IsK s.heap k b) {ys : List Value} (hy : ∀ y ∈ ys, ∃ k' c, y = Value.ref c ∧ IsK s.heap k' c) (h : Q false s) :
    wpAny (model P w) A (searchCouldBeSeen (.ref b) ys) Q E s := by
  unfold searchCouldBeSeen
  refine wpAny_bind ?_
  refine wpAny_forIn_list _ (fun rest r s' => r.1 = none ∧ s' = s ∧ ∀ y ∈ rest, ∃ k' c, y = Value.ref c ∧ IsK s.heap k' c) _ ?_ ?_ _ _ ⟨rfl, rfl, hy⟩
  · rintro v rest r s' ⟨z, rfl, each⟩
    obtain ⟨k', c, rfl, y⟩ := each v List.mem_cons_self
    have tail : ∀ y ∈ rest, ∃ k' c, y = Value.ref c ∧ IsK s'.heap k' c := fun u hu => each u (List.mem_cons_of_mem _ hu)
    dsimp only
    by_cases one : (b == c || (carriedByValue (.ref b) && carriedByValue (.ref c))) = true
    · exact wp_if_pos one (wpAny_pure ⟨rfl, rfl, tail⟩)
    · refine wp_if_neg one ?_
      refine wpAny_bind ((nestedKind P w).quiet x.kind ?_)
      simp only [Bool.not_true, Bool.false_eq_true, if_false]
      refine wpAny_bind ((nestedKind P w).quiet y.kind ?_)
      simp only [Bool.not_true, Bool.false_eq_true, if_false]
      refine wpAny_bind (noCls_key k _ 8 s' x.is x.low _ _ _ ?_)
      simp only [Bool.false_eq_true, if_false]
      refine wpAny_bind (noCls_key k' _ 8 s' y.is y.low _ _ _ ?_)
      simp only [Bool.false_eq_true, if_false]
      exact wpAny_pure ⟨rfl, rfl, tail⟩
  · rintro ⟨r1, r2⟩ s' ⟨z, rfl, _⟩
    simp only at z
    subst z
    exact wpAny_pure h

/-- what the table holds: the hash and the tuple -/
def rowsK (w : World) (L : List (Addr × NestedKey)) : List (Int × Value) := L.map fun p => (p.2.hash w, Value.ref p.1)
structure NSet (w : World) (h : Heap) (a : Addr) (L : List (Addr × NestedKey)) (es : Array (Int × Value)) (ep : Nat) (t : SetTable) : Prop where
  ob : ∃ o, h.get? a = some o ∧ o.ExactSet ∧ o.data = .set es ep t
  rows : es.toList = rowsK w L
  tab : Tab t (L.map fun p => p.2.hash w)
  nd : (L.map (·.2)).Nodup
  keys : ∀ p ∈ L, IsK h p.2 p.1
  plain : t.plain = true
  led : w.params.followText "set-order" = true ∨ t.led = true
  room : L.length * 5 < t.mask * 3
variable {a : Addr} {L : List (Addr × NestedKey)} {es : Array (Int × Value)} {ep : Nat} {t : SetTable}
theorem rowsK_size (h : es.toList = rowsK w L) : es.size = L.length := by
  have := congrArg List.length h
  simpa [rowsK] using this
theorem rowsK_at (h : es.toList = rowsK w L) {i : Nat} {p : Addr × NestedKey} (e : L[i]? = some p) : es[i]? = some (p.2.hash w, Value.ref p.1) := by
  rw [← Array.getElem?_toList, h, rowsK, List.getElem?_map, e]
  rfl
theorem tab_fits (h : es.toList = rowsK w L) (T : Tab t (L.map fun p => p.2.hash w)) (r : L.length ≤ t.mask) : t.fits es.size = true := by
  have z := T.len
  rw [List.length_map] at z
  have y := rowsK_size h
  unfold SetTable.fits SetTable.fill
  rw [T.none, Bool.and_eq_true, beq_iff_eq, decide_eq_true_eq]
  show t.place.size = es.size ∧ t.place.size + 0 ≤ t.mask
  omega
theorem NSet.fits (R : NSet w s.heap a L es ep t) : t.fits es.size = true := tab_fits R.rows R.tab (by have := R.room; omega)
theorem NSet.stays (R : NSet w s.heap a L es ep t) : ¬ t.gaveWay = true := by
  unfold SetTable.gaveWay
  rw [mk_odd R.tab.mask]
  decide

/-- a state on the way -/
abbrev onWay (m : Nat) (h : Int) (c : Nat) : SetTable.Probe := nth m (runAt m (SetTable.bits h % (m + 1)) (SetTable.bits h)) c
theorem onWay_add (m : Nat) (h : Int) (c q : Nat) : nth m (onWay m h c) q = onWay m h (c + q) := (nth_add m c _ q).symm
theorem nth_dm (m : Nat) : ∀ (n : Nat) (p : SetTable.Probe), p.dummy = none → (nth m p n).dummy = none
  | 0, _, h => h
  | n + 1, p, h => nth_dm m n (adv m p) (by unfold adv; split <;> exact h)

/-- the search from the c-th step on -/
theorem seek (R : NSet w s.heap a L es ep t) {x : Addr} {k : NestedKey} (hx : IsK s.heap k x) (hu : A.units + 8 < cLine) {H : Int} (eH : k.hash w = H) {K : Nat} (low : K < 10 * SetTable.turns t.mask)
    (free : way t.mask H K ∉ t.place.toList) (held : ∀ c, c < K → way t.mask H c ∈ t.place.toList) {Q : SetFound → Shared → Prop}
    (yes : k ∈ L.map (·.2) → Q (.there none) s) (no : k ∉ L.map (·.2) → Q (.free (way t.mask H K) false) s) :
    ∀ (f c : Nat) (stand : Option SetTable.Probe), stand.getD (t.probeStart H) = onWay t.mask H c → c ≤ K → K - c < f →
      (∀ (i : Nat) p, L[i]? = some p → p.2 = k → ∃ c', c ≤ c' ∧ c' < K ∧ t.place.toList[i]? = some (way t.mask H c')) →
      wpAny (model P w) A (setSearchFrom a (.ref x) H true f stand) Q E s
  | 0, _, _, _, _, z, _ => absurd z (Nat.not_lt_zero _)
  | f + 1, c, stand, at_, cK, left, ahead => by
    obtain ⟨o, ho, hex, hd⟩ := R.ob
    rw [setSearchFrom_succ]
    refine wpAny_bind (wpAny_setState_of ho hd R.fits ?_)
    dsimp only
    refine wp_if_neg R.stays ?_
    try refine wpAny_bind (wpAny_pure ?_)
    have jAt : ∀ q, (nth t.mask (onWay t.mask H c) q).j = way t.mask H (c + q) := fun q => congrArg SetTable.Probe.j (onWay_add t.mask H c q)
    have hashes : ∀ (i : Nat) p, L[i]? = some p → (fun i => (es[i]?.map (·.1)).getD 0) i = p.2.hash w := fun i p e => by
      show (es[i]?.map (·.1)).getD 0 = _
      rw [rowsK_at R.rows e]
      rfl
    have met := go_spec t R.tab.up R.tab.none (fun i => (es[i]?.map (·.1)).getD 0) H (10 * SetTable.turns t.mask) (K - c) (onWay t.mask H c) (nth_dm _ _ _ rfl) (by omega)
      (fun q hq => by rw [jAt]; exact held _ (by omega)) (by rw [jAt, Nat.add_sub_cancel' cK]; exact free)
    rcases met with ⟨q, i, hq, hi, hh, none_ahead, e⟩ | ⟨none_ahead, e⟩
    · rw [jAt] at hi
      have here : t.probe (fun i => (es[i]?.map (·.1)).getD 0) H (stand.getD (t.probeStart H)) = some (.candidate (way t.mask H (c + q)) i (onWay t.mask H (c + (q + 1)))) := by
        rw [at_, ← jAt, ← onWay_add]
        exact e
      rw [here]
      dsimp only
      have il : i < L.length := by
        have a1 := (List.getElem?_eq_some_iff.mp hi).1
        have a2 := R.tab.len
        rw [List.length_map] at a2
        rw [Array.length_toList] at a1
        omega
      obtain ⟨p, hp⟩ : ∃ p, L[i]? = some p := ⟨_, List.getElem?_eq_getElem il⟩
      have inL : p ∈ L := List.mem_of_getElem? hp
      have slot := slot_live R.tab.up hi
      have rest : wpAny (model P w) A (searchRest a (.ref x) H true f es t (way t.mask H (c + q)) i (onWay t.mask H (c + (q + 1)))) Q E s := by
        unfold searchRest
        rw [rowsK_at R.rows hp]
        dsimp only
        refine wpAny_bind (wpAny_holding ((nestedKind P w).eqBool hu (R.keys p inL).kind hx.kind ?_))
        refine wpAny_bind (wpAny_setState_of ho hd R.fits ?_)
        dsimp only
        by_cases one : p.2 = k
        · exact wp_if_pos (by simp [one]) (wpAny_pure (yes (List.mem_map.mpr ⟨p, inL, one⟩)))
        · refine wp_if_neg (by simp [one]) ?_
          try refine wpAny_bind (wpAny_pure ?_)
          rw [sameMem]
          dsimp only
          simp only [if_true, slot, rowsK_at R.rows hp]
          refine wpAny_bind (wpAny_isSame_ref_self (wpAny_bind (wpAny_pure ?_)))
          simp only [if_true]
          refine wp_if_neg (by simp [one]) ?_
          refine seek R hx hu eH low free held yes no f (c + (q + 1)) _ rfl (by omega) (by omega) fun i0 p0 h0 k0 => ?_
          obtain ⟨c', a1, a2, a3⟩ := ahead i0 p0 h0 k0
          have h0h : (fun i => (es[i]?.map (·.1)).getD 0) i0 = H := by rw [hashes i0 p0 h0, k0, eH]
          refine ⟨c', Classical.byContradiction fun z => ?_, a2, a3⟩
          by_cases ce : c' = c + q
          · subst ce
            have := slot_live R.tab.up a3
            rw [slot] at this
            injection this with this
            subst this
            rw [hp] at h0
            cases h0
            exact one k0
          · exact none_ahead (c' - c) i0 (by omega) (by rw [jAt, Nat.add_sub_cancel' a1]; exact a3) h0h
      by_cases hl : t.led = true
      · refine wp_if_neg (by simp [hl]) ?_
        try refine wpAny_bind (wpAny_pure ?_)
        exact rest
      · refine wp_if_pos (by simp [hl]) ?_
        refine wpAny_bind (unseen hx (fun y hy => ?_) ?_)
        · obtain ⟨e, he, rfl⟩ := List.mem_map.mp hy
          have he : e ∈ es ∧ e.1 = H := by simpa using he
          have he : e ∈ es.toList := by simpa using he.1
          rw [R.rows] at he
          obtain ⟨p2, h2, rfl⟩ := List.mem_map.mp he
          exact ⟨p2.2, p2.1, rfl, R.keys p2 h2⟩
        · refine wp_if_neg (by decide) ?_
          try refine wpAny_bind (wpAny_pure ?_)
          exact rest
    · have here : t.probe (fun i => (es[i]?.map (·.1)).getD 0) H (stand.getD (t.probeStart H)) = some (.empty (way t.mask H K) none) := by
        rw [at_]
        have := jAt (K - c)
        rw [Nat.add_sub_cancel' cK] at this
        rw [← this]
        exact e
      rw [here]
      dsimp only
      refine wpAny_pure (no fun hm => ?_)
      obtain ⟨p0, h0, k0⟩ := List.mem_map.mp hm
      obtain ⟨i0, hi0, e0⟩ := List.getElem_of_mem h0
      have h00 : L[i0]? = some p0 := by rw [List.getElem?_eq_getElem hi0, e0]
      obtain ⟨c', a1, a2, a3⟩ := ahead i0 p0 h00 k0
      exact none_ahead (c' - c) i0 (by omega) (by rw [jAt, Nat.add_sub_cancel' a1]; exact a3) ((hashes i0 p0 h00).trans (by rw [k0, eH]))
theorem seek_all (R : NSet w s.heap a L es ep t) {x : Addr} {k : NestedKey} (hx : IsK s.heap k x) (hu : A.units + 8 < cLine) {H : Int} (eH : k.hash w = H) {Q : SetFound → Shared → Prop}
    (yes : k ∈ L.map (·.2) → Q (.there none) s)
    (no : ∀ K, k ∉ L.map (·.2) → way t.mask H K ∉ t.place.toList → (∀ c, c < K → way t.mask H c ∈ t.place.toList) → Q (.free (way t.mask H K) false) s) :
    wpAny (model P w) A (setSearch a (.ref x) H true) Q E s := by
  have room := R.room
  have big := mk_le R.tab.mask
  obtain ⟨K, k1, k2, k3⟩ := R.tab.first (by rw [List.length_map]; omega) H
  have : K < 100000 := by
    unfold SetTable.turns at k1
    omega
  unfold setSearch
  refine seek R hx hu eH k1 k2 k3 yes (fun z => no K z k2 k3) 100000 0 none rfl (Nat.zero_le _) (by omega) fun i p hp hk => ?_
  have hi : (L.map fun p => p.2.hash w)[i]? = some H := by
    rw [List.getElem?_map, hp, ← eH, ← hk]
    rfl
  have il : i < t.place.toList.length := by
    have := (List.getElem?_eq_some_iff.mp hp).1
    have z := R.tab.len
    rw [List.length_map] at z
    rw [Array.length_toList]
    omega
  have hj := List.getElem?_eq_getElem il
  obtain ⟨c, hc, e⟩ := R.tab.ahead k2 hi hj
  exact ⟨c, Nat.zero_le _, hc, by rw [hj, e]⟩
end
end Mi

/-! Mi: sets of nested tuples of numbers: adding, growing. -/
namespace Mi
open PySem PySem.Spec PyProof.Rows L2
section
variable {P : Program} {w : World} {A : Around} {E : Value → Shared → Prop} {s : Shared} {a : Addr} {L : List (Addr × NestedKey)} {es : Array (Int × Value)} {ep : Nat} {t : SetTable}

theorem pick_all {α : Type} (L : List α) : (List.range L.length).filterMap (fun i => L[i]?) = L := by
  refine List.ext_getElem? fun i => ?_
  have : (List.range L.length).filterMap (fun i => L[i]?) = ((List.range L.length).map fun i => L[i]?).filterMap id := by rw [List.filterMap_map]; rfl
  rw [this]
  have e2 : (List.range L.length).map (fun i => L[i]?) = L.map some := by
    refine List.ext_getElem? fun j => ?_
    rw [List.getElem?_map, List.getElem?_map]
    by_cases c : j < L.length
    · simp [List.getElem?_range c, List.getElem?_eq_getElem c]
    · rw [List.getElem?_eq_none (by simpa using c), List.getElem?_eq_none (by omega)]
      rfl
  rw [e2, List.filterMap_map]
  simp
/-- the rows in another order -/
theorem rows_order (h : es.toList = rowsK w L) {order : Array Nat} (hp : order.toList.Perm (List.range L.length)) :
    ∃ L2, (order.filterMap (es[·]?)).toList = rowsK w L2 ∧ L2.Perm L ∧ (L2.map fun p => p.2.hash w) = order.toList.map fun i => (es.map (·.1)).getD i 0 := by
  refine ⟨order.toList.filterMap fun i => L[i]?, ?_, ?_, ?_⟩
  · have : ∀ i, es[i]? = (L[i]?).map fun p : Addr × NestedKey => (p.2.hash w, Value.ref p.1) := fun i => by
      rw [← Array.getElem?_toList, h, rowsK, List.getElem?_map]
    rw [rowsK, List.map_filterMap]
    simp only [← this]
    simp
  · have := hp.filterMap fun i => L[i]?
    rw [pick_all] at this
    exact this
  · have inn : ∀ i ∈ order.toList, i < L.length := fun i hi => List.mem_range.mp (hp.mem_iff.mp hi)
    generalize order.toList = l at inn
    induction l with
    | nil => rfl
    | cons i l ih =>
      have hi := inn i List.mem_cons_self
      have e1 : L[i]? = some L[i] := List.getElem?_eq_getElem hi
      rw [List.filterMap_cons_some e1, List.map_cons, List.map_cons, ih fun j hj => inn j (List.mem_cons_of_mem _ hj)]
      congr 1
      rw [Array.getD_eq_getD_getElem?, Array.getElem?_map, rowsK_at h e1]
      rfl
theorem relay_keys {o : Obj} (ho : s.heap.get? a = some o) (hex : o.ExactSet) (hd : o.data = .set es ep t) (rows : es.toList = rowsK w L) (tab : Tab t (L.map fun p => p.2.hash w)) (fl : L.length ≤ t.mask)
    (nd : (L.map (·.2)).Nodup) (keys : ∀ p ∈ L, IsK s.heap p.2 p.1) (pl : t.plain = true) (ld : w.params.followText "set-order" = true ∨ t.led = true) {wanted M : Nat}
    (hw : SetTable.sizeAbove wanted - 1 = M) (hM : MkOk M) (hw2 : SetTable.sizeAbove wanted ≤ 512) (hn : L.length * 5 < M * 3) {Q : Unit → Shared → Prop}
    (hQ : ∀ h' L' es' ep' t', Heap.SameBut a s.heap h' → NSet w h' a L' es' ep' t' → L'.Perm L → Q () { s with heap := h' }) : wpAny (model P w) A (setRelay a wanted) Q E s := by
  have sz := rowsK_size rows
  have fits := tab_fits rows tab fl
  obtain ⟨t', order, e, hp, T, em, el, epl⟩ := laid_anew t (hs := es.map (·.1)) (wanted := wanted) hw hM (by rw [Array.size_map, sz]; omega)
  rw [Array.size_map, sz] at hp
  obtain ⟨L2, r1, r2, r3⟩ := rows_order rows hp
  rw [← r3] at T
  have s2 : (order.filterMap (es[·]?)).size = es.size := by rw [rowsK_size r1, sz, r2.length_eq]
  have := mk_le tab.mask
  rw [setRelay_eq]
  refine wpAny_bind (wpAny_setState_of ho hd fits ?_)
  dsimp only
  refine wp_if_neg (by rw [sizeLine_eq]; omega) ?_
  try refine wpAny_bind (wpAny_pure ?_)
  rw [e]
  dsimp only
  refine wpAny_bind ?_
  refine wp_if_neg (by rw [s2]; simp) ?_
  try refine wpAny_bind (wpAny_pure ?_)
  refine wpAny_pure ?_
  dsimp only
  refine wpAny_storeSet_of ho hd ?_ (by rw [s2, sz, sizeLine_eq]; omega)
  have but : Heap.SameBut a s.heap (s.heap.update a (Obj.putSet (order.filterMap (es[·]?)) t')) := Heap.SameBut.update ..
  refine hQ _ L2 _ (ep + 1) t' but ⟨⟨_, store_at ho hd, ⟨hex.1, hex.2.1, hex.2.2⟩, rfl⟩, r1, T, (r2.map (·.2)).nodup_iff.mpr nd, fun p hp => (keys p (r2.mem_iff.mp hp)).but ho hd but, by rw [epl]; exact pl, by rw [el]; exact ld, ?_⟩ r2
  rw [r2.length_eq, em]
  exact hn

/-- adding a tuple -/
theorem add_key (R : NSet w s.heap a L es ep t) {x : Addr} {k : NestedKey} (hx : IsK s.heap k x) (hu : A.units + 8 < cLine) {H : Int} (eH : k.hash w = H) (few : k ∉ L.map (·.2) → L.length < 306) {Q : Bool → Shared → Prop}
    (hQ : ∀ b h' L' es' ep' t', Heap.SameBut a s.heap h' → NSet w h' a L' es' ep' t' → (k ∈ L.map (·.2) → L' = L) → (k ∉ L.map (·.2) → L'.Perm ((x, k) :: L)) → Q b { s with heap := h' }) :
    wpAny (model P w) A (setAddHashed a (.ref x) H) Q E s := by
  obtain ⟨o, ho, hex, hd⟩ := R.ob
  have sz := rowsK_size R.rows
  have room := R.room
  unfold setAddHashed
  refine wpAny_holding ?_
  rw [show (100000 : Nat) = 99999 + 1 from rfl, setAddHashedIn_succ]
  refine wpAny_bind (wpAny_setState_of ho hd R.fits ?_)
  dsimp only
  refine wp_if_neg (by simp [byScan, Value.scannable]) ?_
  try refine wpAny_bind (wpAny_pure ?_)
  refine wpAny_bind (seek_all R hx hu eH (fun hm => ?_) fun K hm free held => ?_)
  · dsimp only
    exact wpAny_pure (hQ false s.heap L es ep t (Heap.SameBut.refl a s.heap) R (fun _ => rfl) fun z => absurd hm z)
  · dsimp only
    refine wpAny_bind (wpAny_setState_of ho hd R.fits ?_)
    dsimp only
    obtain ⟨p, ep0⟩ : ∃ p, SetTable.below t.place (way t.mask H K) = p := ⟨_, rfl⟩
    obtain ⟨q1, q2, q3, q4⟩ := R.tab.more free held ep0
    have f1 : (t.put (way t.mask H K)).1.plain = true := R.plain
    have f2 : w.params.followText "set-order" = true ∨ (t.put (way t.mask H K)).1.led = true := R.led
    have f3 : (t.put (way t.mask H K)).1.mask = t.mask := rfl
    have f4 : (t.put (way t.mask H K)).2 = p := ep0
    have f5 : (t.put (way t.mask H K)).1.fill = L.length + 1 := by
      show (t.put (way t.mask H K)).1.place.size + (t.put (way t.mask H K)).1.dummies.size = L.length + 1
      rw [q3, q4, List.length_map]
      rfl
    rw [List.length_map] at q3
    generalize t.put (way t.mask H K) = pt at q2 q3 q4 f1 f2 f3 f4 f5 ⊢
    obtain ⟨t1, p1⟩ := pt
    dsimp only at q2 q3 q4 f1 f2 f3 f4 f5 ⊢
    subst f4
    first
      | (refine wpAny_bind ?_; refine wp_if_pos f1 ?_; refine byVal_key k _ 8 s hx.is hx.low hx.num _ _ _ ?_)
      | refine wp_if_pos f1 (wpAny_bind (byVal_key k _ 8 s hx.is hx.low hx.num _ _ _ ?_))
    simp only [if_true]
    have rows1 : (SetTable.insertAt es p1 (H, Value.ref x)).toList = rowsK w (L.take p1 ++ (x, k) :: L.drop p1) := by
      rw [SetTable.toList_insertAt, R.rows, rowsK, rowsK, List.map_append, List.map_cons, List.map_take, List.map_drop, eH]
    have pm := put_perm L p1 (x, k)
    have tab1 : Tab t1 ((L.take p1 ++ (x, k) :: L.drop p1).map fun p => p.2.hash w) := by
      rw [List.map_append, List.map_cons, List.map_take, List.map_drop, eH]
      exact q2
    have nd1 : ((L.take p1 ++ (x, k) :: L.drop p1).map (·.2)).Nodup := (pm.map (·.2)).nodup_iff.mpr (List.nodup_cons.mpr ⟨hm, R.nd⟩)
    generalize L.take p1 ++ (x, k) :: L.drop p1 = L1 at rows1 pm tab1 nd1
    generalize SetTable.insertAt es p1 (H, Value.ref x) = es1 at rows1 ⊢
    have len1 : L1.length = L.length + 1 := pm.length_eq
    have sz1 := rowsK_size rows1
    have odd := mk_le R.tab.mask
    refine wpAny_bind (wpAny_storeSet_of ho hd ?_ (by rw [sz1, len1, sizeLine_eq]; omega))
    have but : Heap.SameBut a s.heap (s.heap.update a (Obj.putSet es1 t1)) := Heap.SameBut.update ..
    have ho1 := store_at (es' := es1) (t' := t1) ho hd
    generalize s.heap.update a (Obj.putSet es1 t1) = h1 at but ho1 ⊢
    have keys1 : ∀ p ∈ L1, IsK h1 p.2 p.1 := fun p hp => by
      rcases List.mem_cons.mp (pm.mem_iff.mp hp) with rfl | hp
      · exact hx.but ho hd but
      · exact (R.keys p hp).but ho hd but
    by_cases full : t1.tooFull = true
    · first
        | (refine wpAny_bind ?_; refine wp_if_pos (by simp [full]) ?_)
        | (refine wp_if_pos (by simp [full]) ?_; refine wpAny_bind ?_)
      have most : (L.length + 1) * 5 ≥ t.mask * 3 := by
        have := full
        unfold SetTable.tooFull at this
        rw [decide_eq_true_eq, f5, f3] at this
        exact this
      rw [sz]
      have go : ∀ M, SetTable.sizeAbove (SetTable.grown (L.length + 1)) - 1 = M → MkOk M → SetTable.sizeAbove (SetTable.grown (L.length + 1)) ≤ 512 → (L.length + 1) * 5 < M * 3 → L.length + 1 ≤ t.mask →
          wpAny (model P w) A (setRelay a (SetTable.grown (L.length + 1))) (fun _ s' => wpAny (model P w) A (pure true) Q E s') E { s with heap := h1 } := fun M m1 m2 m3 m4 m5 => by
        refine relay_keys (s := { s with heap := h1 }) ho1 ⟨hex.1, hex.2.1, hex.2.2⟩ rfl rows1 tab1 (by rw [len1, f3]; exact m5) nd1 keys1 f1 f2 m1 m2 m3 (by rw [len1]; exact m4) ?_
        intro h2 L2 es2 ep2 t2 but2 R2 pm2
        exact wpAny_pure (hQ true h2 L2 es2 ep2 t2 (but.trans but2) R2 (fun z => absurd z hm) fun _ => pm2.trans pm)
      rcases R.tab.mask with e | e | e | e
      · rw [e] at room most
        have l4 : L.length + 1 = 5 := by omega
        exact go 31 (by rw [l4, grow_5]) (.inr (.inl rfl)) (by rw [l4, grow_5]; decide) (by omega) (by omega)
      · rw [e] at room most
        have l4 : L.length + 1 = 19 := by omega
        exact go 127 (by rw [l4, grow_19]) (.inr (.inr (.inl rfl))) (by rw [l4, grow_19]; decide) (by omega) (by omega)
      · rw [e] at room most
        have l4 : L.length + 1 = 77 := by omega
        exact go 511 (by rw [l4, grow_77]) (.inr (.inr (.inr rfl))) (by rw [l4, grow_77]; decide) (by omega) (by omega)
      · rw [e] at most
        have := few hm
        omega
    · first
        | refine wp_if_neg (by simp [full]) ?_
        | (refine wpAny_bind ?_; refine wp_if_neg (by simp [full]) ?_; refine wpAny_pure ?_)
      refine wpAny_pure (hQ true h1 L1 es1 (ep + 1) t1 but ⟨⟨_, ho1, ⟨hex.1, hex.2.1, hex.2.2⟩, rfl⟩, rows1, tab1, nd1, keys1, f1, f2, ?_⟩ (fun z => absurd z hm) fun _ => pm)
      have := full
      unfold SetTable.tooFull at this
      rw [decide_eq_true_eq, f5] at this
      rw [len1]
      omega

/-- what the set has of the first i items -/
structure Has (ks : List (Addr × NestedKey)) (i : Nat) (L : List (Addr × NestedKey)) : Prop where
  sub : ∀ p ∈ L, p ∈ ks.take i
  all : ∀ p ∈ ks.take i, p.2 ∈ L.map (·.2)
theorem Has.next {ks L L' : List (Addr × NestedKey)} {i : Nat} {x : Addr × NestedKey} (g : Has ks i L) (h : ks[i]? = some x) (c1 : x.2 ∈ L.map (·.2) → L' = L) (c2 : x.2 ∉ L.map (·.2) → L'.Perm (x :: L)) : Has ks (i + 1) L' := by
  have cut : ks.take (i + 1) = ks.take i ++ [x] := take_next h
  by_cases c : x.2 ∈ L.map (·.2)
  · rw [c1 c]
    refine ⟨fun p hp => by rw [cut]; exact List.mem_append_left _ (g.sub p hp), fun p hp => ?_⟩
    rw [cut] at hp
    rcases List.mem_append.mp hp with z | z
    · exact g.all p z
    · rw [List.mem_singleton.mp z]; exact c
  · have pm := c2 c
    refine ⟨fun p hp => ?_, fun p hp => ?_⟩
    · rw [cut]
      rcases List.mem_cons.mp (pm.mem_iff.mp hp) with rfl | z
      · exact List.mem_append_right _ (List.mem_singleton.mpr rfl)
      · exact List.mem_append_left _ (g.sub p z)
    · rw [(pm.map (·.2)).mem_iff, List.map_cons]
      rw [cut] at hp
      rcases List.mem_append.mp hp with z | z
      · exact List.mem_cons_of_mem _ (g.all p z)
      · rw [List.mem_singleton.mp z]; exact List.mem_cons_self
theorem NSet.keep {h h' : Heap} (R : NSet w h a L es ep t) (ha : ∀ o, h.get? a = some o → h'.get? a = some o) (hk : ∀ p ∈ L, IsK h' p.2 p.1) : NSet w h' a L es ep t := by
  obtain ⟨o, ho, r⟩ := R.ob
  exact ⟨⟨o, ha o ho, r⟩, R.rows, R.tab, R.nd, hk, R.plain, R.led, R.room⟩
/-- a set as it is made -/
abbrev newSet (w : World) : Obj := { cls := .type "set", dict := none, data := .set #[] 0 (.fresh 0 0 (!w.params.followText "set-order")) }
theorem nset_new {h : Heap} (ho : h.get? a = some (newSet w)) : NSet w h a [] #[] 0 (.fresh 0 0 (!w.params.followText "set-order")) where
  ob := ⟨_, ho, ⟨rfl, rfl, rfl⟩, rfl⟩
  rows := rfl
  tab := ⟨List.Pairwise.nil, rfl, rfl, .inl rfl, fun x hx => (by cases hx), fun i h j hi => (by simp at hi)⟩
  nd := List.nodup_nil
  keys := fun p hp => (by cases hp)
  plain := rfl
  led := by
    show _ ∨ (!w.params.followText "set-order") = true
    cases w.params.followText "set-order"
    · exact .inr rfl
    · exact .inl rfl
  room := by
    show 0 * 5 < 7 * 3
    decide
theorem distinct_le {A B : List NestedKey} (na : A.Nodup) (h : ∀ x ∈ A, x ∈ B) : A.length ≤ B.length := by
  induction A generalizing B with
  | nil => exact Nat.zero_le _
  | cons a A ih =>
    obtain ⟨n1, n2⟩ := List.nodup_cons.mp na
    have ha := h a List.mem_cons_self
    have := ih (B := B.erase a) n2 fun x hx => (List.mem_erase_of_ne (fun e : x = a => n1 (e ▸ hx))).mpr (h x (List.mem_cons_of_mem _ hx))
    rw [List.length_erase_of_mem ha] at this
    have := List.length_pos_of_mem ha
    rw [List.length_cons]
    omega
/-- the loop of set.update -/
theorem update_keys {I : Addr} {fp wr : List Addr} {G : Array GenState → Array GenState → Prop} {n : Nat} {Pv : Nat → Value → Prop} {St : Nat → Shared → Prop} {R : Result → Shared → Prop}
  (W : WalksS P w A.in1 I fp wr G n Pv St) (S : Addr) (hSf : S ∉ fp) (ks : List (Addr × NestedKey)) (hn : n = ks.length) (Dv : List NestedKey) (dl : Dv.length ≤ 306) (dk : ∀ p ∈ ks, p.2 ∈ Dv) (hval : ∀ i v, Pv i v → ∃ p, ks[i]? = some p ∧ v = .ref p.1)
  (h0 : Heap) (hk : ∀ p ∈ ks, IsK h0 p.2 p.1) (hS0 : h0.get? S = none) (hw0 : ∀ b ∈ wr, h0.get? b = none) (hu : A.in1.units + 8 < cLine) :
  ∀ (k i : Nat) (s : Shared), n - i = k → i ≤ n → St i s → (∀ b o, h0.get? b = some o → s.heap.get? b = some o) → (∃ L es ep t, NSet w s.heap S L es ep t ∧ Has ks i L) →
    (∀ s' L es ep t, Moved (S :: wr) G s s' → NSet w s'.heap S L es ep t → Has ks n L → (∀ b o, h0.get? b = some o → s'.heap.get? b = some o) → R (.ok (.ret .none)) s') →
    codeAny (model P w) A (.builtin "set.update.loop" ⟨[.ref S, .ref I], []⟩) R s := by
  have apart : S ∉ wr := fun z => hSf (W.sub _ z)
  have into : ∀ b ∈ wr, b ∈ S :: wr := fun b z => List.mem_cons_of_mem _ z
  have stay : ∀ {u v : Shared}, Moved wr G u v → (∀ b o, h0.get? b = some o → u.heap.get? b = some o) → ∀ b o, h0.get? b = some o → v.heap.get? b = some o := fun mv q b o e =>
    mv.heap b o (fun z => by rw [hw0 b z] at e; cases e) (q b o e)
  have fewL : ∀ {h : Heap} {i : Nat} {L : List (Addr × NestedKey)} {es ep t} {p : Addr × NestedKey}, NSet w h S L es ep t → Has ks i L → p ∈ ks → p.2 ∉ L.map (·.2) → L.length < 306 := fun {h i L es ep t p} R0 g inn out => by
    have := distinct_le (A := p.2 :: L.map (·.2)) (B := Dv) (List.nodup_cons.mpr ⟨out, R0.nd⟩) fun x hx => by
      rcases List.mem_cons.mp hx with rfl | hx
      · exact dk p inn
      · obtain ⟨q, hq, rfl⟩ := List.mem_map.mp hx
        exact dk q (List.mem_of_mem_take (g.sub q hq))
    rw [List.length_cons, List.length_map] at this
    omega
  intro k
  induction k with
  | zero =>
    intro i s e1 e2 now q ⟨L, es, ep, t, set, g⟩ done
    obtain rfl : i = n := by omega
    refine codeAny_builtin F.entry_set_update_loop ?_
    rw [Around.under_plainId F.plain_set_update_loop _]
    show wpAny _ A.in1 (pyNext (.ref I) >>= _) _ _ s
    refine wpAny_bind (W.done s _ _ now fun u mv => ?_)
    show wpAny _ A.in1 (ret Value.none) _ _ u
    have q2 := stay mv q
    exact wpAny_pure (done u L es ep t (mv.mono into) (set.keep (fun o e => mv.heap S o apart e) fun p z => (hk p (List.mem_of_mem_take (g.sub p z))).keep q2) g q2)
  | succ k ih =>
    intro i s e1 e2 now q ⟨L, es, ep, t, set, g⟩ done
    have lt : i < n := by omega
    refine codeAny_builtin F.entry_set_update_loop ?_
    rw [Around.under_plainId F.plain_set_update_loop _]
    show wpAny _ A.in1 (pyNext (.ref I) >>= _) _ _ s
    refine wpAny_bind (W.item i s _ _ lt now fun v u pv next mv => ?_)
    obtain ⟨p, at_, rfl⟩ := hval i v pv
    have inks : p ∈ ks := List.mem_of_getElem? at_
    have q2 := stay mv q
    have set2 : NSet w u.heap S L es ep t := set.keep (fun o e => mv.heap S o apart e) fun p z => (hk p (List.mem_of_mem_take (g.sub p z))).keep q2
    have tp : IsK u.heap p.2 p.1 := (hk p inks).keep q2
    show wpAny _ A.in1 (holding [Value.ref p.1] (setAdd S (.ref p.1)) >>= _) _ _ u
    refine wpAny_bind (wpAny_holding ?_)
    unfold setAdd
    refine wpAny_holding ?_
    refine wpAny_bind ((nestedKind P w).pyHash hu tp.kind ?_)
    refine add_key (s := { u with toks := u.toks + p.2.draws }) set2 tp hu rfl (fun z => fewL set2 g inks z) fun b h' L' es' ep' t' same set3 c1 c2 => ?_
    have g2 : Has ks (i + 1) L' := g.next at_ c1 c2
    have q3 : ∀ b o, h0.get? b = some o → h'.get? b = some o := fun b o e => (same.2 b (fun z => by rw [z, hS0] at e; cases e)).trans (q2 b o e)
    refine wpAny_pure ⟨plainId_quiet F.plain_set_update_loop _, ih (i + 1) _ (by omega) lt (W.frame _ u _ _ next (Nat.le_add_right _ _) fun b z o e => ?_) q3 ⟨L', es', ep', t', set3, g2⟩ fun x L2 es2 ep2 t2 mv2 set4 g3 q4 => ?_⟩
    · rw [same.2 b (fun z2 : b = S => hSf (by rw [← z2]; exact z))]; exact e
    · refine done x L2 es2 ep2 t2 (Moved.trans W.gtrans ((mv.mono into).then_heap (Nat.le_add_right _ _) fun b o z e => ?_) mv2) set4 g3 q4
      rw [same.2 b (fun z2 : b = S => z (by rw [z2]; exact List.mem_cons_self))]; exact e
end
end Mi

/-! Mi: set(a list of nested tuples), sorted(such a set). -/
namespace Mi
open PySem PySem.Spec PyProof.Rows L2
section
variable {P : Program} {w : World} {A : Around} {E : Value → Shared → Prop} {s : Shared}
set_option maxHeartbeats 8000000 in
theorem set_listK {l : Addr} {items : Array Value} (ks : List (Addr × NestedKey)) {Q : Value → Shared → Prop} (hh : A.handled = none) (hl : s.heap.IsList l items) (hit : items.toList = ks.map fun p => Value.ref p.1)
    (hk : ∀ p ∈ ks, IsK s.heap p.2 p.1) (Dv : List NestedKey) (dl : Dv.length ≤ 306) (dk : ∀ p ∈ ks, p.2 ∈ Dv) (hu : A.units + 20 < cLine)
    (h : ∀ (h' : Heap) (tk : Nat) L es ep t, NSet w h' s.heap.objs.size L es ep t → Has ks ks.length L → (∀ b o, s.heap.get? b = some o → h'.get? b = some o) → Q (.ref s.heap.objs.size) { s with heap := h', toks := tk }) :
    wpAny (model P w) A (call (.type "set") [.ref l]) Q E s := by
  have zi : items.size = ks.length := by
    have q := congrArg List.length hit
    rw [Array.length_toList, List.length_map] at q
    exact q
  obtain ⟨c, tl, mr⟩ := F.called_set.mro
  have md := F.called_set.made
  have sb := F.called_set.sub
  refine wpAny_call (codeAny_of_tree ?_)
  show wpAny _ _ (callAny (.type "set") _) _ _ _
  refine wpAny_pure ⟨Code.quiet_builtin _ (by decide +kernel), codeAny_builtin F.entry_type_call ?_⟩
  rw [Around.under_plain (weight_type_call_type "set" [.ref l] []) rfl]
  have h1 := F.called_set.notType
  have h2 := F.called_set.canCreate
  have tc := F.typeCall_set_1 (.ref l)
  repeat (any_goals (first | assumption | wp_step))

  refine codeAny_mono (code_set_led1 (.ref l) (E := E) (Q₁ := fun obj s₁ => obj = .ref s.heap.objs.size ∧ s₁ = { s with heap := s.heap.push (newSet w) }) ⟨rfl, rfl⟩) fun r s₁ hr => ?_
  cases r with
  | error e => exact hr
  | ok fl =>
    cases fl with
    | ret obj =>
      obtain ⟨rfl, rfl⟩ := hr
      have hS : (s.heap.push (newSet w)).get? s.heap.objs.size = some (newSet w) := Heap.get?_push_size _ rfl
      have hT : Shared.TypeIs { s with heap := s.heap.push (newSet w) } (.ref s.heap.objs.size) "set" := ⟨_, hS, rfl⟩
      have li0 := F.called_set.init.lookup
      have bi0 := F.called_set.init.bind (.ref s.heap.objs.size)
      repeat (any_goals (first | assumption | wp_step))

      refine codeAny_mono (codeAny_call_builtin (R := wants (fun r s₂ => r = .none ∧ ∃ h' tk L es ep t, s₂ = { s with heap := h', toks := tk } ∧ NSet w h' s.heap.objs.size L es ep t ∧ Has ks ks.length L ∧
          (∀ b o, s.heap.get? b = some o → h'.get? b = some o)) E) F.called_set.init.plain F.entry_set_init (check_set_init_1 hT ?_)) fun r₂ s₂ z2 => ?_
      · obtain ⟨ol, ol0, hcl, nl, hdl⟩ := hl
        obtain ⟨ocls, odict, odata, oslots⟩ := ol
        simp only at hcl hdl
        subst hcl; subst hdl
        have ol1 : (s.heap.push (newSet w)).get? l = some { cls := .type "list", dict := odict, data := .seq items nl, slots := oslots } := Heap.get?_push_of_some _ ol0
        have l1s := F.sub_list_set
        have l1f := F.sub_list_frozenset
        have ne0 : (Value.type "list" == Value.type "dict") = false := by decide
        have ll1 : (s.heap.push (newSet w)).IsList l items := ⟨_, ol1, rfl, nl, rfl⟩
        unfold Builtin.«set.__init__» noKeywords Builtin.Frozenset.updateFrom
        generalize hPI : pyIter = PI
        wp_walk
        subst hPI

        refine wpAny_pyIter_list ll1 ?_
        refine wpAny_bind (wpAny_runValue ?_)
        have lS : l < s.heap.objs.size := Heap.lt_size ol0
        have h3h : A.in1.in1.in1.handled = none := by simp [hh]
        have zz1 : (s.heap.push (newSet w)).objs.size = s.heap.objs.size + 1 := Heap.size_push ..
        have nI : l ≠ (s.heap.push (newSet w)).objs.size := by
          rw [Heap.size_push]; exact Nat.ne_of_lt (Nat.lt_succ_of_lt lS)
        have nS : s.heap.objs.size ∉ [(s.heap.push (newSet w)).objs.size, l] := by
          rw [Heap.size_push]; simp only [List.mem_cons, List.mem_singleton, List.not_mem_nil, or_false, not_or]
          exact ⟨Nat.ne_of_lt (Nat.lt_succ_self _), Nat.ne_of_gt lS⟩
        have vl : ∀ (i : Nat) (v : Value), items[i]? = some v → ∃ p, ks[i]? = some p ∧ v = .ref p.1 := fun i v hv => by
          have q : items.toList[i]? = some v := by rw [Array.getElem?_toList]; exact hv
          rw [hit, List.getElem?_map] at q
          cases e : ks[i]? with
          | none => rw [e] at q; cases q
          | some p =>
            rw [e] at q
            exact ⟨p, rfl, (Option.some.inj q).symm⟩
        have nof : ∀ b, s.heap.objs.size ≤ b → s.heap.get? b = none := fun b hb => by
          cases q : s.heap.get? b with
          | none => rfl
          | some o => exact absurd (Nat.lt_of_lt_of_le (Heap.lt_size q) hb) (Nat.lt_irrefl _)
        refine update_keys ((Walks.list h3h _ l nI items).toS) s.heap.objs.size
          nS ks zi Dv dl dk vl s.heap hk (nof _ (Nat.le_refl _)) (fun b hb => nof b (by
            rw [List.mem_singleton.mp hb, Heap.size_push]
            exact Nat.le_succ _)) (by simp only [Around.in1_units]; omega) (items.size - 0) 0 _ (by omega) (Nat.zero_le _)
          ⟨⟨_, Heap.get?_push_size _ rfl, rfl, rfl⟩, (ll1.push _)⟩ (fun b o e => Heap.get?_push_of_some _ (Heap.get?_push_of_some _ e)) ?hS0 ?hR
        case hS0 =>
          have gt0 : ((s.heap.push (newSet w)).push { cls := .type "list_iterator", data := .fields #[.ref l, .int 0 0] }).get? s.heap.objs.size
              = some (newSet w) := Heap.get?_push_of_some _ hS
          exact ⟨[], #[], 0, _, nset_new gt0, ⟨fun p hp => (by cases hp), fun p hp => (by simp at hp)⟩⟩
        case hR =>
          intro s' L es ep t hm hS' g' kp
          obtain ⟨h', g2, d', tk', os'⟩ := s'
          have eg : g2 = s.gens := hm.gens
          have ed : d' = s.drawn := hm.drawn
          have eo : os' = s.os := hm.os
          subst eg; subst ed; subst eo
          show wpAny _ _ _ _ _ _
          refine wpAny_pure ?_
          show wpAny _ _ (ret Value.none) _ _ _
          rw [zi] at g'
          exact wpAny_pure ⟨rfl, h', tk', L, es, ep, t, rfl, hS', g', kp⟩

      · cases r₂ with
        | error e => exact z2
        | ok fl₂ =>
          cases fl₂ with
          | ret r =>
            obtain ⟨rfl, h', tk, L, es, ep, t, rfl, hS', g', hk'⟩ := z2
            repeat (any_goals (first | assumption | wp_step))
            exact h _ _ _ _ _ _ hS' g' hk'
          | _ => exact z2.elim
    | _ => exact hr.elim

end

/-! ### the set as an object of its own -/
structure NS0 (w : World) (h : Heap) (a : Addr) (L : List (Addr × NestedKey)) : Prop where
  ex : ∃ (es : Array (Int × Value)) (ep : Nat) (t : SetTable), (∃ o, h.get? a = some o ∧ o.ExactSet ∧ o.data = .set es ep t) ∧ es.toList = rowsK w L ∧ Tab t (L.map fun p => p.2.hash w) ∧ (L.map (·.2)).Nodup ∧ t.plain = true ∧
    (w.params.followText "set-order" = true ∨ t.led = true) ∧ L.length * 5 < t.mask * 3
def NSetO (w : World) (a : Addr) (L : List (Addr × NestedKey)) : HO := .ext fun h => NS0 w h a L
theorem NSet.bare {w : World} {h : Heap} {a : Addr} {L : List (Addr × NestedKey)} {es : Array (Int × Value)} {ep : Nat} {t : SetTable} (R : NSet w h a L es ep t) : NS0 w h a L := ⟨es, ep, t, R.ob, R.rows, R.tab, R.nd, R.plain, R.led, R.room⟩
theorem NS0.full {w : World} {h : Heap} {a : Addr} {L : List (Addr × NestedKey)} (R : NS0 w h a L) (hk : ∀ p ∈ L, IsK h p.2 p.1) : ∃ es ep t, NSet w h a L es ep t := by
  obtain ⟨es, ep, t, h1, h2, h3, h4, h5, h6, h7⟩ := R.ex
  exact ⟨es, ep, t, h1, h2, h3, h4, hk, h5, h6, h7⟩
theorem nsetO_ok {P : Program} {w : World} {H : Hp} {h : Heap} {a : Addr} {L : List (Addr × NestedKey)} (R : NS0 w h a L) : ObjOk P w H h a (NSetO w a L) := by
  have ⟨es, ep, t, ⟨o, ho, r⟩, q⟩ := R.ex
  refine ⟨R, ⟨o, ho⟩, fun h1 h2 p k => ?_⟩
  have ⟨es', ep', t', ⟨o', ho', r'⟩, q'⟩ := NS0.ex p
  exact ⟨es', ep', t', ⟨o', k o' ho', r'⟩, q'⟩
/-! ### data as keys -/
theorem keysD_cons {b : Bool} {x : PyData} {xs : List PyData} {ks : List NestedKey} (e : keysD b (x :: xs) = some ks) : ∃ k r, keyD b x = some k ∧ keysD b xs = some r ∧ ks = k :: r := by
  rw [keysD] at e
  cases h1 : keyD b x with
  | none => rw [h1] at e; cases e
  | some k =>
    cases h2 : keysD b xs with
    | none => rw [h1, h2] at e; cases e
    | some r => rw [h1, h2] at e; cases e; exact ⟨k, r, rfl, rfl, rfl⟩
theorem keyD_tup {b : Bool} {xs : List PyData} {k : NestedKey} (e : keyD b (.tuple xs) = some k) : ∃ ks, keysD b xs = some ks ∧ k = .tup ks := by
  rw [keyD] at e
  cases h : keysD b xs with
  | none => rw [h] at e; cases e
  | some ks => rw [h] at e; cases e; exact ⟨ks, rfl, rfl⟩
theorem keyD_int {b : Bool} {i : Int} {k : NestedKey} (e : keyD b (.int i) = some k) : b = false ∧ k = .num i := by
  rw [keyD] at e
  cases b with
  | true => cases e
  | false => cases e; exact ⟨rfl, rfl⟩
theorem keyD_bool {b c : Bool} {k : NestedKey} (e : keyD b (.bool c) = some k) : b = true ∧ k = .num (if c = true then 1 else 0) := by
  rw [keyD] at e
  cases b with
  | false => cases e
  | true => cases e; exact ⟨rfl, rfl⟩
mutual
theorem keyD_is {b : Bool} {h : Heap} : ∀ (d : PyData) (k : NestedKey) (v : Value) (as : List Addr), keyD b d = some k → Reads h v d as → NestedIs h k v
  | .int i, k, v, as, e, r => by
    obtain ⟨-, rfl⟩ := keyD_int e
    cases r
    exact .int _ _
  | .bool c, k, v, as, e, r => by
    obtain ⟨-, rfl⟩ := keyD_bool e
    cases r
    exact .bool rfl
  | .tuple xs, k, v, as, e, r => by
    obtain ⟨ks, e1, rfl⟩ := keyD_tup e
    cases r with
    | tuple h1 h2 h3 h4 => exact .tup h1 h2 h3 (keysD_is xs ks _ _ e1 h4)
  | .none, k, v, as, e, r | .str _, k, v, as, e, r | .list _, k, v, as, e, r | .dict _, k, v, as, e, r => by simp [keyD] at e
theorem keysD_is {b : Bool} {h : Heap} : ∀ (ds : List PyData) (ks : List NestedKey) (vs : List Value) (as : List Addr), keysD b ds = some ks → ReadsAll h vs ds as → NestedAll h ks vs
  | [], ks, vs, as, e, r => by
    rw [keysD] at e
    cases e
    cases r
    exact .nil
  | d :: ds, ks, vs, as, e, r => by
    obtain ⟨k, ks', e1, e2, rfl⟩ := keysD_cons e
    cases r with
    | cons r1 r2 => exact .cons (keyD_is d k _ _ e1 r1) (keysD_is ds ks' _ _ e2 r2)
end
mutual
theorem keyD_inj {b : Bool} : ∀ (x y : PyData) (k : NestedKey), keyD b x = some k → keyD b y = some k → x = y
  | .int i, y, k, e, e' => by
    obtain ⟨rfl, rfl⟩ := keyD_int e
    cases y with
    | int j => obtain ⟨-, h⟩ := keyD_int e'; cases h; rfl
    | bool c => obtain ⟨h, -⟩ := keyD_bool e'; cases h
    | tuple ys => obtain ⟨_, -, h⟩ := keyD_tup e'; cases h
    | _ => simp [keyD] at e'
  | .bool c, y, k, e, e' => by
    obtain ⟨rfl, rfl⟩ := keyD_bool e
    cases y with
    | int j => obtain ⟨h, -⟩ := keyD_int e'; cases h
    | bool c' =>
      obtain ⟨-, h⟩ := keyD_bool e'
      injection h with h
      cases c <;> cases c' <;> first | rfl | (exact absurd h (by decide))
    | tuple ys => obtain ⟨_, -, h⟩ := keyD_tup e'; cases h
    | _ => simp [keyD] at e'
  | .tuple xs, y, k, e, e' => by
    obtain ⟨ks, e1, rfl⟩ := keyD_tup e
    cases y with
    | int j => obtain ⟨-, h⟩ := keyD_int e'; cases h
    | bool c => obtain ⟨-, h⟩ := keyD_bool e'; cases h
    | tuple ys =>
      obtain ⟨ks', e2, h⟩ := keyD_tup e'
      cases h
      rw [keysD_inj xs ys ks e1 e2]
    | _ => simp [keyD] at e'
  | .none, y, k, e, e' | .str _, y, k, e, e' | .list _, y, k, e, e' | .dict _, y, k, e, e' => by simp [keyD] at e
theorem keysD_inj {b : Bool} : ∀ (xs ys : List PyData) (ks : List NestedKey), keysD b xs = some ks → keysD b ys = some ks → xs = ys
  | [], ys, ks, e, e' => by
    rw [keysD] at e
    cases e
    cases ys with
    | nil => rfl
    | cons y ys => obtain ⟨_, _, -, -, h⟩ := keysD_cons e'; cases h
  | x :: xs, ys, ks, e, e' => by
    obtain ⟨k, r, e1, e2, rfl⟩ := keysD_cons e
    cases ys with
    | nil => rw [keysD] at e'; cases e'
    | cons y ys =>
      obtain ⟨k', r', e1', e2', h⟩ := keysD_cons e'
      cases h
      rw [keyD_inj x y k e1 e1', keysD_inj xs ys r e2 e2']
end
mutual
theorem keyD_numb {b : Bool} : ∀ (x : PyData) (k : NestedKey), keyD b x = some k → numb k = true
  | .int i, k, e => by obtain ⟨-, rfl⟩ := keyD_int e; rfl
  | .bool c, k, e => by obtain ⟨-, rfl⟩ := keyD_bool e; rfl
  | .tuple xs, k, e => by
    obtain ⟨ks, e1, rfl⟩ := keyD_tup e
    exact keysD_numb xs ks e1
  | .none, k, e | .str _, k, e | .list _, k, e | .dict _, k, e => by simp [keyD] at e
theorem keysD_numb {b : Bool} : ∀ (xs : List PyData) (ks : List NestedKey), keysD b xs = some ks → numbs ks = true
  | [], ks, e => by rw [keysD] at e; cases e; rfl
  | x :: xs, ks, e => by
    obtain ⟨k, r, e1, e2, rfl⟩ := keysD_cons e
    rw [numbs, keyD_numb x k e1, keysD_numb xs r e2]
    rfl
end
/-! ### the two calls -/
section
variable {X : Cx}
theorem isK_of {pins : List (Addr × Obj)} {σ : L2.St} {F H : Hp} {s : Shared} (I : Inv X pins σ H s) (sb : Sub F (dn H)) {b : Bool} {d : PyData} {k : NestedKey} {a : Addr} (e : keyD b d = some k) (low : k.depth ≤ 8) (r : Rp F d (.ref a)) : IsK s.heap k a := by
  obtain ⟨as, h⟩ := Rp.reads I d (.ref a) (.ref a) (Rp.sub sb _ _ r) rfl
  exact ⟨keyD_is d k _ _ e h, low, keyD_numb d k e⟩
/-- set(xs) of nested tuples -/
def rSetK (K : PySem.W.Frag) (w : World) : List V → Hp → VK → Prop := fun xs H Q => ∃ (F : Hp) (b : Bool) (l : Addr) (ks : List (Addr × NestedKey)) (D : Addr → PyData) (Dv : List NestedKey), xs = [V.ref l] ∧ Sub F (dn H) ∧ SqL K H l (ks.map fun p => V.ref p.1) ∧
  (∀ p ∈ ks, keyD b (D p.1) = some p.2 ∧ p.2.depth ≤ 8 ∧ Rp F (D p.1) (.ref p.1)) ∧ Dv.length ≤ 306 ∧ (∀ p ∈ ks, p.2 ∈ Dv) ∧
  ∀ a L, H a = none → (∀ p ∈ L, p ∈ ks) → (∀ p ∈ ks, p.2 ∈ L.map (·.2)) → (L.map (·.2)).Nodup → Q (.ref a) (upd H a (NSetO w a L))
theorem cr_setK (hc : X.calm = true) (hu : X.A.units + 64 < cLine) : CallR X (.type "set") (rSetK X.K X.w) := by
  intro pins s σ H xs us Q I r h
  obtain ⟨F, b, l, ks, D, Dv, rfl, sb, hl, hk, dl, dk, q⟩ := h
  rw [Vals.ref1 r]
  obtain ⟨its, rv, pl, hz⟩ := I.list hl
  have hn : H s.heap.objs.size = none := I.hok.fresh (Nat.le_refl _)
  have rf : ∀ {ks : List (Addr × NestedKey)} {us : List Value}, Vals (ks.map fun p => V.ref p.1) us → us = ks.map fun p => Value.ref p.1 := by
    intro ks
    induction ks with
    | nil => intro us h; cases h; rfl
    | cons p ks ih =>
      intro us h
      cases h with
      | cons r t =>
        cases r
        rw [ih t]
        rfl
  refine set_listK (P := X.prog) (w := X.w) ks (I.ok.hd hc) (show s.heap.IsList l its.toArray from pl.isList) (by simpa using rf rv) (fun p hp => isK_of I sb (hk p hp).1 (hk p hp).2.1 (hk p hp).2.2) Dv dl dk (by omega) fun h' tk L es ep t R g k => ?_
  refine ⟨.ref s.heap.objs.size, upd H s.heap.objs.size (NSetO X.w s.heap.objs.size L), I.laid (t' := tk) k (Nat.le_refl _) (nsetO_ok R.bare), rfl, q _ L hn (fun p hp => ?_) (fun p hp => ?_) R.nd⟩
  · exact List.mem_of_mem_take (g.sub p hp)
  · exact g.all p (by rw [List.take_length]; exact hp)
/-- the data of a value -/
def datV (D : Addr → PyData) : Value → PyData
  | .ref a => D a
  | _ => .none
def rSortedK (w : World) : List V → Hp → VK → Prop := fun vs H Q => ∃ (F : Hp) (b : Bool) (a : Addr) (L : List (Addr × NestedKey)) (D : Addr → PyData), vs = [V.ref a] ∧ H a = some (NSetO w a L) ∧ Sub F (dn H) ∧
  (∀ p ∈ L, keyD b (D p.1) = some p.2 ∧ p.2.depth ≤ 8 ∧ Rp F (D p.1) (.ref p.1)) ∧ (∀ ds, ds.Perm (L.map fun p => D p.1) → sortOk ds = true) ∧
  ∀ ds p vs, ds.Perm (L.map fun p => D p.1) → H p = none → RpL F (sortD ds) vs → Q (.ref p) (upd H p (.lst vs))
theorem cr_sortedK (hc : X.calm = true) (hu : X.A.units + 200 < cLine) : CallR X (.builtin "sorted") (rSortedK X.w) := by
  intro pins s σ H vs us Q I r h
  obtain ⟨F, b, a, L, D, rfl, ha, sb, hk, so, q⟩ := h
  rw [Vals.ref1 r]
  have R0 : NS0 X.w s.heap a L := (I.hok a _ ha).1
  obtain ⟨es, ep, t, R⟩ := R0.full fun p hp => isK_of I sb (hk p hp).1 (hk p hp).2.1 (hk p hp).2.2
  obtain ⟨o, ho, hex, hd⟩ := R.ob
  have sz := rowsK_size R.rows
  have room := R.room
  have big := mk_le R.tab.mask
  refine Calls.call_function_entry kind_sorted plain_sorted entry_sorted (args_sorted1 _) ?_
  unfold Builtin.«sorted»
  refine wpAny_bind (m := checkCount "sorted" 1 1 _) (wpAny_pure ?_)
  refine wpAny_bind (collect_set (A := X.A.in1) (I.ok.hd hc) ⟨o, ho, hex.1, hd⟩ R.fits (by unfold scanBound; omega) R.tab.up R.led fun s1 its k1 hz g1 o1 pm => ?_)
  have pm : its.Perm (L.map fun p => Value.ref p.1) := by
    rw [R.rows, rowsK, List.map_map] at pm
    exact pm
  have lz : its.length ≤ sizeLine := by
    rw [pm.length_eq, List.length_map, sizeLine_eq]
    omega
  have each : ∀ v ∈ its, ∃ p ∈ L, v = .ref p.1 := fun v hv => by
    obtain ⟨p, hp, rfl⟩ := List.mem_map.mp (pm.mem_iff.mp hv)
    exact ⟨p, hp, rfl⟩
  have pd : (its.map (datV D)).Perm (L.map fun p => D p.1) := by
    have := pm.map (datV D)
    rw [List.map_map] at this
    exact this
  have ev : PySem.W.EachIs (VD F) its (its.map (datV D)) := by
    have go : ∀ its : List Value, (∀ v ∈ its, ∃ p ∈ L, v = .ref p.1) → PySem.W.EachIs (VD F) its (its.map (datV D)) := fun its => by
      induction its with
      | nil => exact fun _ => .nil
      | cons v its ih =>
        intro each
        obtain ⟨p, hp, rfl⟩ := each v List.mem_cons_self
        exact .cons ⟨.ref p.1, rfl, (hk p hp).2.2⟩ (ih fun u hu => each u (List.mem_cons_of_mem _ hu))
    exact go its each
  generalize hds : its.map (datV D) = ds at pd ev
  obtain ⟨g1', g2, g3⟩ := sortOk_i (so ds pd)
  refine wpAny_bind (wpAny_newList ?_ lz)
  have hp : (s1.heap.push (seqObj "list" its.toArray 0)).get? s1.heap.objs.size = some (seqObj "list" its.toArray 0) := Heap.get?_push_size _ rfl
  have er : PySem.W.EachIs (fun v d => ∃ as, Reads (PySem.W.sortingHeap (s1.heap.push (seqObj "list" its.toArray 0)) s1.heap.objs.size its) v (id d) as) its ds := (each_reads I sb ev).mono fun _ _ ⟨as, r⟩ => ⟨as, PyProof.Rows.Reads.keeps (fun b u e => PySem.W.sortingHeap_old (Nat.ne_of_lt (Heap.lt_size (k1 b u e))) (Heap.get?_push_of_some _ (k1 b u e))) r⟩
  have S : PySem.W.SortsAt X.prog X.w X.A.in1.in1 { s1 with heap := PySem.W.sortingHeap (s1.heap.push (seqObj "list" its.toArray 0)) s1.heap.objs.size its } (PySem.W.dataKind (PySem.W.sortingHeap (s1.heap.push (seqObj "list" its.toArray 0)) s1.heap.objs.size its) ds) its := by
    have hu2 : ∀ d, d ∈ ds → X.A.in1.in1.units + d.depth < cLine := fun d hd => by
      have := g3 d hd
      show X.A.units + 2 + d.depth < cLine
      omega
    rcases g2 with g2 | ⟨⟨r, g2⟩, g4⟩
    · exact PySem.W.SortsAt.data (prog := X.prog) (w := X.w) (A := X.A.in1.in1) (s := { s1 with heap := PySem.W.sortingHeap (s1.heap.push (seqObj "list" its.toArray 0)) s1.heap.objs.size its }) (vs := its) (ds := ds) er g1' g2 hu2
    · exact sorts_tups (prog := X.prog) (w := X.w) (A := X.A.in1.in1) (s := { s1 with heap := PySem.W.sortingHeap (s1.heap.push (seqObj "list" its.toArray 0)) s1.heap.objs.size its }) (vs := its) (ds := ds) er g1' g4 g2 hu2
  refine wpAny_bind (wpAny_holding (wpAny_call_entry slot_list_sort ⟨_, hp, rfl⟩ entry_list_sort (PySem.W.list_sort_vals (s := { s1 with heap := s1.heap.push (seqObj "list" its.toArray 0) }) hp S lz ⟨_, rfl, wpAny_pure ⟨_, rfl, ?_⟩⟩) (args_list_sort _)))
  have e := PySem.W.sortVals_data false ev er (by rw [List.map_id]; exact g1')
  rw [List.map_id] at e
  have hl := PySem.W.sortVals_length (κ := PySem.W.dataKind (PySem.W.sortingHeap (s1.heap.push (seqObj "list" its.toArray 0)) s1.heap.objs.size its) ds) false (ks := its) (vs := its) rfl
  generalize PySem.W.sortVals _ _ _ _ = out at e hl ⊢
  obtain ⟨vs, h1, h2⟩ := vd_each (ds := sortD ds) (by rw [sortD_eq]; exact e)
  obtain ⟨epo, he'⟩ := sortedHeap_at (vs := its) (out := out.toArray) hp
  have hlen : vs.length ≤ sizeLine := by
    rw [h2.length, hl]
    exact lz
  have gone : s.heap.get? s1.heap.objs.size = none := by
    cases z : s.heap.get? s1.heap.objs.size with
    | none => rfl
    | some u => exact absurd (Heap.lt_size (k1 _ _ z)) (Nat.lt_irrefl _)
  have keep : ∀ b u, s.heap.get? b = some u → (sortedHeap (s1.heap.push (seqObj "list" its.toArray 0)) s1.heap.objs.size its out.toArray).get? b = some u := fun b u e => (sortedHeap_old (Nat.ne_of_lt (Heap.lt_size (k1 b u e))) (by rw [size_push']; exact Nat.lt_succ_of_lt (Heap.lt_size (k1 b u e)))).trans (Heap.get?_push_of_some _ (k1 b u e))
  have hn := I.hok.gone gone
  exact ⟨.ref _, upd H s1.heap.objs.size (.lst vs), I.call' (ch := []) o1 (Un.laidN keep gone hn) (I.hok.laidN keep hn ⟨hlen, out, epo, h2, he'⟩) (by rw [g1]; exact I.bare) (fun _ z => nomatch z), rfl, q ds _ _ pd hn h1⟩
end
end Mi

/-! Mi: sorted(set(xs)) of nested tuples: what is told. -/
namespace Mi
open PySem PySem.Spec PyProof.Rows L2
theorem eq_leD : ∀ {l r : List PyData}, l.Perm r → l.Pairwise (fun x y => leD x y = true) → r.Pairwise (fun x y => leD x y = true) → (∀ x ∈ l, ∀ y ∈ l, leD x y = true → leD y x = true → x = y) → l = r
  | [], r, p, _, _, _ => p.nil_eq
  | a :: l, [], p, _, _, _ => absurd p.length_eq (by simp)
  | a :: l, b :: r, p, h1, h2, tri => by
    obtain ⟨a1, a2⟩ := List.pairwise_cons.mp h1
    obtain ⟨b1, b2⟩ := List.pairwise_cons.mp h2
    have ha : a ∈ b :: r := p.mem_iff.mp List.mem_cons_self
    have hb : b ∈ a :: l := p.mem_iff.mpr List.mem_cons_self
    have e : a = b := by
      rcases List.mem_cons.mp ha with z | ha
      · exact z
      · rcases List.mem_cons.mp hb with z | hb'
        · exact z.symm
        · exact tri a List.mem_cons_self b hb (a1 b hb') (b1 a ha)
    subst e
    rw [eq_leD (List.Perm.cons_inv p) a2 b2 fun x hx y hy => tri x (List.mem_cons_of_mem _ hx) y (List.mem_cons_of_mem _ hy)]
theorem sortD_perm0 (xs : List PyData) : (sortD xs).Perm xs := by
  rw [sortD_eq]
  exact List.mergeSort_perm xs _
theorem sortD_up0 (xs : List PyData) : (sortD xs).Pairwise fun x y => leD x y = true := by
  rw [sortD_eq]
  exact List.pairwise_mergeSort leD_trans leD_total xs
/-- the order of the items does not matter -/
theorem sortD_same {ds es : List PyData} (p : ds.Perm es) (tri : ∀ x ∈ es, ∀ y ∈ es, leD x y = true → leD y x = true → x = y) : sortD ds = sortD es :=
  eq_leD ((sortD_perm0 ds).trans (p.trans (sortD_perm0 es).symm)) (sortD_up0 ds) (sortD_up0 es) fun x hx y hy => tri x (p.mem_iff.mp ((sortD_perm0 ds).mem_iff.mp hx)) y (p.mem_iff.mp ((sortD_perm0 ds).mem_iff.mp hy))
mutual
theorem same_key {b : Bool} : ∀ (x : PyData) (k : NestedKey), keyD b x = some k → same x x = true
  | .int i, k, _ => by simp [same]
  | .bool c, k, _ => by simp [same]
  | .tuple xs, k, e => by
    obtain ⟨ks, e1, -⟩ := keyD_tup e
    rw [same]
    exact same_keys xs ks e1
  | .none, k, e | .str _, k, e | .list _, k, e | .dict _, k, e => by simp [keyD] at e
theorem same_keys {b : Bool} : ∀ (xs : List PyData) (ks : List NestedKey), keysD b xs = some ks → sameL xs xs = true
  | [], _, _ => rfl
  | x :: xs, ks, e => by
    obtain ⟨k, r, e1, e2, -⟩ := keysD_cons e
    rw [sameL, same_key x k e1, same_keys xs r e2]
    rfl
end
mutual
theorem rp_uniq {b : Bool} {F : Hp} : ∀ (x y : PyData) (k l : NestedKey) (v : V), keyD b x = some k → keyD b y = some l → Rp F x v → Rp F y v → x = y
  | .int i, y, k, l, v, e, e', h, h' => by
    rw [h.int_of] at h'
    cases y with
    | int j => have := h'.int_of; cases this; rfl
    | bool c => have := h'.bool_of; cases this
    | tuple ys => obtain ⟨_, _, z, -, -⟩ := Rp.tuple_iff.mp h'; cases z
    | _ => simp [keyD] at e'
  | .bool c, y, k, l, v, e, e', h, h' => by
    rw [h.bool_of] at h'
    cases y with
    | int j => have := h'.int_of; cases this
    | bool c => have := h'.bool_of; cases this; rfl
    | tuple ys => obtain ⟨_, _, z, -, -⟩ := Rp.tuple_iff.mp h'; cases z
    | _ => simp [keyD] at e'
  | .tuple xs, y, k, l, v, e, e', h, h' => by
    obtain ⟨ks, e1, -⟩ := keyD_tup e
    obtain ⟨a, vs, rfl, f, r⟩ := Rp.tuple_iff.mp h
    cases y with
    | int j => have := h'.int_of; cases this
    | bool c => have := h'.bool_of; cases this
    | tuple ys =>
      obtain ⟨ks', e2, -⟩ := keyD_tup e'
      obtain ⟨a', vs', z, f', r'⟩ := Rp.tuple_iff.mp h'
      cases z
      rw [f] at f'
      cases f'
      rw [rpl_uniq xs ys ks ks' vs e1 e2 r r']
    | _ => simp [keyD] at e'
  | .none, _, k, _, _, e, _, _, _ | .str _, _, k, _, _, e, _, _, _ | .list _, _, k, _, _, e, _, _, _ | .dict _, _, k, _, _, e, _, _, _ => by simp [keyD] at e
theorem rpl_uniq {b : Bool} {F : Hp} : ∀ (xs ys : List PyData) (ks ls : List NestedKey) (vs : List V), keysD b xs = some ks → keysD b ys = some ls → RpL F xs vs → RpL F ys vs → xs = ys
  | [], ys, _, _, vs, _, e', h, h' => by
    rw [RpL.nil_iff.mp h] at h'
    cases ys with
    | nil => rfl
    | cons y ys => obtain ⟨_, _, z, -, -⟩ := RpL.cons_iff.mp h'; cases z
  | x :: xs, ys, ks, ls, vs, e, e', h, h' => by
    obtain ⟨k, r, e1, e2, -⟩ := keysD_cons e
    obtain ⟨v, vr, rfl, h1, h2⟩ := RpL.cons_iff.mp h
    cases ys with
    | nil => have := RpL.nil_iff.mp h'; cases this
    | cons y ys =>
      obtain ⟨k', r', e1', e2', -⟩ := keysD_cons e'
      obtain ⟨v', vr', z, h1', h2'⟩ := RpL.cons_iff.mp h'
      cases z
      rw [rp_uniq x y k k' v e1 e1' h1 h1', rpl_uniq xs ys r r' vr e2 e2' h2 h2']
end
/-! ### once each -/
theorem nub_ok {b : Bool} : ∀ {xs : List PyData} {ks : List NestedKey}, keysD b xs = some ks → (nub xs).Nodup ∧ ∀ x, x ∈ nub xs ↔ x ∈ xs
  | [], _, _ => ⟨List.nodup_nil, fun x => by simp [nub]⟩
  | x :: xs, ks, e => by
    obtain ⟨k, r, e1, e2, -⟩ := keysD_cons e
    obtain ⟨i1, i2⟩ := nub_ok (xs := xs) e2
    have hit : xs.any (same x) = true ↔ x ∈ xs := by
      rw [List.any_eq_true]
      exact ⟨fun ⟨y, hy, z⟩ => same_eq z ▸ hy, fun h => ⟨x, h, same_key x k e1⟩⟩
    rw [nub]
    by_cases c : x ∈ xs
    · rw [if_pos (hit.mpr c)]
      refine ⟨i1, fun y => ?_⟩
      rw [i2, List.mem_cons]
      exact ⟨.inr, fun z => z.elim (fun z => z ▸ c) id⟩
    · rw [if_neg (fun z => c (hit.mp z))]
      refine ⟨List.nodup_cons.mpr ⟨fun z => c ((i2 x).mp z), i1⟩, fun y => ?_⟩
      rw [List.mem_cons, List.mem_cons, i2]
theorem keysD_mem {b : Bool} : ∀ {xs : List PyData} {ks : List NestedKey}, keysD b xs = some ks → ∀ x ∈ xs, ∃ k ∈ ks, keyD b x = some k
  | [], _, _, x, h => by cases h
  | x :: xs, ks, e, y, h => by
    obtain ⟨k, r, e1, e2, rfl⟩ := keysD_cons e
    rcases List.mem_cons.mp h with rfl | h
    · exact ⟨k, List.mem_cons_self, e1⟩
    · obtain ⟨k', h1, h2⟩ := keysD_mem e2 y h
      exact ⟨k', List.mem_cons_of_mem _ h1, h2⟩
theorem ordOk_of {xs : List PyData} (h1 : ∀ x ∈ xs, ∀ y ∈ xs, PySem.W.alike x y = true) (h2 : ∀ x ∈ xs, x.depth ≤ 64 ∧ x ≠ .none) : ordOk xs = true := by
  cases xs with
  | nil => rfl
  | cons x xs =>
    unfold ordOk
    rw [Bool.and_eq_true]
    refine ⟨List.all_eq_true.mpr fun a ha => List.all_eq_true.mpr fun b hb => h1 a ha b hb, List.all_eq_true.mpr fun a ha => ?_⟩
    obtain ⟨d, n⟩ := h2 a ha
    rw [Bool.and_eq_true]
    refine ⟨decide_eq_true d, ?_⟩
    cases a <;> first | rfl | exact absurd rfl n
/-- what nestOk says -/
theorem nestO_i {xs : List PyData} {r : R} (e : nestO xs = some r) : r = .fl (sortD (nub xs)) ∧ (∀ x ∈ xs, ∃ ys, x = .tuple ys) ∧ (∃ b ks, keysD b xs = some ks ∧ ∀ k ∈ ks, k.depth ≤ 8) ∧ (nub xs).length ≤ 306 ∧
    (∀ ds : List PyData, ds.Perm (nub xs) → sortOk ds = true) ∧ ∀ x ∈ xs, ∀ y ∈ xs, leD x y = true → leD y x = true → x = y := by
  unfold nestO at e
  split at e
  · rename_i hz
    cases e
    unfold nestOk at hz
    simp only [Bool.and_eq_true] at hz
    obtain ⟨⟨⟨⟨⟨z1, z2⟩, z3⟩, z4⟩, z5⟩, z6⟩ := hz
    have key : ∃ b ks, keysD b xs = some ks ∧ ∀ k ∈ ks, k.depth ≤ 8 := by
      have one : ∀ b, keysOk b xs = true → ∃ ks, keysD b xs = some ks ∧ ∀ k ∈ ks, k.depth ≤ 8 := fun b h => by
        unfold keysOk at h
        split at h
        · rename_i ks e
          exact ⟨ks, e, fun k hk => of_decide_eq_true (List.all_eq_true.mp h k hk)⟩
        · cases h
      rcases Bool.or_eq_true _ _ ▸ z2 with h | h
      · obtain ⟨ks, h⟩ := one _ h
        exact ⟨_, ks, h⟩
      · obtain ⟨ks, h⟩ := one _ h
        exact ⟨_, ks, h⟩
    have tup : ∀ x ∈ xs, ∃ ys, x = .tuple ys := fun x hx => by
      have := List.all_eq_true.mp z1 x hx
      cases x with
      | tuple ys => exact ⟨ys, rfl⟩
      | _ => cases this
    obtain ⟨b, ks, kb, kd⟩ := key
    obtain ⟨n1, n2⟩ := nub_ok kb
    obtain ⟨o1, o2⟩ := ordOk_i z4
    refine ⟨rfl, tup, ⟨b, ks, kb, kd⟩, of_decide_eq_true z3, fun ds pm => ?_, fun x hx y hy h1 h2 => ?_⟩
    · have inn : ∀ x ∈ ds, x ∈ xs := fun x hx => (n2 x).mp (pm.mem_iff.mp hx)
      have ord : ordOk ds = true := ordOk_of (fun x hx y hy => o1 x (inn x hx) y (inn y hy)) fun x hx => o2 x (inn x hx)
      unfold sortOk
      rw [ord, Bool.true_and]
      rcases Bool.or_eq_true _ _ ▸ z5 with h | h
      · have : ds.all hasItem = true := List.all_eq_true.mpr fun x hx => List.all_eq_true.mp h x (inn x hx)
        rw [this]
        rfl
      · have len : ds.length ≤ 1 := by
          have := of_decide_eq_true h
          have := pm.length_eq
          omega
        cases ds with
        | nil => rfl
        | cons x ds =>
          cases ds with
          | nil =>
            obtain ⟨ys, rfl⟩ := tup x (inn x List.mem_cons_self)
            cases ys <;> rfl
          | cons y ds => simp at len
    · have := List.all_eq_true.mp (List.all_eq_true.mp z6 x hx) y hy
      simp only [Bool.or_eq_true] at this
      simp only [leD, Bool.not_eq_true'] at h1 h2
      rcases this with (h | h) | h
      · exact same_eq h
      · rw [h2] at h; cases h
      · rw [h1] at h; cases h
  · cases e
/-- the items as tuples in the heap, each with its key -/
theorem nest_pairs {b : Bool} {F : Hp} : ∀ {xs : List PyData} {ks : List NestedKey} {ws : List V}, keysD b xs = some ks → (∀ x ∈ xs, ∃ ys, x = .tuple ys) → RpL F xs ws → (∀ k ∈ ks, k.depth ≤ 8) →
    ∃ ps : List (Addr × NestedKey × PyData), ws = ps.map (fun p => V.ref p.1) ∧ ps.map (·.2.2) = xs ∧ ∀ p ∈ ps, keyD b p.2.2 = some p.2.1 ∧ p.2.1.depth ≤ 8 ∧ Rp F p.2.2 (.ref p.1)
  | [], ks, ws, _, _, h, _ => ⟨[], RpL.nil_iff.mp h, rfl, fun p hp => (by cases hp)⟩
  | x :: xs, ks, ws, e, t, h, d => by
    obtain ⟨k, r, e1, e2, rfl⟩ := keysD_cons e
    obtain ⟨v, vr, rfl, h1, h2⟩ := RpL.cons_iff.mp h
    obtain ⟨ps, p1, p2, p3⟩ := nest_pairs e2 (fun y hy => t y (List.mem_cons_of_mem _ hy)) h2 fun k hk => d k (List.mem_cons_of_mem _ hk)
    obtain ⟨ys, rfl⟩ := t x List.mem_cons_self
    have h1' := h1
    obtain ⟨a, vs, rfl, -, -⟩ := Rp.tuple_iff.mp h1'
    refine ⟨(a, k, .tuple ys) :: ps, by rw [p1]; rfl, by rw [← p2]; rfl, fun p hp => ?_⟩
    rcases List.mem_cons.mp hp with rfl | hp
    · exact ⟨e1, d k List.mem_cons_self, h1⟩
    · exact p3 p hp
open Classical in
/-- the datum at an address -/
noncomputable def datA (ps : List (Addr × NestedKey × PyData)) (a : Addr) : PyData := if h : ∃ p ∈ ps, p.1 = a then h.choose.2.2 else .none
theorem datA_eq {b : Bool} {F : Hp} {ps : List (Addr × NestedKey × PyData)} (h : ∀ p ∈ ps, keyD b p.2.2 = some p.2.1 ∧ p.2.1.depth ≤ 8 ∧ Rp F p.2.2 (.ref p.1)) {p : Addr × NestedKey × PyData} (hp : p ∈ ps) : datA ps p.1 = p.2.2 := by
  have ex : ∃ q ∈ ps, q.1 = p.1 := ⟨p, hp, rfl⟩
  unfold datA
  rw [dif_pos ex]
  obtain ⟨c1, c2⟩ := ex.choose_spec
  obtain ⟨a1, a2, a3⟩ := h _ c1
  obtain ⟨b1, b2, b3⟩ := h _ hp
  rw [c2] at a3
  exact rp_uniq _ _ _ _ _ a1 b1 a3 b3
section
variable {X : Cx}
/-- all that the two calls want -/
theorem nest_calls {F H : Hp} {l : Addr} {xs : List PyData} {ws : List V} {r : R} {Q : VK} (e : nestO xs = some r) (sb : Sub F (dn H)) (h1 : SqL X.K H l ws) (h2 : RpL F xs ws) (nF : ∀ a, H a = none → F a = none)
    (fin : ∀ a o p vs, H a = none → (∃ L, o = NSetO X.w a L) → upd H a o p = none → RpL F (sortD (nub xs)) vs → Q (.ref p) (upd (upd H a o) p (.lst vs))) :
    rSetK X.K X.w [.ref l] H fun x H' => rSortedK X.w [x] H' Q := by
  obtain ⟨-, tup, ⟨b, ks, kb, kd⟩, few, so, tri⟩ := nestO_i e
  obtain ⟨n1, n2⟩ := nub_ok kb
  obtain ⟨ps, p1, p2, p3⟩ := nest_pairs kb tup h2 kd
  have dat : ∀ p ∈ ps, datA ps p.1 = p.2.2 := fun p hp => datA_eq p3 hp
  refine ⟨F, b, l, ps.map fun p => (p.1, p.2.1), datA ps, (nub xs).map fun x => (keyD b x).getD .none, rfl, sb, ?_, fun p hp => ?_, by rw [List.length_map]; exact few, fun p hp => ?_, fun a L ha hL hK nd => ?_⟩
  · rw [List.map_map]
    rw [p1] at h1
    exact h1
  · obtain ⟨q, hq, rfl⟩ := List.mem_map.mp hp
    obtain ⟨a1, a2, a3⟩ := p3 q hq
    show keyD b (datA ps q.1) = some q.2.1 ∧ q.2.1.depth ≤ 8 ∧ Rp F (datA ps q.1) (.ref q.1)
    rw [dat q hq]
    exact ⟨a1, a2, a3⟩
  · obtain ⟨q, hq, rfl⟩ := List.mem_map.mp hp
    refine List.mem_map.mpr ⟨q.2.2, (n2 _).mpr (by rw [← p2]; exact List.mem_map.mpr ⟨q, hq, rfl⟩), ?_⟩
    rw [(p3 q hq).1]
    rfl
  · have nA : ∀ {x o}, F x = some o → x ≠ a := fun h z => by
      rw [z, nF a ha] at h
      cases h
    have each : ∀ p ∈ L, keyD b (datA ps p.1) = some p.2 ∧ p.2.depth ≤ 8 ∧ Rp F (datA ps p.1) (.ref p.1) ∧ datA ps p.1 ∈ xs := fun p hp => by
      obtain ⟨q, hq, rfl⟩ := List.mem_map.mp (hL p hp)
      obtain ⟨a1, a2, a3⟩ := p3 q hq
      show keyD b (datA ps q.1) = some q.2.1 ∧ q.2.1.depth ≤ 8 ∧ Rp F (datA ps q.1) (.ref q.1) ∧ datA ps q.1 ∈ xs
      rw [dat q hq]
      exact ⟨a1, a2, a3, by rw [← p2]; exact List.mem_map.mpr ⟨q, hq, rfl⟩⟩
    have pm : (L.map fun p => datA ps p.1).Perm (nub xs) := by
      refine (List.perm_ext_iff_of_nodup ?_ n1).mpr fun x => ?_
      · refine List.pairwise_map.mpr ((List.pairwise_map.mp nd).imp_of_mem fun {p q} hp hq ne z => ne ?_)
        have a1 := (each p hp).1
        rw [z, (each q hq).1] at a1
        exact (Option.some.inj a1).symm
      · rw [n2]
        constructor
        · intro hx
          obtain ⟨p, hp, rfl⟩ := List.mem_map.mp hx
          exact (each p hp).2.2.2
        · intro hx
          rw [← p2] at hx
          obtain ⟨q, hq, rfl⟩ := List.mem_map.mp hx
          obtain ⟨p, hp, e⟩ := List.mem_map.mp (hK (q.1, q.2.1) (List.mem_map.mpr ⟨q, hq, rfl⟩))
          refine List.mem_map.mpr ⟨p, hp, ?_⟩
          have a1 := (each p hp).1
          rw [e] at a1
          exact keyD_inj _ _ _ a1 (p3 q hq).1
    refine ⟨F, b, a, L, datA ps, rfl, upd_same, fun x o h => ?_, fun p hp => ⟨(each p hp).1, (each p hp).2.1, (each p hp).2.2.1⟩, fun ds pd => so ds (pd.trans pm), fun ds p vs pd hn rv => ?_⟩
    · rw [dn_ne (nA h)]
      exact sb x o h
    · rw [sortD_same (pd.trans pm) fun x hx y hy => tri x ((n2 x).mp hx) y ((n2 y).mp hy)] at rv
      exact fin a _ p vs ha ⟨L, rfl⟩ hn rv
end
end Mi

/-! Mi: sorted(set(xs)). -/
namespace Mi
open PySem PySem.Spec PyProof.Rows L2
/-! ### in rising order, each once -/
section
variable {α : Type}
theorem mem_insU {c : α → Int} (a x : α) : ∀ l : List α, (∀ y ∈ l, c a = c y → a = y) → (x ∈ insU c a l ↔ x = a ∨ x ∈ l)
  | [], _ => by simp [insU]
  | b :: l, h => by
    unfold insU
    have ih := mem_insU a x l fun y hy => h y (List.mem_cons_of_mem _ hy)
    split
    · rw [List.mem_cons]
    · split
      · rename_i e
        have := h b List.mem_cons_self e
        subst this
        constructor
        · exact .inr
        · rintro (z | z)
          · rw [z]; exact List.mem_cons_self
          · exact z
      · rw [List.mem_cons, ih, List.mem_cons]
        constructor
        · rintro (z | z | z)
          · exact .inr (.inl z)
          · exact .inl z
          · exact .inr (.inr z)
        · rintro (z | z | z)
          · exact .inr (.inl z)
          · exact .inl z
          · exact .inr (.inr z)
theorem insU_up {c : α → Int} {a : α} : ∀ {l : List α}, (∀ y ∈ l, c a = c y → a = y) → l.Pairwise (fun x y => c x < c y) → (insU c a l).Pairwise fun x y => c x < c y
  | [], _, _ => by simp [insU]
  | b :: l, h, p => by
    obtain ⟨p1, p2⟩ := List.pairwise_cons.mp p
    unfold insU
    split
    · rename_i e
      refine List.pairwise_cons.mpr ⟨fun x hx => ?_, p⟩
      rcases List.mem_cons.mp hx with rfl | hx
      · exact e
      · exact Int.lt_trans e (p1 x hx)
    · split
      · exact p
      · rename_i e1 e2
        refine List.pairwise_cons.mpr ⟨fun x hx => ?_, insU_up (fun y hy => h y (List.mem_cons_of_mem _ hy)) p2⟩
        rcases (mem_insU a x l fun y hy => h y (List.mem_cons_of_mem _ hy)).mp hx with rfl | hx
        · omega
        · exact p1 x hx
theorem upU_ok {c : α → Int} : ∀ {l : List α}, (∀ x ∈ l, ∀ y ∈ l, c x = c y → x = y) → (upU c l).Pairwise (fun x y => c x < c y) ∧ ∀ x, x ∈ upU c l ↔ x ∈ l
  | [], _ => ⟨List.Pairwise.nil, fun x => by simp [upU]⟩
  | a :: l, h => by
    obtain ⟨h1, h2⟩ := upU_ok (l := l) fun x hx y hy => h x (List.mem_cons_of_mem _ hx) y (List.mem_cons_of_mem _ hy)
    have g : ∀ y ∈ upU c l, c a = c y → a = y := fun y hy => h a List.mem_cons_self y (List.mem_cons_of_mem _ ((h2 y).mp hy))
    refine ⟨insU_up g h1, fun x => ?_⟩
    rw [upU, mem_insU a x _ g, h2, List.mem_cons]
/-- there is but one such list -/
theorem up_one {c : α → Int} : ∀ {l m : List α}, l.Pairwise (fun x y => c x < c y) → m.Pairwise (fun x y => c x < c y) → (∀ x, x ∈ l ↔ x ∈ m) → l = m
  | [], [], _, _, _ => rfl
  | [], b :: m, _, _, h => absurd ((h b).mpr List.mem_cons_self) (by simp)
  | a :: l, [], _, _, h => absurd ((h a).mp List.mem_cons_self) (by simp)
  | a :: l, b :: m, p, q, h => by
    obtain ⟨p1, p2⟩ := List.pairwise_cons.mp p
    obtain ⟨q1, q2⟩ := List.pairwise_cons.mp q
    have e : a = b := by
      rcases List.mem_cons.mp ((h a).mp List.mem_cons_self) with z | z
      · exact z
      · rcases List.mem_cons.mp ((h b).mpr List.mem_cons_self) with y | y
        · exact y.symm
        · have := p1 b y
          have := q1 a z
          omega
    subst e
    rw [up_one p2 q2 fun x => ?_]
    have nl : a ∉ l := fun z => by have := p1 a z; omega
    have nm : a ∉ m := fun z => by have := q1 a z; omega
    constructor
    · intro z
      rcases List.mem_cons.mp ((h x).mp (List.mem_cons_of_mem _ z)) with y | y
      · exact absurd (y ▸ z) nl
      · exact y
    · intro z
      rcases List.mem_cons.mp ((h x).mpr (List.mem_cons_of_mem _ z)) with y | y
      · exact absurd (y ▸ z) nm
      · exact y
end
theorem code_eq (B : Int) : ∀ l : List Int, codeI B l = TS.code B l
  | [] => rfl
  | d :: r => by rw [codeI, code_eq B r]; rfl
theorem code_inj {B : Int} : ∀ {x y : List Int}, x.length = y.length → TS.Bd B x → TS.Bd B y → TS.code B x = TS.code B y → x = y
  | [], [], _, _, _, _ => rfl
  | [], _ :: _, h, _, _, _ => by simp at h
  | _ :: _, [], h, _, _, _ => by simp at h
  | d :: x, e :: y, h, hx, hy, hc => by
    have hl : x.length = y.length := by simpa using h
    have ed : d = e := by
      rcases Int.lt_trichotomy d e with z | z | z
      · have := TS.code_lt hl hx.tail hy.tail z; omega
      · exact z
      · have := TS.code_lt hl.symm hy.tail hx.tail z; omega
    subst ed
    have hc' : TS.code B x = TS.code B y := by
      rcases Int.lt_trichotomy (TS.code B x) (TS.code B y) with z | z | z
      · have := (TS.code_same (d := d) (B := B) hl).mpr z; omega
      · exact z
      · have := (TS.code_same (d := d) (B := B) hl.symm).mpr z; omega
    rw [code_inj hl hx.tail hy.tail hc']
/-! ### the rules -/
section
variable {G : Ctx} {X : Cx} {N : List Str} {sc : Scope} {C : Cf} {cm : Bool} {er : Nat → V → Prop} {W : WX}
/-- a set of a list of numbers -/
def rSetLI (K : PySem.W.Frag) (w : World) : List V → Hp → VK → Prop := fun xs H Q => ∃ (l : Addr) (ns : List Int), xs = [V.ref l] ∧ SqL K H l (ns.map V.int) ∧ ns.length < 64 ∧ ∀ (a : Addr) (c : Nat), H a = none → c ≤ ns.length → Q (.ref a) (upd H a (SetO w a (fun j => decide (j ∈ ns)) c))
theorem cr_setLI (hc : X.calm = true) : CallR X (.type "set") (rSetLI X.K X.w) := by
  intro pins s σ H xs us Q I r h
  obtain ⟨l, ns, rfl, hl, hn, q⟩ := h
  rw [Vals.ref1 r]
  obtain ⟨its, rv, pl, hz⟩ := I.list hl
  refine set_listI ns (I.ok.hd hc) pl.isList (by simpa using rv.ints) (by unfold scanBound; omega) fun h' tk c R hcn k => ?_
  have hf : H s.heap.objs.size = none := I.hok.fresh (Nat.le_refl _)
  exact ⟨.ref s.heap.objs.size, _, I.laid (t' := tk) k (Nat.le_refl _) (setO_new R), rfl, q _ c hf hcn⟩
/-- a set of a tuple of tuples -/
def rSetTT (K : PySem.W.Frag) (P : Program) (w : World) : List V → Hp → VK → Prop := fun xs H Q => ∃ (l : Addr) (ks : List (Addr × List Int)), xs = [V.ref l] ∧ SqT K H l (ks.map fun p => V.ref p.1) ∧ (∀ p ∈ ks, SqT K H p.1 (p.2.map V.int)) ∧ ks.length < 64 ∧
  ∀ a L, H a = none → (∀ p ∈ L, p ∈ ks) → (∀ p ∈ ks, p.2 ∈ L.map (·.2)) → Q (.ref a) (upd H a (SetTO P w a L))
theorem cr_setTT (hc : X.calm = true) (hu : X.A.units + 64 < cLine) : CallR X (.type "set") (rSetTT X.K X.prog X.w) := by
  intro pins s σ H xs us Q I r h
  obtain ⟨l, ks, rfl, hl, hk, hf, q⟩ := h
  rw [Vals.ref1 r]
  obtain ⟨its, rv, pl, hz⟩ := I.tuple hl
  have hn : H s.heap.objs.size = none := I.hok.fresh (Nat.le_refl _)
  refine set_tupT (P := X.prog) (w := X.w) ks (I.ok.hd hc) (show s.heap.IsTuple l its.toArray from pl) (by simpa using refs_of_vals rv) (fun p hp => I.isT (hk p hp)) hf (by omega) fun h' tk L es ep t R g k => ?_
  refine ⟨.ref s.heap.objs.size, upd H s.heap.objs.size (SetTO X.prog X.w s.heap.objs.size L), I.laid (t' := tk) k (Nat.le_refl _) (setTO_new R.t0), rfl, q _ L hn (fun p hp => ?_) fun p hp => ?_⟩
  · exact List.mem_of_mem_take (g.sub p hp)
  · exact g.all p (by rw [List.take_length]; exact hp)
/-- a set of a list of tuples, few of them distinct -/
def rSetLN (K : PySem.W.Frag) (P : Program) (w : World) : List V → Hp → VK → Prop := fun xs H Q => ∃ (l : Addr) (ks : List (Addr × List Int)) (Dv : List (List Int)), xs = [V.ref l] ∧ SqL K H l (ks.map fun p => V.ref p.1) ∧ (∀ p ∈ ks, SqT K H p.1 (p.2.map V.int)) ∧ Dv.length < 63 ∧ (∀ p ∈ ks, p.2 ∈ Dv) ∧
  ∀ a L, H a = none → (∀ p ∈ L, p ∈ ks) → (∀ p ∈ ks, p.2 ∈ L.map (·.2)) → Q (.ref a) (upd H a (SetTO P w a L))
theorem cr_setLN (hc : X.calm = true) (hu : X.A.units + 64 < cLine) : CallR X (.type "set") (rSetLN X.K X.prog X.w) := by
  intro pins s σ H xs us Q I r h
  obtain ⟨l, ks, Dv, rfl, hl, hk, dl, dk, q⟩ := h
  rw [Vals.ref1 r]
  obtain ⟨its, rv, pl, hz⟩ := I.list hl
  have hn : H s.heap.objs.size = none := I.hok.fresh (Nat.le_refl _)
  refine set_listTN (P := X.prog) (w := X.w) ks (I.ok.hd hc) (show s.heap.IsList l its.toArray from pl.isList) (by simpa using refs_of_vals rv) (fun p hp => I.isT (hk p hp)) Dv dl dk (by omega) fun h' tk L es ep t R g k => ?_
  refine ⟨.ref s.heap.objs.size, upd H s.heap.objs.size (SetTO X.prog X.w s.heap.objs.size L), I.laid (t' := tk) k (Nat.le_refl _) (setTO_new R.t0), rfl, q _ L hn (fun p hp => ?_) fun p hp => ?_⟩
  · exact List.mem_of_mem_take (g.sub p hp)
  · exact g.all p (by rw [List.take_length]; exact hp)
/-- .. of numbers, or of tuples -/
def rSetAny (K : PySem.W.Frag) (P : Program) (w : World) : List V → Hp → VK → Prop := fun xs H Q => rSetLI K w xs H Q ∨ rSetOfT K P w xs H Q ∨ rSetTT K P w xs H Q ∨ rSetLN K P w xs H Q ∨ rSetK K w xs H Q
theorem cr_setAny (hc : X.calm = true) (hu : X.A.units + 64 < cLine) : CallR X (.type "set") (rSetAny X.K X.prog X.w) := fun pins s σ H xs us Q I r h => by
  rcases h with h | h | h | h | h
  · exact cr_setLI hc pins s σ H xs us Q I r h
  · exact cr_setOfT hc hu pins s σ H xs us Q I r h
  · exact cr_setTT hc hu pins s σ H xs us Q I r h
  · exact cr_setLN hc hu pins s σ H xs us Q I r h
  · exact cr_setK hc hu pins s σ H xs us Q I r h
def rSortAny (K : PySem.W.Frag) (P : Program) (w : World) : List V → Hp → VK → Prop := fun xs H Q => rSortedSet w xs H Q ∨ rSortedT K P w xs H Q ∨ rSortedK w xs H Q
theorem cr_sortAny (hc : X.calm = true) (hu : X.A.units + 200 < cLine) : CallR X (.builtin "sorted") (rSortAny X.K X.prog X.w) := fun pins s σ H xs us Q I r h => by
  rcases h with h | h | h
  · exact cr_sortedSet hc pins s σ H xs us Q I r h
  · exact cr_sortedT hc pins s σ H xs us Q I r h
  · exact cr_sortedK hc hu pins s σ H xs us Q I r h
/-- items that are tuples of numbers -/
theorem tupsD_vs {F : Hp} : ∀ {xs : List PyData} {ts : List (List Int)} {vs : List V}, tupsD xs = some ts → RpL F xs vs → ∃ ks : List (Addr × List Int), vs = ks.map (fun p => V.ref p.1) ∧ ks.map (·.2) = ts ∧ ∀ p ∈ ks, F p.1 = some (.tup (p.2.map V.int))
  | [], ts, vs, e, h => by
    simp only [tupsD, Option.some.injEq] at e
    subst e
    exact ⟨[], RpL.nil_iff.mp h, rfl, by simp⟩
  | .tuple ys :: xs, ts, vs, e, h => by
    simp only [tupsD] at e
    cases q1 : intsD ys with
    | none => rw [q1] at e; cases e
    | some is =>
      cases q2 : tupsD xs with
      | none => rw [q1, q2] at e; cases e
      | some us =>
        rw [q1, q2] at e
        cases e
        obtain ⟨v, r, rfl, h1, h2⟩ := RpL.cons_iff.mp h
        obtain ⟨a, ws, rfl, h3, h4⟩ := Rp.tuple_iff.mp h1
        obtain ⟨ks, k1, k2, k3⟩ := tupsD_vs q2 h2
        refine ⟨(a, is) :: ks, by rw [k1]; rfl, by rw [← k2]; rfl, fun p hp => ?_⟩
        rcases List.mem_cons.mp hp with rfl | hp
        · rw [← intsD_vs q1 h4]; exact h3
        · exact k3 p hp
  | .none :: xs, ts, vs, e, h | .bool _ :: xs, ts, vs, e, h | .int _ :: xs, ts, vs, e, h | .str _ :: xs, ts, vs, e, h | .list _ :: xs, ts, vs, e, h | .dict _ :: xs, ts, vs, e, h => by simp [tupsD] at e
theorem ints_rp {F : Hp} : ∀ is : List Int, RpL F (is.map .int) (is.map V.int)
  | [] => RpL.nil_iff.mpr rfl
  | i :: is => .cons rp_int (ints_rp is)
theorem tups_rp {F : Hp} : ∀ {L : List (Addr × List Int)}, (∀ p ∈ L, F p.1 = some (.tup (p.2.map V.int))) → RpL F (L.map fun p => .tuple (p.2.map .int)) (L.map fun p => V.ref p.1)
  | [], _ => RpL.nil_iff.mpr rfl
  | p :: L, h => .cons (Rp.tuple_iff.mpr ⟨p.1, _, rfl, h p List.mem_cons_self, ints_rp _⟩) (tups_rp fun q hq => h q (List.mem_cons_of_mem _ hq))
theorem tupsOk_i {ts : List (List Int)} (h : tupsOk ts = true) : ts.length < 64 ∧ ∃ d, 1 ≤ d ∧ ∀ t ∈ ts, t.length = d ∧ TS.Bd 64 t := by
  unfold tupsOk at h
  simp only [Bool.and_eq_true, decide_eq_true_eq, List.all_eq_true] at h
  obtain ⟨⟨h1, h2⟩, h3⟩ := h
  refine ⟨h1, (ts.headD []).length, h2, fun t ht => ?_⟩
  obtain ⟨g1, g2⟩ := h3 t ht
  exact ⟨g1, fun m hm => g2 m hm⟩
theorem tupsOkL_i {ts : List (List Int)} (h : tupsOkL ts = true) : (upU (codeI 64) ts).length < 63 ∧ ∃ d, 1 ≤ d ∧ ∀ t ∈ ts, t.length = d ∧ TS.Bd 64 t := by
  unfold tupsOkL at h
  simp only [Bool.and_eq_true, decide_eq_true_eq, List.all_eq_true] at h
  obtain ⟨⟨h1, h2⟩, h3⟩ := h
  refine ⟨h1, (ts.headD []).length, h2, fun t ht => ?_⟩
  obtain ⟨g1, g2⟩ := h3 t ht
  exact ⟨g1, fun m hm => g2 m hm⟩
theorem s_sortedSet (hx : XOk G X N sc C cm er W) (hc : cm = true) {a : E} {y : Expr} {p p2 p3 p4 : Pos} (hg : glOk sc "sorted" = true) (hbt : ("sorted" : Str) ∈ G.bt) (hg2 : glOk sc "set" = true) (hbt2 : ("set" : Str) ∈ G.bt) (ns : noStar y = true) (ha : PE X y (tE X.K er G W C a)) :
    PE X (.Call (.Name "sorted" p) [.Call (.Name "set" p2) [y] [] p3] [] p4) (tE X.K er G W C (.bi .sortedSet (.cons a .nil))) := by
  have cl := hx.calm hc
  have hu := hx.hu
  refine pe_imp (pe_callB (id := "sorted") (cr_sortAny cl (by omega)) (glOk_i hx hg).1 (hx.bt _ hbt) (by decide +kernel) (pa_cons (pe_callTy (T := "set") (cr_setAny cl (by omega)) (glOk_i hx hg2).1 (hx.bt _ hbt2) (by decide +kernel) (pa_cons ha pa_nil (starE ns)) (by decide) (by decide) (starE ns) (star_plain (fun _ z => nomatch z))) pa_nil (starE (by rfl))) (by decide) (by decide) (starE (by rfl)) (star_plain (fun _ z => nomatch z))) fun σ H Q ⟨m, F, env, hs, s, q⟩ => ?_
  simp only [evalE, evalL] at q
  refine sub_E (.refl s.c) s (Post.asc q) fun r1 m1 F1 H1 hs1 v1 f1 _ s1 rv1 q1 => ?_
  simp only [Res.bind_ok, biO, oneO] at q1
  obtain ⟨r, e, q2⟩ := post_of q1
  unfold sortedSetO at e
  split at e
  · rename_i xs hl
    obtain ⟨b, ws, rfl, h1, h2⟩ := look_lk f1.2 rv1 hl
    have nested : nestO xs = some r → rSetAny X.K X.prog X.w [.ref b] H1 fun x H' => rSortAny X.K X.prog X.w [x] H' Q := fun e => by
      have er := (nestO_i e).1
      subst er
      obtain ⟨F2, b2, l2, ks, D, Dv, n1, n2, n3, n4, n5, n6, n7⟩ := nest_calls (X := X) (Q := Q) e f1.2.frz (SqL.of h1) h2 (fun a ha => f1.2.fnone ha) fun a o p vs ha hO hn rv => by
        obtain ⟨L, rfl⟩ := hO
        obtain ⟨c2, x2⟩ := f1.2.new (o := NSetO X.w a L) ha
        have f2 : Fin m F H hs1 m1 F1 (upd H1 a (NSetO X.w a L)) := f1.trans ⟨x2, c2⟩
        exact q2.give f2 ⟨p, _, rfl, hn, rfl, rv⟩
      exact .inr (.inr (.inr (.inr ⟨F2, b2, l2, ks, D, Dv, n1, n2, n3, n4, n5, n6, fun a L ha hL hK nd => .inr (.inr (n7 a L ha hL hK nd))⟩)))
    split at e
    · rename_i is hi
      split at e
      · rename_i hz
        cases e
        have := intsD_vs hi h2
        subst this
        refine .inl ⟨b, is, rfl, SqL.of h1, hz, fun a c ha hcn => .inl ⟨a, _, c, rfl, upd_same, by omega, fun ns p hp hm hl2 hn => ?_⟩⟩
        have np : H1 p = none := by
          by_cases z : p = a
          · rw [z]; exact ha
          · rw [upd_ne z] at hn; exact hn
        obtain ⟨u1, u2⟩ := upU_ok (c := id) (l := is) fun x _ y _ e => e
        have eu : ns = upU id is := up_one (c := id) hp u1 fun x => by
          rw [hm x, u2 x]
          simp
        obtain ⟨c2, x2⟩ := f1.2.new (o := SetO X.w a (fun j => decide (j ∈ is)) c) ha
        have f2 : Fin m F H hs1 m1 F1 (upd H1 a (SetO X.w a (fun j => decide (j ∈ is)) c)) := f1.trans ⟨x2, c2⟩
        exact q2.give f2 ⟨p, _, rfl, hn, rfl, by rw [← eu]; exact ints_rp ns⟩
      · cases e
    · split at e
      · rename_i ts ht
        split at e
        · rename_i hz
          cases e
          obtain ⟨ks, k1, k2, k3⟩ := tupsD_vs ht h2
          subst k1
          obtain ⟨z1, d, hd, z2⟩ := tupsOk_i hz
          have hks : ks.length = ts.length := by rw [← k2, List.length_map]
          have kin : ∀ p ∈ ks, p.2 ∈ ts := fun p hp => by rw [← k2]; exact List.mem_map.mpr ⟨p, hp, rfl⟩
          refine .inr (.inl ⟨b, ks, rfl, SqL.of h1, fun p hp => SqT.dn (f1.2.frz _ _ (k3 p hp)), by omega, fun a L ha hL hK => ?_⟩)
          have nF : F1 a = none := f1.2.fnone ha
          have neA : ∀ p ∈ L, p.1 ≠ a := fun p hp z => by
            have := k3 p (hL p hp)
            rw [z, nF] at this
            cases this
          refine .inr (.inl ⟨a, L, d, 64, rfl, upd_same, fun p hp => SqT.dn (by rw [dn_ne (neA p hp)]; exact f1.2.frz _ _ (k3 p (hL p hp))), hd, fun p hp => z2 p.2 (kin p (hL p hp)), fun L' p pm nd _ pw hn => ?_⟩)
          have inL : ∀ q ∈ L', q ∈ ks := fun q hq => hL q (pm.mem_iff.mp hq)
          have inj : ∀ x ∈ ts, ∀ y ∈ ts, codeI 64 x = codeI 64 y → x = y := fun x hx y hy e => by
            rw [code_eq, code_eq] at e
            exact code_inj ((z2 x hx).1.trans (z2 y hy).1.symm) (z2 x hx).2 (z2 y hy).2 e
          obtain ⟨u1, u2⟩ := upU_ok (c := codeI 64) inj
          have eu : L'.map (·.2) = upU (codeI 64) ts := up_one (c := codeI 64) (by
            have p1 := List.pairwise_map.mp (List.nodup_iff_pairwise_ne.mp nd)
            refine List.pairwise_map.mpr ((List.Pairwise.and p1 pw).imp_of_mem fun {x y} hx hy z => ?_)
            have hne : codeI 64 x.2 ≠ codeI 64 y.2 := fun e => z.1 (inj _ (kin x (inL x hx)) _ (kin y (inL y hy)) e)
            have := z.2
            rw [← code_eq, ← code_eq] at this
            omega) u1 fun x => by
            rw [u2]
            constructor
            · intro hx
              obtain ⟨q, hq, rfl⟩ := List.mem_map.mp hx
              exact kin q (inL q hq)
            · intro hx
              rw [← k2] at hx
              obtain ⟨q, hq, rfl⟩ := List.mem_map.mp hx
              obtain ⟨q', hq', e⟩ := List.mem_map.mp (hK q hq)
              exact List.mem_map.mpr ⟨q', pm.mem_iff.mpr hq', e⟩
          obtain ⟨c2, x2⟩ := f1.2.new (o := SetTO X.prog X.w a L) ha
          have f2 : Fin m F H hs1 m1 F1 (upd H1 a (SetTO X.prog X.w a L)) := f1.trans ⟨x2, c2⟩
          refine q2.give f2 ⟨p, _, rfl, hn, rfl, ?_⟩
          have := tups_rp (F := F1) (L := L') fun q hq => k3 q (inL q hq)
          rw [show (L'.map fun p => PyData.tuple (p.2.map .int)) = (upU (codeI 64) ts).map fun t => .tuple (t.map .int) by rw [← eu, List.map_map]; rfl] at this
          exact this
        · split at e
          · rename_i hz
            cases e
            obtain ⟨ks, k1, k2, k3⟩ := tupsD_vs ht h2
            subst k1
            obtain ⟨z1, d, hd, z2⟩ := tupsOkL_i hz
            have hks : ks.length = ts.length := by rw [← k2, List.length_map]
            have kin : ∀ p ∈ ks, p.2 ∈ ts := fun p hp => by rw [← k2]; exact List.mem_map.mpr ⟨p, hp, rfl⟩
            have inj0 : ∀ x ∈ ts, ∀ y ∈ ts, codeI 64 x = codeI 64 y → x = y := fun x hx y hy e => by
              rw [code_eq, code_eq] at e
              exact code_inj ((z2 x hx).1.trans (z2 y hy).1.symm) (z2 x hx).2 (z2 y hy).2 e
            have dk0 : ∀ p ∈ ks, p.2 ∈ upU (codeI 64) ts := fun p hp => ((upU_ok (c := codeI 64) inj0).2 p.2).mpr (kin p hp)
            refine .inr (.inr (.inr (.inl ⟨b, ks, upU (codeI 64) ts, rfl, SqL.of h1, fun p hp => SqT.dn (f1.2.frz _ _ (k3 p hp)), z1, dk0, fun a L ha hL hK => ?_⟩)))
            have nF : F1 a = none := f1.2.fnone ha
            have neA : ∀ p ∈ L, p.1 ≠ a := fun p hp z => by
              have := k3 p (hL p hp)
              rw [z, nF] at this
              cases this
            refine .inr (.inl ⟨a, L, d, 64, rfl, upd_same, fun p hp => SqT.dn (by rw [dn_ne (neA p hp)]; exact f1.2.frz _ _ (k3 p (hL p hp))), hd, fun p hp => z2 p.2 (kin p (hL p hp)), fun L' p pm nd _ pw hn => ?_⟩)
            have inL : ∀ q ∈ L', q ∈ ks := fun q hq => hL q (pm.mem_iff.mp hq)
            have inj : ∀ x ∈ ts, ∀ y ∈ ts, codeI 64 x = codeI 64 y → x = y := fun x hx y hy e => by
              rw [code_eq, code_eq] at e
              exact code_inj ((z2 x hx).1.trans (z2 y hy).1.symm) (z2 x hx).2 (z2 y hy).2 e
            obtain ⟨u1, u2⟩ := upU_ok (c := codeI 64) inj
            have eu : L'.map (·.2) = upU (codeI 64) ts := up_one (c := codeI 64) (by
              have p1 := List.pairwise_map.mp (List.nodup_iff_pairwise_ne.mp nd)
              refine List.pairwise_map.mpr ((List.Pairwise.and p1 pw).imp_of_mem fun {x y} hx hy z => ?_)
              have hne : codeI 64 x.2 ≠ codeI 64 y.2 := fun e => z.1 (inj _ (kin x (inL x hx)) _ (kin y (inL y hy)) e)
              have := z.2
              rw [← code_eq, ← code_eq] at this
              omega) u1 fun x => by
              rw [u2]
              constructor
              · intro hx
                obtain ⟨q, hq, rfl⟩ := List.mem_map.mp hx
                exact kin q (inL q hq)
              · intro hx
                rw [← k2] at hx
                obtain ⟨q, hq, rfl⟩ := List.mem_map.mp hx
                obtain ⟨q', hq', e⟩ := List.mem_map.mp (hK q hq)
                exact List.mem_map.mpr ⟨q', pm.mem_iff.mpr hq', e⟩
            obtain ⟨c2, x2⟩ := f1.2.new (o := SetTO X.prog X.w a L) ha
            have f2 : Fin m F H hs1 m1 F1 (upd H1 a (SetTO X.prog X.w a L)) := f1.trans ⟨x2, c2⟩
            refine q2.give f2 ⟨p, _, rfl, hn, rfl, ?_⟩
            have := tups_rp (F := F1) (L := L') fun q hq => k3 q (inL q hq)
            rw [show (L'.map fun p => PyData.tuple (p.2.map .int)) = (upU (codeI 64) ts).map fun t => .tuple (t.map .int) by rw [← eu, List.map_map]; rfl] at this
            exact this
          · exact nested e
      · exact nested e
  · rename_i xs hl
    obtain ⟨b, ws, rfl, h1, h2⟩ := Rp.tuple_iff.mp (look_lk f1.2 rv1 hl)
    split at e
    · rename_i ts ht
      split at e
      · rename_i hz
        cases e
        obtain ⟨ks, k1, k2, k3⟩ := tupsD_vs ht h2
        subst k1
        obtain ⟨z1, d, hd, z2⟩ := tupsOk_i hz
        have hks : ks.length = ts.length := by rw [← k2, List.length_map]
        have kin : ∀ p ∈ ks, p.2 ∈ ts := fun p hp => by rw [← k2]; exact List.mem_map.mpr ⟨p, hp, rfl⟩
        refine .inr (.inr (.inl ⟨b, ks, rfl, SqT.dn (f1.2.frz _ _ h1), fun p hp => SqT.dn (f1.2.frz _ _ (k3 p hp)), by omega, fun a L ha hL hK => ?_⟩))
        have nF : F1 a = none := f1.2.fnone ha
        have neA : ∀ p ∈ L, p.1 ≠ a := fun p hp z => by
          have := k3 p (hL p hp)
          rw [z, nF] at this
          cases this
        refine .inr (.inl ⟨a, L, d, 64, rfl, upd_same, fun p hp => SqT.dn (by rw [dn_ne (neA p hp)]; exact f1.2.frz _ _ (k3 p (hL p hp))), hd, fun p hp => z2 p.2 (kin p (hL p hp)), fun L' p pm nd _ pw hn => ?_⟩)
        have inL : ∀ q ∈ L', q ∈ ks := fun q hq => hL q (pm.mem_iff.mp hq)
        have inj : ∀ x ∈ ts, ∀ y ∈ ts, codeI 64 x = codeI 64 y → x = y := fun x hx y hy e => by
          rw [code_eq, code_eq] at e
          exact code_inj ((z2 x hx).1.trans (z2 y hy).1.symm) (z2 x hx).2 (z2 y hy).2 e
        obtain ⟨u1, u2⟩ := upU_ok (c := codeI 64) inj
        have eu : L'.map (·.2) = upU (codeI 64) ts := up_one (c := codeI 64) (by
          have p1 := List.pairwise_map.mp (List.nodup_iff_pairwise_ne.mp nd)
          refine List.pairwise_map.mpr ((List.Pairwise.and p1 pw).imp_of_mem fun {x y} hx hy z => ?_)
          have hne : codeI 64 x.2 ≠ codeI 64 y.2 := fun e => z.1 (inj _ (kin x (inL x hx)) _ (kin y (inL y hy)) e)
          have := z.2
          rw [← code_eq, ← code_eq] at this
          omega) u1 fun x => by
          rw [u2]
          constructor
          · intro hx
            obtain ⟨q, hq, rfl⟩ := List.mem_map.mp hx
            exact kin q (inL q hq)
          · intro hx
            rw [← k2] at hx
            obtain ⟨q, hq, rfl⟩ := List.mem_map.mp hx
            obtain ⟨q', hq', e⟩ := List.mem_map.mp (hK q hq)
            exact List.mem_map.mpr ⟨q', pm.mem_iff.mpr hq', e⟩
        obtain ⟨c2, x2⟩ := f1.2.new (o := SetTO X.prog X.w a L) ha
        have f2 : Fin m F H hs1 m1 F1 (upd H1 a (SetTO X.prog X.w a L)) := f1.trans ⟨x2, c2⟩
        refine q2.give f2 ⟨p, _, rfl, hn, rfl, ?_⟩
        have := tups_rp (F := F1) (L := L') fun q hq => k3 q (inL q hq)
        rw [show (L'.map fun p => PyData.tuple (p.2.map .int)) = (upU (codeI 64) ts).map fun t => .tuple (t.map .int) by rw [← eu, List.map_map]; rfl] at this
        exact this
      · cases e
    · cases e
  · cases e
end
end Mi

/-! Mi: enumerate(t), t a tuple. -/
namespace Mi
open PySem PySem.Spec PyProof.Rows L2

theorem meets_enum1 {v : Value} {o : Obj} {Hyp : Heap → Prop} (B : Begins v o Hyp) : Meets (Builtin.«enumerate.__new__» ⟨[.type "enumerate", v], []⟩) (fun _ R s => Hyp s.heap ∧
    R (.ok (.ret (.ref (s.heap.push o).objs.size))) { s with heap := (s.heap.push o).push { cls := .type "enumerate", data := .fields #[.none, .bool false, .ref s.heap.objs.size, rawInt 0, .none, .none] } }) :=
  .of_wp fun prog w A R s h => by
    obtain ⟨hp, gs, dr, tk, os⟩ := s
    obtain ⟨h1, h2⟩ := h
    have hsub := sub_enumerate
    have it : ∀ {A' : Around} {E : Value → Shared → Prop} {Q : Value → Shared → Prop}, Q (.ref hp.objs.size) ⟨hp.push o, gs, dr, tk, os⟩ → wpAny (model prog w) A' (pyIter v) Q E ⟨hp, gs, dr, tk, os⟩ := fun q => B.iter prog w _ _ _ _ h1 q
    wp_walk using it
    refine wpAny_stack_any fun st => wpAny_pure ?_
    split
    · rename_i c _ _ _ _ _
      cases hc : (c == Value.type "enumerate") <;> (wp_walk using it; exact ⟨_, rfl, h2⟩)
    · wp_walk using it
      exact ⟨_, rfl, h2⟩
section
variable {prog : Program} {w : World} {A : Around} {E : Value → Shared → Prop} {s : Shared}
theorem call_enum_tup {t : Addr} {items : Array Value} {Q : Value → Shared → Prop} (ht : s.heap.IsTuple t items)
    (h : ∀ h', IsEnum h' (s.heap.objs.size + 1) s.heap.objs.size 0 .none → h'.IsTupleIter s.heap.objs.size t 0 → (∀ b o, s.heap.get? b = some o → h'.get? b = some o) → Q (.ref (s.heap.objs.size + 1)) { s with heap := h' }) :
    wpAny (model prog w) A (call (.type "enumerate") [.ref t]) Q E s := by
  have B := begins_tuple t items
  refine callType_new F.called_enumerate (by decide) (F.typeCall_enumerate_1 _) (F.newCall_enumerate_1 _) (fun obj => F.args_object_init_2 obj _) F.entry_enumerate_new (meets_enum1 B) ⟨ht, ?_⟩
  generalize hi : ({ cls := .type "tuple_iterator", data := .fields #[.ref t, .int 0 0] } : Obj) = ito at B
  generalize ho : ({ cls := .type "enumerate", data := .fields #[.none, .bool false, .ref s.heap.objs.size, rawInt 0, .none, .none] } : Obj) = eno
  have fr : eno.isFreed = false := by rw [← ho]; rfl
  have e1 : ((s.heap.push ito).push eno).get? (s.heap.push ito).objs.size = some eno := Heap.get?_push_size _ fr
  have e2 : ((s.heap.push ito).push eno).get? s.heap.objs.size = some ito := Heap.get?_push_of_some _ (Heap.get?_push_size _ B.free)
  have hz : (s.heap.push ito).objs.size = s.heap.objs.size + 1 := Heap.size_push ..
  rw [hz] at e1 ⊢
  refine ⟨⟨eno, e1, by rw [← ho]⟩, h _ (by rw [← ho] at e1 ⊢; exact e1) ⟨ito, e2, by rw [← hi], by rw [← hi]; rfl⟩ fun b o x => Heap.get?_push_of_some _ (Heap.get?_push_of_some _ x)⟩
end
/-- the tuple at a, its items in new pairs with their places -/
def IteT (K : PySem.W.Frag) (a : Addr) : It :=
  ⟨fun i H => ∃ (xs : List V) (x : V), SqT K H a xs ∧ xs[i]? = some x, fun i H v H' => ∃ (T : Addr) (x : V) (o : Obj), v = .ref T ∧ H T = none ∧ o.dict = none ∧ H' = upd H T (.frz o (.tup [.int (i : Nat), x])) ∧ ∀ xs, SqT K H a xs → xs[i]? = some x, fun i H => ∃ xs : List V, SqT K H a xs ∧ i = xs.length⟩
theorem turn_enumT {P : Program} {w : World} {K : PySem.W.Frag} {elts : List Expr} {kk : Nat} {tpos : Pos} (a e it : Addr) (hai : a ≠ it) :
    Turn P w K (.Tuple elts kk tpos) (IteT K a) [e, it] e (fun i h => (∃ old, IsEnum h e it ((i : Nat) : Int) old) ∧ h.IsTupleIter it a i ∧ e ≠ it ∧ a ≠ e) where
  mem := List.mem_cons_self
  obj := fun i h ⟨⟨old, he⟩, ⟨o, ho, hc, hd⟩, _⟩ b hb => by
    rcases List.mem_cons.mp hb with rfl | hb
    · exact ⟨_, he, fun v q => nomatch q⟩
    · rw [List.mem_singleton.mp hb]
      exact ⟨o, ho, fun v q => by rw [hd] at q; cases q⟩
  keep := fun i h h' ⟨⟨old, he⟩, hi, hne⟩ k => ⟨⟨old, k e (by simp) _ he⟩, hi.at fun o q => k it (by simp) o q, hne⟩
  item := by
    intro X hP hw hK hc i pins s σ H E I hf ⟨⟨old, he⟩, hit, hne, hae⟩ ⟨xs, x, hq, hx⟩
    subst hP hw hK
    obtain ⟨its, rv, p, hz⟩ := I.tuple hq
    obtain ⟨u, hu, ru⟩ := rv.get hx
    have le : e < s.heap.objs.size := Heap.lt_size he
    have li : it < s.heap.objs.size := let ⟨_, q, _⟩ := hit; Heap.lt_size q
    have hlt : i < its.toArray.size := by
      rw [List.size_toArray]
      exact (List.getElem?_eq_some_iff.mp hu).1
    have D := Draws.tuple (prog := X.prog) (w := X.w) (A := X.A.in1) (I.ok.hd hc) it a hai its.toArray
    refine wpAny_pyNext_enum_itemD D he ⟨hit, p⟩ hlt hne (by simp [hne, Ne.symm hae]) fun y h1 tk hy ho st hT hsz hk => ?_
    have : y = u := by
      have hy' : its[i]? = some y := by simpa using hy
      rw [hu] at hy'
      exact (Option.some.inj hy').symm
    subst this
    refine ⟨_, rfl, wpAny_letOwnedTupleGo_enum (s := { s with heap := h1, toks := tk + 1 }) ho fun h2 he2 sb => ?_⟩
    have away : ∀ b o, b ≠ e → b ≠ it → s.heap.get? b = some o → h2.get? b = some o := fun b o b1 b2 q => (sb.2 b b1).trans (hk b o b1 b2 q)
    have hT2 : h2.get? s.heap.objs.size = some { cls := .type "tuple", data := .seq #[.int i tk, y] } := (sb.2 _ (Nat.ne_of_gt le)).trans hT
    have I1 : Inv X pins σ (upd H s.heap.objs.size (.frz { cls := .type "tuple", data := .seq #[.int i tk, y] } (.tup [.int (i : Nat), x]))) { s with heap := h2, toks := tk + 1 } :=
      I.turnedNew (ch := [e, it]) (fun b ob hb q => away b ob (fun z => hb (by simp [z])) (fun z => hb (by simp [z])) q) hf (Nat.le_refl _)
        ⟨hT2, by show 2 ≤ sizeLine; decide, [.int i tk, y], .cons ⟨_, rfl⟩ (.cons ru .nil), _, hT2, rfl, _, rfl⟩
    refine ⟨.ref s.heap.objs.size, _, I1, rfl, ⟨_, x, _, rfl, I.hok.fresh (Nat.le_refl _), rfl, rfl, fun ys hy => by rw [I.tuple_inj hy hq]; exact hx⟩, ⟨⟨y, ?_⟩, st.1.at fun o q => (sb.2 it (Ne.symm hne)).trans q, hne, hae⟩, fun b hb => ?_⟩
    · have e1 : ((i + 1 : Nat) : Int) = (i : Int) + 1 := by omega
      rw [e1]
      exact he2
    · have : b ≠ s.heap.objs.size := by
        rcases List.mem_cons.mp hb with rfl | hb
        · exact Nat.ne_of_lt le
        · rw [List.mem_singleton.mp hb]
          exact Nat.ne_of_lt li
      rw [upd_ne this]
      exact (hf b hb).1
  done := by
    intro X hP hw hK hc i pins s σ H E I hf ⟨⟨old, he⟩, hit, hne, hae⟩ ⟨xs, hq, hi⟩
    subst hP hw hK
    obtain ⟨its, rv, p, hz⟩ := I.tuple hq
    have D := Draws.tuple (prog := X.prog) (w := X.w) (A := X.A.in1) (I.ok.hd hc) it a hai its.toArray
    have en : its.toArray.size = i := by rw [List.size_toArray, ← rv.length, hi]
    rw [en] at D
    obtain ⟨f0, f1, f2, f3, f4, f5⟩ := hf it (by simp)
    exact wpAny_pyNext_enum_endD D he ⟨hit, p⟩ fun h1 eb => ⟨rfl, I.turned (t' := s.toks) (fun b o hb q => eb b o hb q) f0 f1 f3 f4 f5⟩
  self := fun A i s Q E ⟨⟨_, he⟩, _⟩ h => wpAny_pyIter_enum he h
/-- the list at a likewise -/
def IteL (K : PySem.W.Frag) (a : Addr) : It :=
  ⟨fun i H => ∃ (xs : List V) (x : V), SqL K H a xs ∧ xs[i]? = some x, fun i H v H' => ∃ (T : Addr) (x : V) (o : Obj), v = .ref T ∧ H T = none ∧ o.dict = none ∧ H' = upd H T (.frz o (.tup [.int (i : Nat), x])) ∧ ∀ xs, SqL K H a xs → xs[i]? = some x, fun i H => ∃ xs : List V, SqL K H a xs ∧ xs.length ≤ i⟩
theorem turn_enumL {P : Program} {w : World} {K : PySem.W.Frag} {elts : List Expr} {kk : Nat} {tpos : Pos} (a e it : Addr) (hai : a ≠ it) :
    Turn P w K (.Tuple elts kk tpos) (IteL K a) [e, it] e (fun i h => (∃ old, IsEnum h e it ((i : Nat) : Int) old) ∧ h.IsListIter it a i ∧ e ≠ it ∧ a ≠ e) where
  mem := List.mem_cons_self
  obj := fun i h ⟨⟨old, he⟩, ⟨o, ho, hc, hd⟩, _⟩ b hb => by
    rcases List.mem_cons.mp hb with rfl | hb
    · exact ⟨_, he, fun v q => nomatch q⟩
    · rw [List.mem_singleton.mp hb]
      exact ⟨o, ho, fun v q => by rw [hd] at q; cases q⟩
  keep := fun i h h' ⟨⟨old, he⟩, hi, hne⟩ k => ⟨⟨old, k e (by simp) _ he⟩, hi.at fun o q => k it (by simp) o q, hne⟩
  item := by
    intro X hP hw hK hc i pins s σ H E I hf ⟨⟨old, he⟩, hit, hne, hae⟩ ⟨xs, x, hq, hx⟩
    subst hP hw hK
    obtain ⟨its, rv, p, hz⟩ := I.list hq
    obtain ⟨u, hu, ru⟩ := rv.get hx
    have le : e < s.heap.objs.size := Heap.lt_size he
    have li : it < s.heap.objs.size := let ⟨_, q, _⟩ := hit; Heap.lt_size q
    have hlt : i < its.toArray.size := by
      rw [List.size_toArray]
      exact (List.getElem?_eq_some_iff.mp hu).1
    have D := Draws.list (prog := X.prog) (w := X.w) (A := X.A.in1) (I.ok.hd hc) it a hai its.toArray
    refine wpAny_pyNext_enum_itemD D he ⟨hit, p.isList⟩ hlt hne (by simp [hne, Ne.symm hae]) fun y h1 tk hy ho st hT hsz hk => ?_
    have : y = u := by
      have hy' : its[i]? = some y := by simpa using hy
      rw [hu] at hy'
      exact (Option.some.inj hy').symm
    subst this
    refine ⟨_, rfl, wpAny_letOwnedTupleGo_enum (s := { s with heap := h1, toks := tk + 1 }) ho fun h2 he2 sb => ?_⟩
    have away : ∀ b o, b ≠ e → b ≠ it → s.heap.get? b = some o → h2.get? b = some o := fun b o b1 b2 q => (sb.2 b b1).trans (hk b o b1 b2 q)
    have hT2 : h2.get? s.heap.objs.size = some { cls := .type "tuple", data := .seq #[.int i tk, y] } := (sb.2 _ (Nat.ne_of_gt le)).trans hT
    have I1 : Inv X pins σ (upd H s.heap.objs.size (.frz { cls := .type "tuple", data := .seq #[.int i tk, y] } (.tup [.int (i : Nat), x]))) { s with heap := h2, toks := tk + 1 } :=
      I.turnedNew (ch := [e, it]) (fun b ob hb q => away b ob (fun z => hb (by simp [z])) (fun z => hb (by simp [z])) q) hf (Nat.le_refl _)
        ⟨hT2, by show 2 ≤ sizeLine; decide, [.int i tk, y], .cons ⟨_, rfl⟩ (.cons ru .nil), _, hT2, rfl, _, rfl⟩
    refine ⟨.ref s.heap.objs.size, _, I1, rfl, ⟨_, x, _, rfl, I.hok.fresh (Nat.le_refl _), rfl, rfl, fun ys hy => by rw [I.list_inj hy hq]; exact hx⟩, ⟨⟨y, ?_⟩, st.1.at fun o q => (sb.2 it (Ne.symm hne)).trans q, hne, hae⟩, fun b hb => ?_⟩
    · have e1 : ((i + 1 : Nat) : Int) = (i : Int) + 1 := by omega
      rw [e1]
      exact he2
    · have : b ≠ s.heap.objs.size := by
        rcases List.mem_cons.mp hb with rfl | hb
        · exact Nat.ne_of_lt le
        · rw [List.mem_singleton.mp hb]
          exact Nat.ne_of_lt li
      rw [upd_ne this]
      exact (hf b hb).1
  done := by
    intro X hP hw hK hc i pins s σ H E I hf ⟨⟨old, he⟩, hit, hne, hae⟩ ⟨xs, hq, hx⟩
    subst hP hw hK
    obtain ⟨its, rv, p, hz⟩ := I.list hq
    obtain ⟨f0, f1, f2, f3, f4, f5⟩ := hf it (by simp)
    have none_at : its.toArray[i]? = none := by
      rw [List.getElem?_toArray, List.getElem?_eq_none]
      rw [← rv.length]
      exact hx
    exact wpAny_pyNext_enum_end (I.ok.hd hc) he hit p.isList none_at fun h1 eb => ⟨rfl, I.turned (t' := s.toks) (fun b o hb q => eb b o hb q) f0 f1 f3 f4 f5⟩
  self := fun A i s Q E ⟨⟨_, he⟩, _⟩ h => wpAny_pyIter_enum he h
def iEnumA (K : PySem.W.Frag) (ta : TA) : TI := fun σ H R => ta σ H fun vs H1 => ∃ a xs, vs = [.ref a] ∧ ((SqL K H1 a xs ∧ R (IteL K a) H1) ∨ (SqT K H1 a xs ∧ R (IteT K a) H1))
theorem pi_enumA {X : Cx} {e : Expr} {ta : TA} {p pos tpos : Pos} {elts : List Expr} {kk : Nat} (hg : Gl X "enumerate") (hm : X.mg "enumerate" = none) (ha : PA X [e] ta) (hs : starEach [e] X.env = [(false, eval e X.env)]) :
    PI X (.Tuple elts kk tpos) (.Call (.Name "enumerate" p) [e] [] pos) (iEnumA X.K ta) := by
  refine ⟨fun pins s σ H R I h => Call_ (ld_blt I hg hm boot_enumerate (callWith_type1 (thn (ha.run pos pins s σ H _ I h) fun us s1 ⟨vs, H1, I1, r1, a, xs, ex, q⟩ => ?_) hs rfl))⟩
  subst ex
  obtain rfl := Vals.ref1 r1
  have fp : ∀ b ∈ [s1.heap.objs.size + 1, s1.heap.objs.size], FpOk X pins H1 b := fun b hb => by
    have le : s1.heap.objs.size ≤ b := by
      rcases List.mem_cons.mp hb with rfl | hb
      · exact Nat.le_add_right _ _
      · rw [List.mem_singleton.mp hb]
        exact Nat.le_refl _
    exact I1.fpOk le (I1.hok.fresh le)
  rcases q with ⟨hq, q⟩ | ⟨hq, q⟩
  · obtain ⟨its, rv, pl, hz⟩ := I1.list hq
    have la : a < s1.heap.objs.size := let ⟨_, q, _⟩ := pl.isList; Heap.lt_size q
    exact call_enumerate_list pl.isList fun h1 he hit _ hk => wpAny_pyIter_enum he ⟨_, _, _, _, H1, rfl, I1.kept (t' := s1.toks) hk, turn_enumL a (s1.heap.objs.size + 1) s1.heap.objs.size (Nat.ne_of_lt la), ⟨⟨.none, he⟩, hit, Nat.succ_ne_self _, Nat.ne_of_lt (Nat.lt_succ_of_lt la)⟩, fp, q⟩
  · obtain ⟨its, rv, pl, hz⟩ := I1.tuple hq
    have la : a < s1.heap.objs.size := let ⟨_, q, _⟩ := pl; Heap.lt_size q
    exact call_enum_tup pl fun h1 he hit hk => wpAny_pyIter_enum he ⟨_, _, _, _, H1, rfl, I1.kept (t' := s1.toks) hk, turn_enumT a (s1.heap.objs.size + 1) s1.heap.objs.size (Nat.ne_of_lt la), ⟨⟨.none, he⟩, hit, Nat.succ_ne_self _, Nat.ne_of_lt (Nat.lt_succ_of_lt la)⟩, fp, q⟩
end Mi

/-! Mi: enumerate(xs) whose pairs go to one name (the pair that was handed out before may still be there). -/
namespace Mi
open PySem PySem.Spec PyProof.Rows L2

abbrev EnO (h : Heap) (e it : Addr) (i : Int) (old z : Value) (f : Bool) : Prop :=
  h.get? e = some { cls := .type "enumerate", dict := none, data := .fields #[z, .bool f, .ref it, rawInt i, .none, old], slots := #[] }
/-- nothing is handed out, or a tuple that is neither the iterator nor the inner one -/
def Hnd (e it : Addr) (z : Value) : Prop := z = .none ∨ ∃ T : Addr, z = rawInt T ∧ T ≠ e ∧ T ≠ it
section
variable {prog : Program} {w : World} {A : Around} {E : Value → Shared → Prop} {s : Shared}
theorem free_enumX {e it : Addr} {i : Int} {old z : Value} {f : Bool} {Q : Bool → Shared → Prop} (he : EnO s.heap e it i old z f) (hz : Hnd e it z)
    (h1 : Q true s) (h2 : ∀ h', EnO h' e it i old z true → Heap.SameBut e s.heap h' → Q false { s with heap := h' }) : wpAny (model prog w) A (Builtin.SmallTypes.ownedTupleIsFree (.ref e)) Q E s := by
  unfold Builtin.SmallTypes.ownedTupleIsFree
  rcases hz with rfl | ⟨T, rfl, _, _⟩
  · exact wpAny_bind (wpAny_field he rfl (x := .none) rfl (wpAny_pure h1))
  · refine wpAny_bind (wpAny_field he rfl (x := rawInt T) rfl ?_)
    show wpAny _ _ (loadIfAlive ((T : Int).toNat) >>= _) _ _ _
    rw [Int.toNat_natCast]
    refine wpAny_bind (m := loadIfAlive T) ?_
    cases hT : s.heap.get? T with
    | none =>
      refine fun _ _ _ => ?_
      show wpAny _ _ _ _ _ _
      rw [hT]
      simp only [Option.isNone_none, if_true]
      exact wpAny_pure h1
    | some oT =>
      refine PySem.W.kdx_alive hT ?_
      simp only [Option.isNone_some, Bool.false_eq_true, if_false]
      refine wpAny_bind (wpAny_field he rfl (x := .bool f) rfl ?_)
      cases f with
      | true =>
        rw [if_neg (show ¬ ((Value.bool true != Value.bool true) = true) from Bool.false_ne_true)]
        exact wpAny_pure (h2 s.heap he (Heap.SameBut.refl _ _))
      | false =>
        rw [if_pos (show (Value.bool false != Value.bool true) = true from rfl)]
        exact wpAny_bind (wpAny_setField_rec he (by simp) fun h₁ he₁ hs₁ => wpAny_pure (h2 h₁ he₁ hs₁))
theorem next_enumX {e it : Addr} {fp : List Addr} {n i : Nat} {c : Int} {P : Nat → Value → Prop} {St : Nat → Heap → Prop} {old z : Value} {f : Bool} {Q : Value → Shared → Prop}
    (D : Draws prog w A it fp n P St) (he : EnO s.heap e it c old z f) (hz : Hnd e it z) (hst : St i s.heap) (hlt : i < n) (hne : e ≠ it) (hef : e ∉ fp) (hil : it < s.heap.objs.size)
    (hQ : ∀ x h' tk, P i x → (∃ old z f, EnO h' e it (c + 1) old z f ∧ Hnd e it z) → St (i + 1) h' →
      h'.get? s.heap.objs.size = some { cls := .type "tuple", data := .seq #[.int c tk, x] } → h'.objs.size = s.heap.objs.size + 1 →
      (∀ b o, b ≠ e → b ≠ it → s.heap.get? b = some o → h'.get? b = some o) → Q (.ref s.heap.objs.size) { s with heap := h', toks := tk + 1 }) :
    wpAny (model prog w) A (Builtin.«enumerate.__next__» ⟨[.ref e], []⟩) (fun fin s' => ∃ v, fin = .done (.ret v) ∧ Q v s') E s := by
  obtain ⟨hp, gg, dd, t0, os⟩ := s
  show wpAny _ _ (field (.ref e) 2 >>= _) _ _ _
  refine wpAny_bind (wpAny_field he rfl (x := .ref it) rfl ?_)
  refine wpAny_bind (D.item i _ _ _ hlt hst fun x g1 tk px n1 b1 => ?_)
  replace b1 : Heap.SameBut it hp g1 := b1
  have j1 : EnO g1 e it c old z f := (b1.2 e hne).trans he
  show wpAny _ _ (field (.ref e) 3 >>= _) _ _ ⟨g1, gg, dd, tk, os⟩
  refine wpAny_bind (wpAny_field j1 rfl (x := rawInt c) rfl ?_)
  show wpAny _ _ (field (.ref e) 4 >>= _) _ _ ⟨g1, gg, dd, tk, os⟩
  refine wpAny_bind (wpAny_field j1 rfl (x := .none) rfl ?_)
  show wpAny _ _ (mkInt c >>= _) _ _ ⟨g1, gg, dd, tk, os⟩
  refine wpAny_bind (wpAny_mkInt ?_)
  show wpAny _ _ (setField (.ref e) 3 (rawInt (c + 1)) >>= _) _ _ ⟨g1, gg, dd, tk + 1, os⟩
  refine wpAny_bind (wpAny_setField_rec j1 (by simp) fun g2 j2 b2 => ?_)
  replace b2 : Heap.SameBut e g1 g2 := b2
  replace j2 : EnO g2 e it (c + 1) old z f := j2
  show wpAny _ _ (setField (.ref e) 4 .none >>= _) _ _ ⟨g2, gg, dd, tk + 1, os⟩
  refine wpAny_bind (wpAny_setField_rec j2 (by simp) fun g3 j3 b3 => ?_)
  replace b3 : Heap.SameBut e g2 g3 := b3
  replace j3 : EnO g3 e it (c + 1) old z f := j3
  show wpAny _ _ (newTuple [.int c tk, x] >>= _) _ _ ⟨g3, gg, dd, tk + 1, os⟩
  refine wpAny_bind (wpAny_newTuple ?_)
  have j4 : EnO (g3.push { cls := .type "tuple", data := .seq #[.int c tk, x] }) e it (c + 1) old z f := Heap.get?_push_of_some _ j3
  generalize hg4 : g3.push { cls := .type "tuple", data := .seq #[.int c tk, x] } = g4 at j4
  have esz : g3.objs.size = hp.objs.size := by rw [b3.1, b2.1, b1.1]
  have lte : e < hp.objs.size := Heap.lt_size he
  have y4 : g4.get? hp.objs.size = some { cls := .type "tuple", data := .seq #[.int c tk, x] } := by rw [← hg4, ← esz]; exact Heap.get?_push_size _ rfl
  have z4 : g4.objs.size = hp.objs.size + 1 := by rw [← hg4, Heap.size_push, esz]
  have w4 : ∀ b o, b ≠ e → b ≠ it → hp.get? b = some o → g4.get? b = some o := fun b o hbe hbi hb => by
    rw [← hg4]; exact Heap.get?_push_of_some _ (b3.extBut b o hbe (b2.extBut b o hbe (b1.extBut b o hbi hb)))
  have n4 : St (i + 1) g4 := D.frame _ _ _ n1 fun b hb o y => by
    have hbe : b ≠ e := fun q => hef (q ▸ hb)
    rw [← hg4]; exact Heap.get?_push_of_some _ (b3.extBut b o hbe (b2.extBut b o hbe y))
  show wpAny _ _ (Builtin.SmallTypes.ownedTupleIsFree (.ref e) >>= _) _ _ ⟨g4, gg, dd, tk + 1, os⟩
  rw [esz]
  clear hg4 j3 b3 j2 b2 j1 b1 n1 esz g3 g2 g1
  refine wpAny_bind (free_enumX j4 hz ?_ fun g5 j5 b5 => ?_)
  · simp only [if_true]
    refine wpAny_bind (wpAny_rule ?_)
    refine wpAny_bind (wpAny_field j4 rfl (x := old) rfl ?_)
    refine wpAny_bind (wpAny_setField_rec j4 (by simp) fun g5 j5 b5 => ?_)
    replace b5 : Heap.SameBut e g4 g5 := b5
    replace j5 : EnO g5 e it (c + 1) x z f := j5
    show wpAny _ _ (Builtin.SmallTypes.ownedTupleHandOut (.ref e) (.ref hp.objs.size) >>= _) _ _ ⟨g5, gg, dd, tk + 1, os⟩
    refine wpAny_bind ?_
    · unfold Builtin.SmallTypes.ownedTupleHandOut
      refine wpAny_bind (wpAny_setField_rec j5 (by simp) fun g6 j6 b6 => ?_)
      replace b6 : Heap.SameBut e g5 g6 := b6
      replace j6 : EnO g6 e it (c + 1) x (rawInt hp.objs.size) f := j6
      refine wpAny_setField_rec j6 (by simp) fun g7 j7 b7 => ?_
      replace b7 : Heap.SameBut e g6 g7 := b7
      replace j7 : EnO g7 e it (c + 1) x (rawInt hp.objs.size) false := j7
      refine wpAny_bind (wpAny_letGo (wpAny_pure ⟨_, rfl, hQ x g7 tk px ⟨_, _, _, j7, .inr ⟨hp.objs.size, rfl, Nat.ne_of_gt lte, Nat.ne_of_gt hil⟩⟩ ?_ ?_ ?_ ?_⟩))
      · exact D.frame _ _ _ n4 fun b hb o y => by
          have hbe : b ≠ e := fun q => hef (q ▸ hb)
          exact b7.extBut b o hbe (b6.extBut b o hbe (b5.extBut b o hbe y))
      · exact b7.extBut _ _ (Nat.ne_of_gt lte) (b6.extBut _ _ (Nat.ne_of_gt lte) (b5.extBut _ _ (Nat.ne_of_gt lte) y4))
      · rw [b7.1, b6.1, b5.1, z4]
      · exact fun b o hbe hbi hb => b7.extBut b o hbe (b6.extBut b o hbe (b5.extBut b o hbe (w4 b o hbe hbi hb)))
  · replace b5 : Heap.SameBut e g4 g5 := b5
    simp only [Bool.false_eq_true, if_false]
    refine wpAny_pure ⟨_, rfl, hQ x g5 tk px ⟨_, _, _, j5, hz⟩ (D.frame _ _ _ n4 fun b hb o y => b5.extBut b o (fun q => hef (q ▸ hb)) y) (b5.extBut _ _ (Nat.ne_of_gt lte) y4) ?_ fun b o hbe hbi hb => b5.extBut b o hbe (w4 b o hbe hbi hb)⟩
    show g5.objs.size = hp.objs.size + 1
    rw [b5.1, z4]
theorem pyNext_enumX {e it : Addr} {fp : List Addr} {n i : Nat} {c : Int} {P : Nat → Value → Prop} {St : Nat → Heap → Prop} {old z : Value} {f : Bool} {Q : Option Value → Shared → Prop}
    (D : Draws prog w A.in1 it fp n P St) (he : EnO s.heap e it c old z f) (hz : Hnd e it z) (hst : St i s.heap) (hlt : i < n) (hne : e ≠ it) (hef : e ∉ fp) (hil : it < s.heap.objs.size)
    (hQ : ∀ x h' tk, P i x → (∃ old z f, EnO h' e it (c + 1) old z f ∧ Hnd e it z) → St (i + 1) h' →
      h'.get? s.heap.objs.size = some { cls := .type "tuple", data := .seq #[.int c tk, x] } → h'.objs.size = s.heap.objs.size + 1 →
      (∀ b o, b ≠ e → b ≠ it → s.heap.get? b = some o → h'.get? b = some o) → Q (some (.ref s.heap.objs.size)) { s with heap := h', toks := tk + 1 }) :
    wpAny (model prog w) A (pyNext (.ref e)) Q E s := by
  have hT : s.TypeIs (.ref e) "enumerate" := ⟨_, he, rfl⟩
  unfold pyNext
  exact wpAny_bind (wpAny_attempt (wpAny_callSpecial?_slot (name := Str.ofString "__next__") hT F.slot_enumerate_next
    (wpAny_call_entry F.slot_enumerate_next hT F.entry_enumerate_next
      (next_enumX D he hz hst hlt hne hef hil fun x h' tk a b c d k q => wpAny_pure (hQ x h' tk a b c d k q)) (F.args_enumerate_next_1 _))))
theorem pyNext_enumX_end {e it : Addr} {fp : List Addr} {n : Nat} {P : Nat → Value → Prop} {St : Nat → Heap → Prop} {i : Int} {old z : Value} {f : Bool} {Q : Option Value → Shared → Prop}
    (D : Draws prog w A.in1 it fp n P St) (he : EnO s.heap e it i old z f) (hst : St n s.heap)
    (hQ : ∀ h', Heap.ExtBut it s.heap h' → Q none { s with heap := h' }) : wpAny (model prog w) A (pyNext (.ref e)) Q E s := by
  have hT : s.TypeIs (.ref e) "enumerate" := ⟨_, he, rfl⟩
  unfold pyNext
  refine wpAny_bind (wpAny_attempt (wpAny_callSpecial?_slot (name := Str.ofString "__next__") hT F.slot_enumerate_next
    (wpAny_call_entry F.slot_enumerate_next hT F.entry_enumerate_next ?_ (F.args_enumerate_next_1 _))))
  show wpAny _ _ (field (.ref e) 2 >>= _) _ _ _
  refine wpAny_bind (wpAny_field he rfl (x := .ref it) rfl ?_)
  refine wpAny_bind (D.done _ _ _ hst fun h' x he' hx' => ?_)
  obtain ⟨o, ho, hc⟩ := hx'
  refine wpAny_bind (wpAny_isInstance (T := "StopIteration") (b := true) ⟨o, ho, hc⟩ isSubtype_stop ?_)
  exact wpAny_pure (hQ _ he')
end
theorem enumX_self {prog : Program} {w : World} {A : Around} {E : Value → Shared → Prop} {s : Shared} {e it : Addr} {i : Int} {old z : Value} {f : Bool} {Q : Value → Shared → Prop} (he : EnO s.heap e it i old z f) (h : Q (.ref e) s) : wpAny (model prog w) A (pyIter (.ref e)) Q E s := by
  have hT : s.TypeIs (.ref e) "enumerate" := ⟨_, he, rfl⟩
  refine wpAny_pyIter_slot hT F.slot_enumerate_iter (wpAny_call_entry F.slot_enumerate_iter hT F.entry_enumerate_iter ?_ (F.args_enumerate_iter_1 _))
  show wpAny _ _ (ret (.ref e)) _ _ s
  exact wpAny_pure ⟨_, rfl, "enumerate", _, hT, F.slot_enumerate_next.lookup, h⟩
/-- .. of a tuple -/
theorem turn_enumNT {P : Program} {w : World} {K : PySem.W.Frag} {x : Str} {px : Pos} (a e it : Addr) (hai : a ≠ it) :
    Turn P w K (.Name x px) (IteT K a) [e, it] e (fun i h => (∃ old z f, EnO h e it ((i : Nat) : Int) old z f ∧ Hnd e it z) ∧ h.IsTupleIter it a i ∧ e ≠ it ∧ a ≠ e) where
  mem := List.mem_cons_self
  obj := fun i h ⟨⟨old, z, f, he, _⟩, ⟨o, ho, hc, hd⟩, _⟩ b hb => by
    rcases List.mem_cons.mp hb with rfl | hb
    · exact ⟨_, he, fun v q => nomatch q⟩
    · rw [List.mem_singleton.mp hb]
      exact ⟨o, ho, fun v q => by rw [hd] at q; cases q⟩
  keep := fun i h h' ⟨⟨old, z, f, he, hz⟩, hi, hne⟩ k => ⟨⟨old, z, f, k e (by simp) _ he, hz⟩, hi.at fun o q => k it (by simp) o q, hne⟩
  item := by
    intro X hP hw hK hc i pins s σ H E I hf ⟨⟨old, z, f, he, hz⟩, hit, hne, hae⟩ ⟨xs, x', hq, hx⟩
    subst hP hw hK
    obtain ⟨its, rv, p, hz'⟩ := I.tuple hq
    obtain ⟨u, hu, ru⟩ := rv.get hx
    have le : e < s.heap.objs.size := Heap.lt_size he
    have li : it < s.heap.objs.size := let ⟨_, q, _⟩ := hit; Heap.lt_size q
    have hlt : i < its.toArray.size := by
      rw [List.size_toArray]
      exact (List.getElem?_eq_some_iff.mp hu).1
    have D := Draws.tuple (prog := X.prog) (w := X.w) (A := X.A.in1) (I.ok.hd hc) it a hai its.toArray
    refine pyNext_enumX D he hz ⟨hit, p⟩ hlt hne (by simp [hne, Ne.symm hae]) li fun y h1 tk hy ho st hT hsz hk => ?_
    have : y = u := by
      have hy' : its[i]? = some y := by simpa using hy
      rw [hu] at hy'
      exact (Option.some.inj hy').symm
    subst this
    have I1 : Inv X pins σ (upd H s.heap.objs.size (.frz { cls := .type "tuple", data := .seq #[.int i tk, y] } (.tup [.int (i : Nat), x']))) { s with heap := h1, toks := tk + 1 } :=
      I.turnedNew (ch := [e, it]) (fun b ob hb q => hk b ob (fun z => hb (by simp [z])) (fun z => hb (by simp [z])) q) hf (Nat.le_refl _)
        ⟨hT, by show 2 ≤ sizeLine; decide, [.int i tk, y], .cons ⟨_, rfl⟩ (.cons ru .nil), _, hT, rfl, _, rfl⟩
    refine ⟨_, rfl, wpAny_pure ⟨.ref s.heap.objs.size, _, I1, rfl, ⟨_, x', _, rfl, I.hok.fresh (Nat.le_refl _), rfl, rfl, fun ys hy => by rw [I.tuple_inj hy hq]; exact hx⟩, ⟨?_, st.1, hne, hae⟩, fun b hb => ?_⟩⟩
    · have e1 : ((i + 1 : Nat) : Int) = (i : Int) + 1 := by omega
      rw [e1]
      exact ho
    · have : b ≠ s.heap.objs.size := by
        rcases List.mem_cons.mp hb with rfl | hb
        · exact Nat.ne_of_lt le
        · rw [List.mem_singleton.mp hb]
          exact Nat.ne_of_lt li
      rw [upd_ne this]
      exact (hf b hb).1
  done := by
    intro X hP hw hK hc i pins s σ H E I hf ⟨⟨old, z, f, he, hz⟩, hit, hne, hae⟩ ⟨xs, hq, hi⟩
    subst hP hw hK
    obtain ⟨its, rv, p, hz'⟩ := I.tuple hq
    have D := Draws.tuple (prog := X.prog) (w := X.w) (A := X.A.in1) (I.ok.hd hc) it a hai its.toArray
    have en : its.toArray.size = i := by rw [List.size_toArray, ← rv.length, hi]
    rw [en] at D
    obtain ⟨f0, f1, f2, f3, f4, f5⟩ := hf it (by simp)
    exact pyNext_enumX_end D he ⟨hit, p⟩ fun h1 eb => ⟨rfl, I.turned (t' := s.toks) (fun b o hb q => eb b o hb q) f0 f1 f3 f4 f5⟩
  self := fun A i s Q E ⟨⟨_, _, _, he, _⟩, _⟩ h => enumX_self he h
/-- for p in enumerate(t), t a tuple, p a name -/
def iEnumN (K : PySem.W.Frag) (ta : TA) : TI := fun σ H R => ta σ H fun vs H1 => ∃ a xs, vs = [.ref a] ∧ SqT K H1 a xs ∧ R (IteT K a) H1
theorem pi_enumN {X : Cx} {e : Expr} {ta : TA} {p pos px : Pos} {x : Str} (hg : Gl X "enumerate") (hm : X.mg "enumerate" = none) (ha : PA X [e] ta) (hs : starEach [e] X.env = [(false, eval e X.env)]) :
    PI X (.Name x px) (.Call (.Name "enumerate" p) [e] [] pos) (iEnumN X.K ta) := by
  refine ⟨fun pins s σ H R I h => Call_ (ld_blt I hg hm boot_enumerate (callWith_type1 (thn (ha.run pos pins s σ H _ I h) fun us s1 ⟨vs, H1, I1, r1, a, xs, ex, hq, q⟩ => ?_) hs rfl))⟩
  subst ex
  obtain rfl := Vals.ref1 r1
  have fp : ∀ b ∈ [s1.heap.objs.size + 1, s1.heap.objs.size], FpOk X pins H1 b := fun b hb => by
    have le : s1.heap.objs.size ≤ b := by
      rcases List.mem_cons.mp hb with rfl | hb
      · exact Nat.le_add_right _ _
      · rw [List.mem_singleton.mp hb]
        exact Nat.le_refl _
    exact I1.fpOk le (I1.hok.fresh le)
  obtain ⟨its, rv, pl, hz⟩ := I1.tuple hq
  have la : a < s1.heap.objs.size := let ⟨_, q, _⟩ := pl; Heap.lt_size q
  exact call_enum_tup pl fun h1 he hit hk => wpAny_pyIter_enum he ⟨_, _, _, _, H1, rfl, I1.kept (t' := s1.toks) hk, turn_enumNT a (s1.heap.objs.size + 1) s1.heap.objs.size (Nat.ne_of_lt la), ⟨⟨.none, .none, false, he, .inl rfl⟩, hit, Nat.succ_ne_self _, Nat.ne_of_lt (Nat.lt_succ_of_lt la)⟩, fp, q⟩
end Mi

/-! Mi: zip of lists, of tuples: pairs with no dict of their own. -/
namespace Mi
open PySem PySem.Spec PyProof.Rows L2

/-- the lists at a and b, item by item in new pairs -/
def IzL (K : PySem.W.Frag) (a b : Addr) : It :=
  ⟨fun i H => ∃ (xs ys : List V) (x y : V), SqL K H a xs ∧ SqL K H b ys ∧ xs[i]? = some x ∧ ys[i]? = some y,
    fun i H v H' => ∃ (T : Addr) (x y : V) (o : Obj), v = .ref T ∧ H T = none ∧ o.dict = none ∧ H' = upd H T (.frz o (.tup [x, y])) ∧ (∀ l, SqL K H a l → l[i]? = some x) ∧ ∀ l, SqL K H b l → l[i]? = some y,
    fun i H => ∃ xs ys : List V, SqL K H a xs ∧ SqL K H b ys ∧ (xs.length ≤ i ∨ ys.length ≤ i)⟩
theorem turn_zL {P : Program} {w : World} {K : PySem.W.Frag} {elts : List Expr} {kk : Nat} {tpos : Pos} {a b z TI TO i1 i2 : Addr} (D : ZipApart z TI TO i1 i2 a b) :
    Turn P w K (.Tuple elts kk tpos) (IzL K a b) [z, TI, TO, i1, i2] z (fun i h => IsZip h z TI TO .none ∧ IsPair h TI (.ref i1) (.ref i2) ∧ (∃ x y, IsPair h TO x y) ∧ h.IsListIter i1 a i ∧ h.IsListIter i2 b i) where
  mem := List.mem_cons_self
  obj := fun i h ⟨hz, hTI, ⟨_, _, hTO⟩, ⟨o1, e1, _, d1⟩, ⟨o2, e2, _, d2⟩⟩ c hc => by
    simp only [List.mem_cons, List.not_mem_nil, or_false] at hc
    rcases hc with rfl | rfl | rfl | rfl | rfl
    · exact ⟨_, hz, fun _ q => nomatch q⟩
    · exact ⟨_, hTI, fun _ q => nomatch q⟩
    · exact ⟨_, hTO, fun _ q => nomatch q⟩
    · exact ⟨o1, e1, fun _ q => by rw [d1] at q; cases q⟩
    · exact ⟨o2, e2, fun _ q => by rw [d2] at q; cases q⟩
  keep := fun i h g ⟨hz, hTI, ⟨x, y, hTO⟩, h1, h2⟩ k =>
    ⟨k z (by simp) _ hz, k TI (by simp) _ hTI, ⟨x, y, k TO (by simp) _ hTO⟩, h1.at fun o q => k i1 (by simp) o q, h2.at fun o q => k i2 (by simp) o q⟩
  item := by
    intro X hP hw hK hc i pins s σ H E I hf ⟨hz, hTI, ⟨x0, y0, hTO⟩, h1, h2⟩ ⟨xs, ys, x, y, qa, qb, hx, hy⟩
    subst hP hw hK
    obtain ⟨la, ra, pa, _⟩ := I.list qa
    obtain ⟨lb, rb, pb, _⟩ := I.list qb
    obtain ⟨u, hu, ru⟩ := ra.get hx
    obtain ⟨t, ht, rt⟩ := rb.get hy
    have zl : z < s.heap.objs.size := Heap.lt_size hz
    refine wpAny_pyNext_zip_item D hz hTI hTO h1 h2 pa.isList pb.isList (x := u) (y := t) (by simpa using hu) (by simpa using ht) fun g z2 TO2 j1 j2 hT _ hk => ⟨_, rfl, wpAny_letOwnedTupleGo_zip (s := { s with heap := g }) z2 fun g2 z3 sb => ?_⟩
    have at_ : g2.get? s.heap.objs.size = some { cls := .type "tuple", data := .seq #[u, t] } := (sb.2 _ (Nat.ne_of_gt zl)).trans hT
    have away : ∀ c o, c ∉ [z, TI, TO, i1, i2] → s.heap.get? c = some o → g2.get? c = some o := fun c o hb q => by
      simp only [List.mem_cons, List.not_mem_nil, or_false, not_or] at hb
      obtain ⟨b1, b2, b3, b4, b5⟩ := hb
      exact (sb.2 c b1).trans (hk c o b1 b3 b4 b5 q)
    have I1 : Inv X pins σ (upd H s.heap.objs.size (.frz { cls := .type "tuple", data := .seq #[u, t] } (.tup [x, y]))) { s with heap := g2 } :=
      I.turnedNew (t' := s.toks) (ch := [z, TI, TO, i1, i2]) away hf (Nat.le_refl _) ⟨at_, by show 2 ≤ sizeLine; decide, [u, t], .cons ru (.cons rt .nil), _, at_, rfl, _, rfl⟩
    refine ⟨.ref s.heap.objs.size, _, I1, rfl, ⟨_, x, y, _, rfl, I.hok.fresh (Nat.le_refl _), rfl, rfl, fun l hl => by rw [I.list_inj hl qa]; exact hx, fun l hl => by rw [I.list_inj hl qb]; exact hy⟩,
      ⟨z3, (sb.2 _ D.TIz).trans (hk _ _ D.TIz D.TITO D.TIi1 D.TIi2 hTI), ⟨u, t, (sb.2 _ D.TOz).trans TO2⟩, j1.at fun o q => (sb.2 _ D.i1z).trans q, j2.at fun o q => (sb.2 _ D.i2z).trans q⟩, fun c hcm => ?_⟩
    have lt : c < s.heap.objs.size := by
      simp only [List.mem_cons, List.not_mem_nil, or_false] at hcm
      rcases hcm with rfl | rfl | rfl | rfl | rfl
      · exact zl
      · exact Heap.lt_size hTI
      · exact Heap.lt_size hTO
      · exact let ⟨_, e1, _⟩ := h1; Heap.lt_size e1
      · exact let ⟨_, e2, _⟩ := h2; Heap.lt_size e2
    rw [upd_ne (Nat.ne_of_lt lt)]
    exact (hf c hcm).1
  done := by
    intro X hP hw hK hc i pins s σ H E I hf ⟨hz, hTI, ⟨x0, y0, hTO⟩, h1, h2⟩ ⟨xs, ys, qa, qb, hend⟩
    subst hP hw hK
    obtain ⟨la, ra, pa, _⟩ := I.list qa
    obtain ⟨lb, rb, pb, _⟩ := I.list qb
    have ea := ra.length
    have eb := rb.length
    have stop : la.toArray[i]? = none ∨ lb.toArray[i]? = none := hend.imp (fun q => by rw [List.getElem?_toArray, List.getElem?_eq_none]; omega) fun q => by rw [List.getElem?_toArray, List.getElem?_eq_none]; omega
    refine wpAny_pyNext_zip_end (I.ok.hd hc) D hz hTI hTO h1 h2 pa.isList pb.isList stop fun g hk => ⟨rfl, I.turnedL (t' := s.toks) (ch := [z, TI, TO, i1, i2]) (fun c o hb q => ?_) hf⟩
    simp only [List.mem_cons, List.not_mem_nil, or_false, not_or] at hb
    obtain ⟨b1, b2, b3, b4, b5⟩ := hb
    exact hk c o b1 b3 b4 b5 q
  self := fun A i s Q E st h => wpAny_pyIter_zip st.1 h
/-- the tuples at a and b, item by item in new pairs -/
def IzT (K : PySem.W.Frag) (a b : Addr) : It :=
  ⟨fun i H => ∃ (xs ys : List V) (x y : V), SqT K H a xs ∧ SqT K H b ys ∧ xs[i]? = some x ∧ ys[i]? = some y,
    fun i H v H' => ∃ (T : Addr) (x y : V) (o : Obj), v = .ref T ∧ H T = none ∧ o.dict = none ∧ H' = upd H T (.frz o (.tup [x, y])) ∧ (∀ l, SqT K H a l → l[i]? = some x) ∧ ∀ l, SqT K H b l → l[i]? = some y,
    fun i H => ∃ xs ys : List V, SqT K H a xs ∧ SqT K H b ys ∧ (xs.length ≤ i ∨ ys.length ≤ i)⟩
theorem turn_zT {P : Program} {w : World} {K : PySem.W.Frag} {elts : List Expr} {kk : Nat} {tpos : Pos} {a b z TI TO i1 i2 : Addr} (D : ZipApart z TI TO i1 i2 a b) :
    Turn P w K (.Tuple elts kk tpos) (IzT K a b) [z, TI, TO, i1, i2] z (fun i h => IsZip h z TI TO .none ∧ IsPair h TI (.ref i1) (.ref i2) ∧ (∃ x y, IsPair h TO x y) ∧ h.IsTupleIter i1 a i ∧ h.IsTupleIter i2 b i) where
  mem := List.mem_cons_self
  obj := fun i h ⟨hz, hTI, ⟨_, _, hTO⟩, ⟨o1, e1, _, d1⟩, ⟨o2, e2, _, d2⟩⟩ c hc => by
    simp only [List.mem_cons, List.not_mem_nil, or_false] at hc
    rcases hc with rfl | rfl | rfl | rfl | rfl
    · exact ⟨_, hz, fun _ q => nomatch q⟩
    · exact ⟨_, hTI, fun _ q => nomatch q⟩
    · exact ⟨_, hTO, fun _ q => nomatch q⟩
    · exact ⟨o1, e1, fun _ q => by rw [d1] at q; cases q⟩
    · exact ⟨o2, e2, fun _ q => by rw [d2] at q; cases q⟩
  keep := fun i h g ⟨hz, hTI, ⟨x, y, hTO⟩, h1, h2⟩ k =>
    ⟨k z (by simp) _ hz, k TI (by simp) _ hTI, ⟨x, y, k TO (by simp) _ hTO⟩, h1.at fun o q => k i1 (by simp) o q, h2.at fun o q => k i2 (by simp) o q⟩
  item := by
    intro X hP hw hK hc i pins s σ H E I hf ⟨hz, hTI, ⟨x0, y0, hTO⟩, h1, h2⟩ ⟨xs, ys, x, y, qa, qb, hx, hy⟩
    subst hP hw hK
    obtain ⟨la, ra, pa, _⟩ := I.tuple qa
    obtain ⟨lb, rb, pb, _⟩ := I.tuple qb
    obtain ⟨u, hu, ru⟩ := ra.get hx
    obtain ⟨t, ht, rt⟩ := rb.get hy
    have zl : z < s.heap.objs.size := Heap.lt_size hz
    refine RZ.pyNext_zipT_item D hz hTI hTO h1 h2 pa pb (x := u) (y := t) (by simpa using hu) (by simpa using ht) fun g z2 TO2 j1 j2 hT _ hk => ⟨_, rfl, wpAny_letOwnedTupleGo_zip (s := { s with heap := g }) z2 fun g2 z3 sb => ?_⟩
    have at_ : g2.get? s.heap.objs.size = some { cls := .type "tuple", data := .seq #[u, t] } := (sb.2 _ (Nat.ne_of_gt zl)).trans hT
    have away : ∀ c o, c ∉ [z, TI, TO, i1, i2] → s.heap.get? c = some o → g2.get? c = some o := fun c o hb q => by
      simp only [List.mem_cons, List.not_mem_nil, or_false, not_or] at hb
      obtain ⟨b1, b2, b3, b4, b5⟩ := hb
      exact (sb.2 c b1).trans (hk c o b1 b3 b4 b5 q)
    have I1 : Inv X pins σ (upd H s.heap.objs.size (.frz { cls := .type "tuple", data := .seq #[u, t] } (.tup [x, y]))) { s with heap := g2 } :=
      I.turnedNew (t' := s.toks) (ch := [z, TI, TO, i1, i2]) away hf (Nat.le_refl _) ⟨at_, by show 2 ≤ sizeLine; decide, [u, t], .cons ru (.cons rt .nil), _, at_, rfl, _, rfl⟩
    refine ⟨.ref s.heap.objs.size, _, I1, rfl, ⟨_, x, y, _, rfl, I.hok.fresh (Nat.le_refl _), rfl, rfl, fun l hl => by rw [I.tuple_inj hl qa]; exact hx, fun l hl => by rw [I.tuple_inj hl qb]; exact hy⟩,
      ⟨z3, (sb.2 _ D.TIz).trans (hk _ _ D.TIz D.TITO D.TIi1 D.TIi2 hTI), ⟨u, t, (sb.2 _ D.TOz).trans TO2⟩, j1.at fun o q => (sb.2 _ D.i1z).trans q, j2.at fun o q => (sb.2 _ D.i2z).trans q⟩, fun c hcm => ?_⟩
    have lt : c < s.heap.objs.size := by
      simp only [List.mem_cons, List.not_mem_nil, or_false] at hcm
      rcases hcm with rfl | rfl | rfl | rfl | rfl
      · exact zl
      · exact Heap.lt_size hTI
      · exact Heap.lt_size hTO
      · exact let ⟨_, e1, _⟩ := h1; Heap.lt_size e1
      · exact let ⟨_, e2, _⟩ := h2; Heap.lt_size e2
    rw [upd_ne (Nat.ne_of_lt lt)]
    exact (hf c hcm).1
  done := by
    intro X hP hw hK hc i pins s σ H E I hf ⟨hz, hTI, ⟨x0, y0, hTO⟩, h1, h2⟩ ⟨xs, ys, qa, qb, hend⟩
    subst hP hw hK
    obtain ⟨la, ra, pa, _⟩ := I.tuple qa
    obtain ⟨lb, rb, pb, _⟩ := I.tuple qb
    have ea := ra.length
    have eb := rb.length
    have stop : la.toArray[i]? = none ∨ lb.toArray[i]? = none := hend.imp (fun q => by rw [List.getElem?_toArray, List.getElem?_eq_none]; omega) fun q => by rw [List.getElem?_toArray, List.getElem?_eq_none]; omega
    refine RZ.pyNext_zipT_end (I.ok.hd hc) D hz hTI hTO h1 h2 pa pb stop fun g hk => ⟨rfl, I.turnedL (t' := s.toks) (ch := [z, TI, TO, i1, i2]) (fun c o hb q => ?_) hf⟩
    simp only [List.mem_cons, List.not_mem_nil, or_false, not_or] at hb
    obtain ⟨b1, b2, b3, b4, b5⟩ := hb
    exact hk c o b1 b3 b4 b5 q
  self := fun A i s Q E st h => wpAny_pyIter_zip st.1 h
def iZipK (K : PySem.W.Frag) (ta : TA) : TI := fun σ H R => ta σ H fun vs H1 => ∃ a b xs ys, vs = [.ref a, .ref b] ∧ ((SqL K H1 a xs ∧ SqL K H1 b ys ∧ R (IzL K a b) H1) ∨ (SqT K H1 a xs ∧ SqT K H1 b ys ∧ R (IzT K a b) H1))
theorem pi_zipK {X : Cx} {e e2 : Expr} {ta : TA} {p pos tpos : Pos} {elts : List Expr} {kk : Nat} (hg : Gl X "zip") (hm : X.mg "zip" = none) (ha : PA X [e, e2] ta)
    (hs : starEach [e, e2] X.env = (false, eval e X.env) :: starEach [e2] X.env) (hpl : (backTo pos (starEach [e2] X.env)).any (·.1) = false) :
    PI X (.Tuple elts kk tpos) (.Call (.Name "zip" p) [e, e2] [] pos) (iZipK X.K ta) := by
  refine ⟨fun pins s σ H R I h => Call_ (ld_blt I hg hm PyProof.Rows.boot_zip (PyProof.Rows.callWith_type1 (thn (ha.run pos pins s σ H _ I h) fun us s1 ⟨vs, H1, I1, r1, a, b, xs, ys, ex, q1⟩ => ?_) hs hpl))⟩
  subst ex
  cases r1 with
  | cons r rr =>
  cases rr with
  | cons r2 rr =>
  cases rr
  cases r
  cases r2
  have five : ∀ c, c ∈ [s1.heap.objs.size + 4, s1.heap.objs.size + 2, s1.heap.objs.size + 3, s1.heap.objs.size, s1.heap.objs.size + 1] → FpOk X pins H1 c := fun c hc => by
    have le : s1.heap.objs.size ≤ c := by
      simp only [List.mem_cons, List.not_mem_nil, or_false] at hc
      omega
    exact I1.fpOk le (I1.hok.fresh le)
  rcases q1 with ⟨qa, qb, q⟩ | ⟨qa, qb, q⟩
  · obtain ⟨la, ra, pa, _⟩ := I1.list qa
    obtain ⟨lb, rb, pb, _⟩ := I1.list qb
    exact call_zip_2 pa.isList pb.isList fun g hz hTI hTO h1 h2 _ hk => wpAny_pyIter_zip hz ⟨_, [s1.heap.objs.size + 4, s1.heap.objs.size + 2, s1.heap.objs.size + 3, s1.heap.objs.size, s1.heap.objs.size + 1], _, _, H1, rfl, I1.kept (t' := s1.toks) hk,
      turn_zL (PySem.W.ktu_apart s1.heap.objs.size a b pa.lt pb.lt), ⟨hz, hTI, ⟨_, _, hTO⟩, h1, h2⟩, five, q⟩
  · obtain ⟨la, ra, pa, _⟩ := I1.tuple qa
    obtain ⟨lb, rb, pb, _⟩ := I1.tuple qb
    have a1 : a < s1.heap.objs.size := let ⟨_, y, _⟩ := pa; Heap.lt_size y
    have b1 : b < s1.heap.objs.size := let ⟨_, y, _⟩ := pb; Heap.lt_size y
    exact RZ.call_zipT (show s1.heap.IsTuple a la.toArray from pa) (show s1.heap.IsTuple b lb.toArray from pb) fun g hz hTI hTO h1 h2 _ hk => wpAny_pyIter_zip hz ⟨_, [s1.heap.objs.size + 4, s1.heap.objs.size + 2, s1.heap.objs.size + 3, s1.heap.objs.size, s1.heap.objs.size + 1], _, _, H1, rfl, I1.kept (t' := s1.toks) hk,
      turn_zT (PySem.W.ktu_apart s1.heap.objs.size a b a1 b1), ⟨hz, hTI, ⟨_, _, hTO⟩, h1, h2⟩, five, q⟩
end Mi

/-! Mi: what is walked; comprehensions. -/
namespace Mi
open PySem PySem.Spec PyProof.Rows L2

/-! ### targets -/
section
variable {G : Ctx} {X : Cx} {N : List Str} {sc : Scope} {C : Cf} {cm : Bool} {er : Nat → V → Prop} {W : WX}
def gsets : List Nat → TGs
  | [] => gNil
  | i :: is => gCons (gName i) (gsets is)
def gA (K : PySem.W.Frag) : Tg → TG
  | .nm i => gName i
  | .tp is => gTup K is.length (gsets is)
theorem ownOk_i (hx : XOk G X N sc C cm er W) {i : Nat} {x : Str} (h : ownOk N sc i x = true) : X.N[i]? = some x ∧ Loc X.env.scope x ∧ (X.fn x = true ∨ X.env.scope.names.lookup x = some .local) := by
  unfold ownOk at h
  simp only [Bool.and_eq_true, decide_eq_true_eq] at h
  obtain ⟨h1, h2⟩ := hx.own x h.1.2
  exact ⟨by rw [hx.hN]; exact h.1.1, h1, h2⟩
theorem s_name (hx : XOk G X N sc C cm er W) {i : Nat} {x : Str} {p : Pos} (h : ownOk N sc i x = true) : PG X (.Name x p) (gName i) := by
  obtain ⟨h1, h2, h3⟩ := ownOk_i hx h
  exact pg_name hx.nd h1 h2 h3
theorem assignE {e : Expr} {es : List Expr} {env : PySem.Env} (h : ∃ x p, e = .Name x p) : (assignEach (e :: es) env).map (·.2) = assign e env :: (assignEach es env).map (·.2) ∧ (assignEach (e :: es) env).length = (assignEach es env).length + 1 ∧ ((assignEach es env).findIdx? (·.1) = none → (assignEach (e :: es) env).findIdx? (·.1) = none) := by
  obtain ⟨x, p, rfl⟩ := h
  refine ⟨rfl, rfl, fun z => ?_⟩
  show List.findIdx? (·.1) ((false, assign (.Name x p) env) :: assignEach es env) = none
  rw [List.findIdx?_cons]
  simp [z]
theorem s_names (hx : XOk G X N sc C cm er W) : ∀ {is : List Nat} {es : List Expr}, chkT N sc is es = true → PGs X es (gsets is) ∧ (assignEach es X.env).length = is.length ∧ (assignEach es X.env).findIdx? (·.1) = none
  | [], [], _ => ⟨pgs_nil, rfl, rfl⟩
  | [], _ :: _, h => by simp [chkT] at h
  | _ :: _, [], h => by simp [chkT] at h
  | i :: is, e :: es, h => by
    simp only [chkT, Bool.and_eq_true] at h
    obtain ⟨x, p, rfl, h1⟩ := onName_i h.1
    obtain ⟨a1, a2, a3⟩ := s_names hx h.2
    obtain ⟨b1, b2, b3⟩ := assignE (e := .Name x p) (es := es) (env := X.env) ⟨x, p, rfl⟩
    exact ⟨pgs_cons (s_name hx h1) a1 b1, by rw [b2, a2]; rfl, b3 a3⟩
theorem s_tg (hx : XOk G X N sc C cm er W) (hc : cm = true) {t : Tg} {e : Expr} (h : chkTg N sc t e = true) : PG X e (gA X.K t) := by
  cases t with
  | nm i =>
    obtain ⟨x, p, rfl, h1⟩ := onName_i h
    exact s_name hx h1
  | tp is =>
    obtain ⟨x, k, p, rfl, h1⟩ := onTup_i h
    simp only [Bool.and_eq_true] at h1
    obtain ⟨a1, a2, a3⟩ := s_names hx h1.2
    exact pg_tup (hx.calm hc) a1 a2 a3
/-- a name takes its value -/
theorem EnvR.set {K : PySem.W.Frag} {m : List Addr} {F : Hp} {env : Env} {σ : L2.St} {w : Mi.W} {v : V} (i : Nat) (h : EnvR K er m F env σ) (r : RelW K er m F w v) : EnvR K er m F (env.set i (some w)) (σ.set i (some v)) := by
  refine ⟨by rw [List.length_set, List.length_set]; exact h.1, fun j w' e => ?_⟩
  by_cases hj : i = j
  · subst hj
    have hl : i < env.length := by
      have := (List.getElem?_eq_some_iff.mp e).1
      simpa using this
    rw [List.getElem?_set_self hl] at e
    cases e
    exact ⟨v, List.getElem?_set_self (by rw [← h.1]; exact hl), r⟩
  · rw [List.getElem?_set_ne hj] at e
    rw [List.getElem?_set_ne hj]
    exact h.2 j w' e
/-- wiped names are forgotten -/
theorem wipe_set {vs : List Nat} {σ : L2.St} {i : Nat} {o : Option V} (h : i ∈ vs) : wipe (σ.set i o) vs = wipe σ vs := by
  induction vs with
  | nil => cases h
  | cons j vs ih =>
    unfold wipe
    by_cases hj : i = j
    · subst hj
      by_cases hi : i ∈ vs
      · rw [ih hi]
      · have e : ∀ (l : List Nat) (σ : L2.St), i ∉ l → wipe (σ.set i o) l = (wipe σ l).set i o := by
          intro l
          induction l with
          | nil => intro σ _; rfl
          | cons k l ih2 =>
            intro σ hn
            unfold wipe
            rw [ih2 σ fun z => hn (List.mem_cons_of_mem _ z)]
            exact List.set_comm _ _ fun z => hn (by rw [z]; exact List.mem_cons_self)
        rw [e vs σ hi, List.set_set]
    · have hi : i ∈ vs := by
        rcases List.mem_cons.mp h with z | z
        · exact absurd z hj
        · exact z
      rw [ih hi]
theorem wipe_wipe {vs : List Nat} {σ : L2.St} : wipe (wipe σ vs) vs = wipe σ vs := by
  have e : ∀ (l : List Nat) (τ : L2.St), (∀ i ∈ l, i ∈ vs) → wipe (wipe τ l) vs = wipe τ vs := by
    intro l
    induction l with
    | nil => intro τ _; rfl
    | cons k l ih =>
      intro τ hl
      show wipe ((wipe τ l).set k none) vs = _
      rw [wipe_set (hl k List.mem_cons_self)]
      exact ih τ fun i hi => hl i (List.mem_cons_of_mem _ hi)
  exact e vs σ fun i hi => hi
/-- as EnvR, but of the names of js nothing is told -/
def EnvX (K : PySem.W.Frag) (er : Nat → V → Prop) (m : List Addr) (F : Hp) (js : List Nat) (env : Env) (σ : L2.St) : Prop :=
  env.length = σ.length ∧ ∀ (i : Nat) (w : Mi.W), i ∉ js → env[i]? = some (some w) → ∃ v, σ[i]? = some (some v) ∧ RelW K er m F w v
theorem EnvR.x {K : PySem.W.Frag} {m : List Addr} {F : Hp} {env : Env} {σ : L2.St} (js : List Nat) (h : EnvR K er m F env σ) : EnvX K er m F js env σ := ⟨h.1, fun i w _ e => h.2 i w e⟩
theorem EnvX.r {K : PySem.W.Frag} {m : List Addr} {F : Hp} {env : Env} {σ : L2.St} (h : EnvX K er m F [] env σ) : EnvR K er m F env σ := ⟨h.1, fun i w e => h.2 i w (by simp) e⟩
theorem EnvX.set {K : PySem.W.Frag} {m : List Addr} {F : Hp} {env : Env} {σ : L2.St} {w : Mi.W} {v : V} {i : Nat} {js : List Nat} (h : EnvX K er m F (i :: js) env σ) (r : RelW K er m F w v) : EnvX K er m F js (env.set i (some w)) (σ.set i (some v)) := by
  refine ⟨by rw [List.length_set, List.length_set]; exact h.1, fun j w' hn e => ?_⟩
  by_cases hj : i = j
  · subst hj
    have hl : i < env.length := by
      have := (List.getElem?_eq_some_iff.mp e).1
      simpa using this
    rw [List.getElem?_set_self hl] at e
    cases e
    exact ⟨v, List.getElem?_set_self (by rw [← h.1]; exact hl), r⟩
  · rw [List.getElem?_set_ne hj] at e
    rw [List.getElem?_set_ne hj]
    exact h.2 j w' (by simp only [List.mem_cons, not_or]; exact ⟨Ne.symm hj, hn⟩) e
theorem wipe_get {σ : L2.St} {i : Nat} : ∀ {vs : List Nat}, i ∉ vs → (wipe σ vs)[i]? = σ[i]?
  | [], _ => rfl
  | v :: vs, h => by
    simp only [List.mem_cons, not_or] at h
    unfold wipe
    rw [List.getElem?_set_ne (Ne.symm h.1)]
    exact wipe_get h.2
theorem EnvR.wiped {K : PySem.W.Frag} {m : List Addr} {F : Hp} {env : Env} {σ : L2.St} (vs : List Nat) (h : EnvR K er m F env σ) : EnvX K er m F vs env (wipe σ vs) :=
  ⟨by rw [wipe_length]; exact h.1, fun i w hn e => by rw [wipe_get hn]; exact h.2 i w e⟩
theorem putAll_g {K : PySem.W.Frag} {m : List Addr} {F H : Hp} {vs : List Nat} {Q : L2.St → Hp → Prop} : ∀ {is : List Nat} {xs : List PyData} {us : List V} {env env' : Env} {σ : L2.St}, putAll is xs env = some env' → RpL F xs us → EnvX K er m F is env σ →
    (∀ σ', EnvR K er m F env' σ' → ((∀ i ∈ is, i ∈ vs) → wipe σ' vs = wipe σ vs) → Q σ' H) → us.length = is.length ∧ gsets is us σ H Q
  | [], [], us, env, env', σ, e, r, ev, k => by
    simp only [putAll, Option.some.injEq] at e
    subst e
    have := RpL.nil_iff.mp r
    subst this
    exact ⟨rfl, rfl, k σ ev.r fun _ => rfl⟩
  | [], _ :: _, _, _, _, _, e, _, _, _ => by simp [putAll] at e
  | _ :: _, [], _, _, _, _, e, _, _, _ => by simp [putAll] at e
  | i :: is, x :: xs, us, env, env', σ, e, r, ev, k => by
    obtain ⟨v, w, rfl, r1, r2⟩ := RpL.cons_iff.mp r
    simp only [putAll] at e
    have ih := putAll_g (H := H) (vs := vs) (Q := Q) e r2 (ev.set (w := .d x) r1) fun σ' h1 h2 => k σ' h1 fun hi => by
      rw [h2 fun j hj => hi j (List.mem_cons_of_mem _ hj)]
      exact wipe_set (hi i List.mem_cons_self)
    exact ⟨by rw [List.length_cons, List.length_cons, ih.1], v, w, rfl, ih.2⟩
theorem aim_g {K : PySem.W.Frag} {m : List Addr} {F H : Hp} {vs : List Nat} {Q : L2.St → Hp → Prop} {t : Tg} {x : PyData} {v : V} {env env' : Env} {σ : L2.St} (sub : Sub F (dn H)) (e : aim t x env = some env') (r : Rp F x v) (ev : EnvX K er m F (tgIs t) env σ)
    (k : ∀ σ', EnvR K er m F env' σ' → ((∀ i ∈ tgIs t, i ∈ vs) → wipe σ' vs = wipe σ vs) → Q σ' H) : gA K t v σ H Q := by
  cases t with
  | nm i =>
    simp only [aim, Option.some.injEq] at e
    subst e
    exact k _ (EnvX.set (js := []) ev (w := .d x) r).r fun hi => wipe_set (hi i List.mem_cons_self)
  | tp is =>
    simp only [aim] at e
    split at e
    · rename_i xs
      obtain ⟨a, us, rfl, h1, h2⟩ := Rp.tuple_iff.mp r
      obtain ⟨h3, h4⟩ := putAll_g (H := H) (vs := vs) (Q := Q) e h2 ev k
      exact ⟨a, us, rfl, SqT.dn (sub _ _ h1), h3, h4⟩
    · cases e
end

/-! ### walks -/
/-- J goes over xs as long as st says yes -/
def WalkOk (J : It) (xs : List PyData) (st : Hs → Bool) (m1 : List Addr) (F1 H1 : Hp) : Prop := ∀ m' F' H' hs', Ext m1 F1 H1 m' F' H' → Cells m' F' hs' H' → st hs' = true →
  (∀ (i : Nat) x, xs[i]? = some x → J.go i H' ∧ ∀ v H'', J.yld i H' v H'' → ∃ F'', Fin m' F' H' hs' m' F'' H'' ∧ Rp F'' x v) ∧ J.stop xs.length H'
section
variable {K : PySem.W.Frag} {er : Nat → V → Prop} {m : List Addr} {F H : Hp}
/-- a list that stands for good -/
theorem walk_list {a : Addr} {xs : List PyData} {vs : List V} {st : Hs → Bool} (h1 : F a = some (.lst vs)) (h2 : RpL F xs vs) : WalkOk (Itl K a) xs st m F H := by
  intro m' F' H' hs' e c _
  have h3 : SqL K H' a vs := SqL.dn (c.frz _ _ (e.frz _ _ h1))
  have h4 := RpL.sub e.frz _ _ h2
  refine ⟨fun i x hx => ?_, vs, h3, by rw [h2.length]; exact Nat.le_refl _⟩
  obtain ⟨v, h5, h6⟩ := h4.get' hx
  refine ⟨⟨vs, v, h3, h5⟩, fun v' H'' hy => ?_⟩
  obtain ⟨rfl, hz⟩ := hy
  have := hz vs h3
  rw [h5] at this
  cases this
  exact ⟨F', .refl c, h6⟩
theorem walk_tup {a : Addr} {xs : List PyData} {vs : List V} {st : Hs → Bool} (h1 : F a = some (.tup vs)) (h2 : RpL F xs vs) : WalkOk (Itt K a) xs st m F H := by
  intro m' F' H' hs' e c _
  have h3 : SqT K H' a vs := SqT.dn (c.frz _ _ (e.frz _ _ h1))
  have h4 := RpL.sub e.frz _ _ h2
  refine ⟨fun i x hx => ?_, vs, h3, by rw [h2.length]; exact Nat.le_refl _⟩
  obtain ⟨v, h5, h6⟩ := h4.get' hx
  refine ⟨⟨vs, v, h3, h5⟩, fun v' H'' hy => ?_⟩
  obtain ⟨rfl, hz⟩ := hy
  have := hz vs h3
  rw [h5] at this
  cases this
  exact ⟨F', .refl c, h6⟩
/-- a list that may be changed, but is not while it is walked -/
theorem walk_cell {a : Addr} {n : Nat} {xs : List PyData} (h1 : m[n]? = some a) : WalkOk (Itl K a) xs (stands n xs) m F H := by
  intro m' F' H' hs' e c hst
  have hst' : ∃ ys, hs'[n]? = some (.lst ys) ∧ sameL xs ys = true := by
    unfold stands at hst
    revert hst
    split
    · rename_i ys hy
      exact fun hs => ⟨ys, hy, hs⟩
    · intro z
      cases z
  obtain ⟨ys, hy, hs⟩ := hst'
  have := sameL_eq hs
  subst this
  obtain ⟨vs, h3, h4⟩ := c.cell n _ a hy (e.get h1)
  have h3' : SqL K H' a vs := SqL.of h3
  refine ⟨fun i x hx => ?_, vs, h3', by rw [h4.length]; exact Nat.le_refl _⟩
  obtain ⟨v, h5, h6⟩ := h4.get' hx
  refine ⟨⟨vs, v, h3', h5⟩, fun v' H'' hy' => ?_⟩
  obtain ⟨rfl, hz⟩ := hy'
  have := hz vs h3'
  rw [h5] at this
  cases this
  exact ⟨F', .refl c, h6⟩
theorem upto_get : ∀ {n : Nat} {lo : Int} {i : Nat} {x : PyData}, (upto lo n)[i]? = some x → i < n ∧ x = .int (lo + (i : Nat))
  | 0, lo, i, x, h => by simp [upto] at h
  | n + 1, lo, 0, x, h => by
    simp [upto] at h
    exact ⟨Nat.succ_pos n, by rw [← h]; simp⟩
  | n + 1, lo, i + 1, x, h => by
    simp only [upto, List.getElem?_cons_succ] at h
    obtain ⟨h1, h2⟩ := upto_get h
    refine ⟨Nat.succ_lt_succ h1, ?_⟩
    rw [h2]
    congr 1
    push_cast
    omega
theorem upto_len : ∀ {n : Nat} {lo : Int}, (upto lo n).length = n
  | 0, _ => rfl
  | n + 1, lo => by simp [upto, upto_len]
theorem walk_rng {lo : Int} {n : Nat} {st : Hs → Bool} : WalkOk (Itr lo n) (upto lo n) st m F H := by
  intro m' F' H' hs' e c _
  refine ⟨fun i x hx => ?_, by rw [upto_len]; exact Nat.le_refl n⟩
  obtain ⟨h1, rfl⟩ := upto_get hx
  refine ⟨h1, fun v H'' hy => ?_⟩
  obtain ⟨rfl, rfl⟩ := hy
  exact ⟨F', .refl c, rp_int⟩
theorem zipD_get : ∀ {xs ys : List PyData} {i : Nat} {z : PyData}, (zipD xs ys)[i]? = some z → ∃ x y, xs[i]? = some x ∧ ys[i]? = some y ∧ z = .tuple [x, y]
  | [], _, i, z, h => by simp [zipD] at h
  | _ :: _, [], i, z, h => by simp [zipD] at h
  | x :: xs, y :: ys, 0, z, h => by
    simp [zipD] at h
    exact ⟨x, y, rfl, rfl, h.symm⟩
  | x :: xs, y :: ys, i + 1, z, h => by
    simp only [zipD, List.getElem?_cons_succ] at h ⊢
    exact zipD_get h
theorem zipD_len : ∀ {xs ys : List PyData}, (zipD xs ys).length = min xs.length ys.length
  | [], _ => by simp [zipD]
  | _ :: _, [] => by simp [zipD]
  | x :: xs, y :: ys => by
    simp only [zipD, List.length_cons, zipD_len]
    omega
/-- a new pair -/
theorem new_pair {F' H' : Hp} {m' : List Addr} {hs' : Hs} {x y : PyData} {v u : V} {T : Addr} (c : Cells m' F' hs' H') (n : H' T = none) {o : Obj} (nd : o.dict = none) (h1 : Rp F' x v) (h2 : Rp F' y u) : ∃ F'', Fin m' F' H' hs' m' F'' (upd H' T (.frz o (.tup [v, u]))) ∧ Rp F'' (.tuple [x, y]) (.ref T) := by
  obtain ⟨c2, e2⟩ := c.new (o := .frz o (.tup [v, u])) n
  have f := c.fnone n
  refine ⟨upd F' T (.tup [v, u]), ⟨ext_hold e2 f n, c2.hold (dn_mk upd_same nd) f (c.mnone n)⟩, ?_⟩
  exact Rp.tuple_iff.mpr ⟨T, _, rfl, upd_same, .cons (Rp.sub (sub_upd f) _ _ h1) (.cons (Rp.sub (sub_upd f) _ _ h2) (RpL.nil_iff.mpr rfl))⟩
/-- the list at a reads as xs as long as st says yes -/
def SrcOk (a : Addr) (xs : List PyData) (st : Hs → Bool) (m1 : List Addr) (F1 : Hp) : Prop := ∀ m' F' H' hs', (∀ (n : Nat) a, m1[n]? = some a → m'[n]? = some a) → Sub F1 F' → Cells m' F' hs' H' → st hs' = true → ∃ vs, H' a = some (.lst vs) ∧ RpL F' xs vs
theorem src_frz {a : Addr} {xs : List PyData} {vs : List V} {st : Hs → Bool} (h1 : F a = some (.lst vs)) (h2 : RpL F xs vs) : SrcOk a xs st m F := fun m' F' H' hs' g e c _ => ⟨vs, dn_of (c.frz _ _ (e _ _ h1)) (fun _ z => nomatch z), RpL.sub e _ _ h2⟩
theorem src_cell {a : Addr} {n : Nat} {xs : List PyData} (h1 : m[n]? = some a) : SrcOk a xs (stands n xs) m F := by
  intro m' F' H' hs' g e c hst
  have hst' : ∃ ys, hs'[n]? = some (.lst ys) ∧ sameL xs ys = true := by
    unfold stands at hst
    revert hst
    split
    · rename_i ys hy
      exact fun hs => ⟨ys, hy, hs⟩
    · intro z
      cases z
  obtain ⟨ys, hy, hs⟩ := hst'
  have := sameL_eq hs
  subst this
  exact c.cell n _ a hy (g n a h1)
theorem walk_zip {a b : Addr} {xs ys : List PyData} {st st2 : Hs → Bool} (h1 : SrcOk a xs st m F) (h2 : SrcOk b ys st2 m F) : WalkOk (IzL K a b) (zipD xs ys) (fun h => st h && st2 h) m F H := by
  intro m' F' H' hs' e c hst
  simp only [Bool.and_eq_true] at hst
  obtain ⟨vs, k1', r1⟩ := h1 m' F' H' hs' (fun _ _ z => e.get z) e.frz c hst.1
  obtain ⟨us, k2', r2⟩ := h2 m' F' H' hs' (fun _ _ z => e.get z) e.frz c hst.2
  have k1 : SqL K H' a vs := SqL.of k1'
  have k2 : SqL K H' b us := SqL.of k2'
  refine ⟨fun i z hz => ?_, vs, us, k1, k2, ?_⟩
  · obtain ⟨x, y, hx, hy, rfl⟩ := zipD_get hz
    obtain ⟨v, g1, g2⟩ := r1.get' hx
    obtain ⟨u, g3, g4⟩ := r2.get' hy
    refine ⟨⟨vs, us, v, u, k1, k2, g1, g3⟩, fun w H'' hw => ?_⟩
    obtain ⟨T, v', u', o, rfl, n, nd, rfl, q1, q2⟩ := hw
    have := q1 vs k1
    rw [g1] at this
    cases this
    have := q2 us k2
    rw [g3] at this
    cases this
    exact new_pair c n nd g2 g4
  · rw [zipD_len, r1.length, r2.length]
    omega
theorem walk_zipT {a b : Addr} {xs ys : List PyData} {vs us : List V} {st : Hs → Bool} (h1 : F a = some (.tup vs)) (h2 : RpL F xs vs) (h3 : F b = some (.tup us)) (h4 : RpL F ys us) : WalkOk (IzT K a b) (zipD xs ys) st m F H := by
  intro m' F' H' hs' e c _
  have k1 : SqT K H' a vs := SqT.dn (c.frz _ _ (e.frz _ _ h1))
  have k2 : SqT K H' b us := SqT.dn (c.frz _ _ (e.frz _ _ h3))
  refine ⟨fun i z hz => ?_, vs, us, k1, k2, ?_⟩
  · obtain ⟨x, y, hx, hy, rfl⟩ := zipD_get hz
    obtain ⟨v, g1, g2⟩ := (RpL.sub e.frz _ _ h2).get' hx
    obtain ⟨u, g3, g4⟩ := (RpL.sub e.frz _ _ h4).get' hy
    refine ⟨⟨vs, us, v, u, k1, k2, g1, g3⟩, fun w H'' hw => ?_⟩
    obtain ⟨T, v', u', o, rfl, n, nd, rfl, q1, q2⟩ := hw
    have := q1 vs k1
    rw [g1] at this
    cases this
    have := q2 us k2
    rw [g3] at this
    cases this
    exact new_pair c n nd g2 g4
  · rw [zipD_len, h2.length, h4.length]
    omega
theorem enumD_get : ∀ {xs : List PyData} {n : Int} {i : Nat} {z : PyData}, (enumD xs n)[i]? = some z → ∃ x, xs[i]? = some x ∧ z = .tuple [.int (n + (i : Nat)), x]
  | [], n, i, z, h => by simp [enumD] at h
  | x :: xs, n, 0, z, h => by
    simp [enumD] at h
    exact ⟨x, rfl, by rw [← h]; simp⟩
  | x :: xs, n, i + 1, z, h => by
    simp only [enumD, List.getElem?_cons_succ] at h ⊢
    obtain ⟨y, h1, h2⟩ := enumD_get h
    refine ⟨y, h1, ?_⟩
    rw [h2]
    congr 3
    push_cast
    omega
theorem enumD_len : ∀ {xs : List PyData} {n : Int}, (enumD xs n).length = xs.length
  | [], _ => rfl
  | x :: xs, n => by simp [enumD, enumD_len]
theorem walk_enum {a : Addr} {xs : List PyData} {vs : List V} {st : Hs → Bool} (h1 : F a = some (.lst vs)) (h2 : RpL F xs vs) : WalkOk (IteL K a) (enumD xs 0) st m F H := by
  intro m' F' H' hs' e c _
  have k1 : SqL K H' a vs := SqL.dn (c.frz _ _ (e.frz _ _ h1))
  refine ⟨fun i z hz => ?_, vs, k1, by rw [enumD_len, h2.length]; exact Nat.le_refl _⟩
  obtain ⟨x, hx, rfl⟩ := enumD_get hz
  obtain ⟨v, g1, g2⟩ := (RpL.sub e.frz _ _ h2).get' hx
  refine ⟨⟨vs, v, k1, g1⟩, fun w H'' hw => ?_⟩
  obtain ⟨T, v', o, rfl, n, nd, rfl, q1⟩ := hw
  have := q1 vs k1
  rw [g1] at this
  cases this
  rw [Int.zero_add]
  exact new_pair c n nd rp_int g2
end
theorem walk_enumT {K : PySem.W.Frag} {m : List Addr} {F H : Hp} {a : Addr} {xs : List PyData} {vs : List V} {st : Hs → Bool} (h1 : F a = some (.tup vs)) (h2 : RpL F xs vs) : WalkOk (IteT K a) (enumD xs 0) st m F H := by
  intro m' F' H' hs' e c _
  have k1 : SqT K H' a vs := SqT.dn (c.frz _ _ (e.frz _ _ h1))
  refine ⟨fun i z hz => ?_, vs, k1, by rw [enumD_len, h2.length]⟩
  obtain ⟨x, hx, rfl⟩ := enumD_get hz
  obtain ⟨v, g1, g2⟩ := (RpL.sub e.frz _ _ h2).get' hx
  refine ⟨⟨vs, v, k1, g1⟩, fun w H'' ⟨T, v', o, e1, n, nd, e2, q1⟩ => ?_⟩
  subst e1 e2
  have := q1 vs k1
  rw [g1] at this
  cases this
  rw [Int.zero_add]
  exact new_pair c n nd rp_int g2
theorem walk_enumC {K : PySem.W.Frag} {m : List Addr} {F H : Hp} {a : Addr} {n : Nat} {xs : List PyData} (h1 : m[n]? = some a) : WalkOk (IteL K a) (enumD xs 0) (stands n xs) m F H := by
  intro m' F' H' hs' e c hst
  have hst' : ∃ ys, hs'[n]? = some (.lst ys) ∧ sameL xs ys = true := by
    unfold stands at hst
    revert hst
    split
    · rename_i ys hy
      exact fun hs => ⟨ys, hy, hs⟩
    · intro z
      cases z
  obtain ⟨ys, hy, hs⟩ := hst'
  have := sameL_eq hs
  subst this
  obtain ⟨vs, h3, h4⟩ := c.cell n _ a hy (e.get h1)
  have k1 : SqL K H' a vs := SqL.of h3
  refine ⟨fun i z hz => ?_, vs, k1, by rw [enumD_len, h4.length]; exact Nat.le_refl _⟩
  obtain ⟨x, hx, rfl⟩ := enumD_get hz
  obtain ⟨v, g1, g2⟩ := h4.get' hx
  refine ⟨⟨vs, v, k1, g1⟩, fun w H'' hw => ?_⟩
  obtain ⟨T, v', o, rfl, n, nd, rfl, q1⟩ := hw
  have := q1 vs k1
  rw [g1] at this
  cases this
  rw [Int.zero_add]
  exact new_pair c n nd rp_int g2

/-! ### the walked thing's rules -/
/-- no object is longer than the line -/
structure Sz (H : Hp) : Prop where
  lst : ∀ {a : Addr} {vs : List V}, dn H a = some (.lst vs) → vs.length ≤ sizeLine
  tup : ∀ {a : Addr} {vs : List V}, dn H a = some (.tup vs) → vs.length ≤ sizeLine
theorem Sz.of {X : Cx} {pins : List (Addr × Obj)} {σ : L2.St} {H : Hp} {s : Shared} (I : Inv X pins σ H s) : Sz H := ⟨fun h => (I.hok _ _ (dn_of h fun _ z => nomatch z)).1, fun h => let ⟨_, e, _⟩ := dn_tup h; (I.hok _ _ e).2.1⟩
theorem pa_sz {X : Cx} {es : List Expr} {t : TA} (h : PA X es t) : PA X es (fun σ H Q => t σ H fun vs H1 => Sz H1 → Q vs H1) :=
  ⟨fun pos pins s σ H Q I q => thn (h.run pos pins s σ H _ I q) fun us s1 ⟨vs, H1, I1, r1, q1⟩ => ⟨vs, H1, I1, r1, q1 (.of I1)⟩⟩
def tI (K : PySem.W.Frag) (er : Nat → V → Prop) (G : Ctx) (W : WX) (C : Cf) (k : IK) (ie : E) : TI := fun σ H R => ∃ (m : List Addr) (F : Hp) (env : Env) (hs : Hs), Sm K er m F env hs σ H ∧
  Post ((evalL C ie env hs).bind fun rs h => Res.of (walk k rs h) h) m F H (fun p m' F' H' _ => ∀ J, WalkOk J p.1 p.2 m' F' H' → p.1.length ≤ sizeLine → R J H') (wn G W σ)
section
variable {G : Ctx} {X : Cx} {N : List Str} {sc : Scope} {C : Cf} {cm : Bool} {er : Nat → V → Prop} {W : WX}
variable {pins : List (Addr × Obj)} {σ : L2.St} {H : Hp} {s : Shared} {tg : Expr} {R' : It → Hp → Prop} {a : Addr} {xs : List V} {E' : Value → Shared → Prop}
theorem it_list (I : Inv X pins σ H s) (hq : SqL X.K H a xs) (q : R' (Itl X.K a) H) : wpAny (model X.prog X.w) X.A (pyIter (.ref a)) (PIE X pins σ tg R') E' s := by
  obtain ⟨its, _, p, _⟩ := I.list hq
  exact wpAny_pyIter_list p.isList (pi_one (tk := s.toks) I _ (turn_list a _) ⟨_, Heap.get?_push_size _ rfl, rfl, rfl⟩ q)
theorem it_tup (I : Inv X pins σ H s) (hq : SqT X.K H a xs) (q : R' (Itt X.K a) H) : wpAny (model X.prog X.w) X.A (pyIter (.ref a)) (PIE X pins σ tg R') E' s := by
  obtain ⟨its, _, p, _⟩ := I.tuple hq
  exact wpAny_pyIter_tuple (show s.heap.IsTuple a its.toArray from p) (pi_one (tk := s.toks) I _ (turn_tuple a _) ⟨_, Heap.get?_push_size _ rfl, rfl, rfl⟩ q)
theorem it_str {x : Str} {t : Tok} (I : Inv X pins σ H s) (q : R' (Its x) H) : wpAny (model X.prog X.w) X.A (pyIter (.str x t)) (PIE X pins σ tg R') E' s := by
  by_cases h : x.cps.all (· < 128) = true
  · exact wpAny_pyIter_ascii h (pi_one (tk := s.toks) I _ (turn_str _ x t "str_ascii_iterator" (.inl rfl)) ⟨_, Heap.get?_push_size _ rfl, rfl, rfl⟩ q)
  · exact wpAny_pyIter_wide (by simpa using h) (pi_one (tk := s.toks) I _ (turn_str _ x t "str_iterator" (.inr rfl)) ⟨_, Heap.get?_push_size _ rfl, rfl, rfl⟩ q)
theorem walk_str {K : PySem.W.Frag} {m : List Addr} {F : Hp} {x : Str} {st : Hs → Bool} : WalkOk (Its x) (signs x) st m F H := by
  intro m' F' H' hs' e c _
  refine ⟨fun i z hz => ?_, by show x.cps.size ≤ (signs x).length; simp [signs]⟩
  unfold signs at hz
  rw [List.getElem?_map] at hz
  cases hc : x.cps.toList[i]? with
  | none => rw [hc] at hz; cases hz
  | some d =>
    rw [hc] at hz
    cases hz
    have hc' : x.cps[i]? = some d := by simpa using hc
    refine ⟨by
      have := (Array.getElem?_eq_some_iff.mp hc').1
      exact this, fun v H'' hv => ?_⟩
    obtain ⟨rfl, d', hd, rfl⟩ := hv
    rw [hc'] at hd
    cases hd
    exact ⟨F', .refl c, rp_str⟩
end
section
variable {G : Ctx} {X : Cx} {N : List Str} {sc : Scope} {C : Cf} {cm : Bool} {er : Nat → V → Prop} {W : WX} {tg : Expr}
/-- a fresh list is held ahead of its walk -/
theorem look_held {m m1 : List Addr} {F F1 H H1 : Hp} {hs1 : Hs} {r : R} {v : V} {xs : List PyData} (f : Fin m F H hs1 m1 F1 H1) (rv : RelR X.K er m1 F1 H H1 r v) (hr : ∀ n, r ≠ .v (.r n)) (e : look hs1 r = some (.list xs)) :
    ∃ F2 a vs, Fin m F H hs1 m1 F2 H1 ∧ v = .ref a ∧ F2 a = some (.lst vs) ∧ RpL F2 xs vs ∧ Held X.K er m1 F1 H H1 hs1 F2 := by
  have hw : r.w = some (.d (.list xs)) := by
    unfold look at e
    split at e
    · cases e; rfl
    · rename_i n; exact absurd rfl (hr n)
    · cases e; rfl
    · cases e
    · cases e
  obtain ⟨F2, h2, r2⟩ := hold1 f.2 rv.hd hw
  obtain ⟨a, vs, e1, e2, e3⟩ := Rp.list_iff.mp r2
  exact ⟨F2, a, vs, h2.fin f, e1, e2, e3, h2⟩
theorem look_heldH {m m1 : List Addr} {F F1 H H1 : Hp} {hs1 : Hs} {r : R} {v : V} {xs : List PyData} (f : Fin m F H hs1 m1 F1 H1) (rv : Hd X.K er m1 F1 H H1 r v) (hr : ∀ n, r ≠ .v (.r n)) (e : look hs1 r = some (.list xs)) :
    ∃ F2 a vs, Fin m F H hs1 m1 F2 H1 ∧ v = .ref a ∧ F2 a = some (.lst vs) ∧ RpL F2 xs vs ∧ Sub F1 F2 := by
  have hw : r.w = some (.d (.list xs)) := by
    unfold look at e
    split at e
    · cases e; rfl
    · rename_i n; exact absurd rfl (hr n)
    · cases e; rfl
    · cases e
    · cases e
  obtain ⟨F2, h2, r2⟩ := hold1 f.2 rv hw
  obtain ⟨a, vs, e1, e2, e3⟩ := Rp.list_iff.mp r2
  exact ⟨F2, a, vs, h2.fin f, e1, e2, e3, h2.s⟩
theorem cellOf_i {r : R} {n : Nat} (h : cellOf r = some n) : r = .v (.r n) := by
  unfold cellOf at h
  split at h
  · cases h
    rfl
  · cases h
theorem cellOf_n {r : R} (h : cellOf r = none) (n : Nat) : r ≠ .v (.r n) := fun z => by
  subst z
  cases h
theorem s_plain {a : E} {x : Expr} (ha : PE X x (tE X.K er G W C a)) : PI X tg x (tI X.K er G W C .plain (.cons a .nil)) := by
  refine ⟨fun pins s σ H R' I ⟨m, F, env, hs, S, q⟩ => ?_⟩
  simp only [evalL] at q
  have h1 : tE X.K er G W C a σ H (fun v H1 => ∃ m1 F1 hs1 r, Fin m F H hs1 m1 F1 H1 ∧ RelR X.K er m1 F1 H H1 r v ∧ Post (Res.of (walk .plain [r] hs1) hs1) m F H (fun p m' F' H' _ => ∀ J, WalkOk J p.1 p.2 m' F' H' → p.1.length ≤ sizeLine → R' J H') (wn G W σ)) :=
    sub_E (.refl S.c) S (Post.asc q) fun r m1 F1 H1 hs1 v f1 _ s1 rv q1 => ⟨m1, F1, hs1, r, f1, rv, by simpa only [Res.bind_ok] using q1⟩
  refine thn (ha.run pins s σ H _ I h1) fun v s1 ⟨x, H1, I1, r1, m1, F1, hs1, r, f1, rv, q1⟩ => ?_
  obtain ⟨p, e, q2⟩ := post_of q1
  have q3 : ∀ m' F' H', Fin m F H hs1 m' F' H' → ∀ J, WalkOk J p.1 p.2 m' F' H' → p.1.length ≤ sizeLine → R' J H' := q2
  change plainW r hs1 = some p at e
  unfold plainW at e
  split at e
  · rename_i n hn
    obtain rfl := cellOf_i hn
    obtain ⟨b, h2, rfl⟩ := rv
    cases r1
    split at e
    · rename_i ys hy
      cases e
      obtain ⟨vs, h3, h4⟩ := f1.2.cell n _ b hy h2
      exact it_list I1 (SqL.of h3) (q3 m1 F1 H1 f1 _ (walk_cell h2) (by rw [← h4.length]; exact (Sz.of I1).lst (dn_lst h3)))
    · cases e
  · rename_i hn
    have hr := cellOf_n hn
    split at e
    · rename_i ys hy
      cases e
      obtain ⟨F2, b, vs, f2, rfl, h3, h4, _⟩ := look_held f1 rv hr hy
      cases r1
      exact it_list I1 (SqL.dn (f2.2.frz _ _ h3)) (q3 m1 F2 H1 f2 _ (walk_list h3 h4) (by rw [← h4.length]; exact (Sz.of I1).lst (f2.2.frz _ _ h3)))
    · rename_i ys hy
      cases e
      obtain ⟨b, vs, rfl, h3, h4⟩ := Rp.tuple_iff.mp (look_lk f1.2 rv hy)
      cases r1
      exact it_tup I1 (SqT.dn (f1.2.frz _ _ h3)) (q3 m1 F1 H1 f1 _ (walk_tup h3 h4) (by rw [← h4.length]; exact (Sz.of I1).tup (f1.2.frz _ _ h3)))
    · rename_i z hz
      split at e
      · rename_i hl
        cases e
        have := Rp.str_of (F := F1) (look_lk f1.2 rv hz)
        subst this
        obtain ⟨t, rfl⟩ := r1
        exact it_str I1 (q3 m1 F1 H1 f1 _ (walk_str (K := X.K)) (by simp [signs]; exact line_le hl))
      · cases e
    · cases e
theorem far_i {n : Int} (h : far n = true) : -(2 ^ 62) ≤ n ∧ n < 2 ^ 62 := by
  simp only [far, Bool.and_eq_true, decide_eq_true_eq] at h
  omega
theorem far_line {n : Int} (h : far n = true) : n.toNat ≤ line := by
  simp only [far, Bool.and_eq_true, decide_eq_true_eq] at h
  show n.toNat ≤ 16777216
  omega
theorem far_line2 {a b : Int} (h : (far a && far b) = true) : (b - a).toNat ≤ line := by
  simp only [far, Bool.and_eq_true, decide_eq_true_eq] at h
  show (b - a).toNat ≤ 16777216
  omega
theorem s_rng1 (hx : XOk G X N sc C cm er W) {a : E} {x : Expr} {p p' : Pos} (hg : glOk sc "range" = true) (hbt : ("range" : Str) ∈ G.bt) (ns : noStar x = true) (ha : PE X x (tE X.K er G W C a)) : PI X tg (.Call (.Name "range" p) [x] [] p') (tI X.K er G W C .rng1 (.cons a .nil)) := by
  obtain ⟨h1, _, _⟩ := glOk_i hx hg
  refine ⟨fun pins s σ H R' I ⟨m, F, env, hs, S, q⟩ => ?_⟩
  refine (pi_range1 (tg := tg) h1 (hx.bt _ hbt) (pa_cons ha pa_nil (starE ns)) (starE ns)).run pins s σ H R' I ?_
  simp only [evalL] at q
  refine sub_E (.refl S.c) S (Post.asc q) fun r m1 F1 H1 hs1 v f1 _ s1 rv q1 => ?_
  simp only [Res.bind_ok] at q1
  obtain ⟨pp, e, q2⟩ := post_of q1
  have q3 : ∀ m' F' H', Fin m F H hs1 m' F' H' → ∀ J, WalkOk J pp.1 pp.2 m' F' H' → pp.1.length ≤ sizeLine → R' J H' := q2
  change rng1W r = some pp at e
  unfold rng1W at e
  split at e
  · rename_i n
    split at e
    · rename_i hf
      cases e
      obtain ⟨g1, g2⟩ := far_i hf
      refine ⟨n, ?_, g1, g2, q3 m1 F1 H1 f1 _ walk_rng (by rw [upto_len]; exact line_le (far_line hf))⟩
      rw [Rp.int_of (F := F1) rv]
    · cases e
  · cases e
theorem s_rng2 (hx : XOk G X N sc C cm er W) {a b : E} {x y : Expr} {p p' : Pos} (hg : glOk sc "range" = true) (hbt : ("range" : Str) ∈ G.bt) (ns : noStar x = true) (ns' : noStar y = true) (ha : PE X x (tE X.K er G W C a)) (hb : PE X y (tE X.K er G W C b)) :
    PI X tg (.Call (.Name "range" p) [x, y] [] p') (tI X.K er G W C .rng2 (.cons a (.cons b .nil))) := by
  obtain ⟨h1, _, _⟩ := glOk_i hx hg
  refine ⟨fun pins s σ H R' I ⟨m, F, env, hs, S, q⟩ => ?_⟩
  refine (pi_range2 (tg := tg) h1 (hx.bt _ hbt) (pa_cons ha (pa_cons hb pa_nil (starE ns')) (starE ns)) (by rw [starE ns, starE ns']; rfl) (starE ns')).run pins s σ H R' I ?_
  simp only [evalL] at q
  refine sub_E (.refl S.c) S (Post.asc q) fun r m1 F1 H1 hs1 v f1 _ s1 rv q1 => ?_
  refine sub_E f1 s1 (Post.asc (Post.asc q1)) fun r2 m2 F2 H2 hs2 v2 f2 g2 s2 rv2 q2 => ?_
  simp only [Res.bind_ok] at q2
  obtain ⟨pp, e, q4⟩ := post_of q2
  have q3 : ∀ m' F' H', Fin m F H hs2 m' F' H' → ∀ J, WalkOk J pp.1 pp.2 m' F' H' → pp.1.length ≤ sizeLine → R' J H' := q4
  change rng2W r r2 = some pp at e
  unfold rng2W at e
  split at e
  · rename_i i j
    split at e
    · rename_i hf
      cases e
      have hf' : far i = true ∧ far j = true := (Bool.and_eq_true _ _).mp hf
      obtain ⟨g1, g2'⟩ := far_i hf'.1
      obtain ⟨g3, g4⟩ := far_i hf'.2
      refine ⟨i, j, ?_, ⟨g1, g2', g3, g4⟩, q3 m2 F2 H2 f2 _ walk_rng (by rw [upto_len]; exact line_le (far_line2 hf))⟩
      rw [Rp.int_of (F := F1) rv, Rp.int_of (F := F2) rv2]
    · cases e
  · cases e
theorem downto_get : ∀ {n : Nat} {lo : Int} {i : Nat} {x : PyData}, (downto lo n)[i]? = some x → i < n ∧ x = .int (lo + (i : Nat) * (-1))
  | 0, lo, i, x, h => by simp [downto] at h
  | n + 1, lo, 0, x, h => by
    simp [downto] at h
    subst h
    exact ⟨by omega, by simp⟩
  | n + 1, lo, i + 1, x, h => by
    simp only [downto, List.getElem?_cons_succ] at h
    obtain ⟨h1, h2⟩ := downto_get h
    refine ⟨by omega, ?_⟩
    rw [h2]
    congr 1
    omega
theorem downto_len : ∀ {n : Nat} {lo : Int}, (downto lo n).length = n
  | 0, _ => rfl
  | n + 1, lo => by simp [downto, downto_len]
theorem walk_rngD {m : List Addr} {F H : Hp} {lo : Int} {n : Nat} {st : Hs → Bool} : WalkOk (Itc lo (-1) n) (downto lo n) st m F H := by
  intro m' F' H' hs' e c _
  refine ⟨fun i x hx => ?_, by rw [downto_len]; exact Nat.le_refl _⟩
  obtain ⟨h1, rfl⟩ := downto_get hx
  exact ⟨h1, fun v H'' ⟨e1, e2⟩ => by
    subst e1 e2
    exact ⟨F', .refl c, rp_int⟩⟩
theorem s_rng3 (hx : XOk G X N sc C cm er W) {a b c : E} {x y z : Expr} {p p' : Pos} (hg : glOk sc "range" = true) (hbt : ("range" : Str) ∈ G.bt) (ns : noStar x = true) (ns' : noStar y = true) (ns2 : noStar z = true) (ha : PE X x (tE X.K er G W C a)) (hb : PE X y (tE X.K er G W C b)) (hc : PE X z (tE X.K er G W C c)) :
    PI X tg (.Call (.Name "range" p) [x, y, z] [] p') (tI X.K er G W C .rng3 (.cons a (.cons b (.cons c .nil)))) := by
  obtain ⟨h1, _, _⟩ := glOk_i hx hg
  refine ⟨fun pins s σ H R' I ⟨m, F, env, hs, S, q⟩ => ?_⟩
  refine (pi_range3 h1 (hx.bt _ hbt) (pa_cons ha (pa_cons hb (pa_cons hc pa_nil (starE ns2)) (starE ns')) (starE ns)) (starE ns) (star_plain (fun e he => by
    rcases List.mem_cons.mp he with rfl | he
    · exact ns'
    · rw [List.mem_singleton.mp he]; exact ns2))).run pins s σ H R' I ?_
  simp only [evalL] at q
  refine sub_E (.refl S.c) S (Post.asc q) fun r m1 F1 H1 hs1 v f1 _ s1 rv q1 => ?_
  refine sub_E f1 s1 (Post.asc (Post.asc q1)) fun r2 m2 F2 H2 hs2 v2 f2 g2 s2 rv2 q2 => ?_
  refine sub_E f2 s2 (Post.asc (Post.asc q2)) fun r3 m3 F3 H3 hs3 v3 f3 g3 s3 rv3 q3 => ?_
  simp only [Res.bind_ok] at q3
  obtain ⟨pp, e, q4⟩ := post_of q3
  have q5 : ∀ m' F' H', Fin m F H hs3 m' F' H' → ∀ J, WalkOk J pp.1 pp.2 m' F' H' → pp.1.length ≤ sizeLine → R' J H' := q4
  change rng3W r r2 r3 = some pp at e
  unfold rng3W at e
  split at e
  · rename_i i j k
    split at e
    · rename_i hf
      cases e
      have f6 := of_decide_eq_true ((Bool.and_eq_true _ _).mp hf).2
      obtain ⟨f4, f5⟩ := (Bool.and_eq_true _ _).mp ((Bool.and_eq_true _ _).mp hf).1
      subst f6
      obtain ⟨b1, b2⟩ := far_i f4
      obtain ⟨b3, b4⟩ := far_i f5
      refine ⟨i, j, -1, (i - j).toNat, ?_, RgC.neg b1 b2 b3 b4, q5 m3 F3 H3 f3 _ walk_rngD ?_⟩
      · rw [Rp.int_of (F := F1) rv, Rp.int_of (F := F2) rv2, Rp.int_of (F := F3) rv3]
      · rw [downto_len]
        exact line_le (far_line2 (a := j) (b := i) ((Bool.and_eq_true _ _).mpr ⟨f5, f4⟩))
    · cases e
  · cases e
theorem s_enumN (hx : XOk G X N sc C cm er W) {a : E} {x : Expr} {y : Str} {p p' py : Pos} (hg : glOk sc "enumerate" = true) (hbt : ("enumerate" : Str) ∈ G.bt) (ns : noStar x = true) (ha : PE X x (tE X.K er G W C a)) :
    PI X (.Name y py) (.Call (.Name "enumerate" p) [x] [] p') (tI X.K er G W C .enumN (.cons a .nil)) := by
  obtain ⟨h1, _, _⟩ := glOk_i hx hg
  refine ⟨fun pins s σ H R' I ⟨m, F, env, hs, S, q⟩ => ?_⟩
  refine (pi_enumN (px := py) (x := y) h1 (hx.bt _ hbt) (pa_sz (pa_cons ha pa_nil (starE ns))) (starE ns)).run pins s σ H R' I ?_
  simp only [evalL] at q
  refine sub_E (.refl S.c) S (Post.asc q) fun r m1 F1 H1 hs1 v f1 _ s1 rv q1 => ?_
  simp only [Res.bind_ok] at q1
  obtain ⟨pp, e, q2⟩ := post_of q1
  have q3 : ∀ m' F' H', Fin m F H hs1 m' F' H' → ∀ J, WalkOk J pp.1 pp.2 m' F' H' → pp.1.length ≤ sizeLine → R' J H' := q2
  intro sz
  change (match look hs1 r with | some (.tuple xs) => some (enumD xs 0, yes) | _ => none) = some pp at e
  split at e
  · rename_i ys hy
    cases e
    obtain ⟨b, vs, rfl, h3, h4⟩ := Rp.tuple_iff.mp (look_lk f1.2 rv hy)
    exact ⟨b, vs, rfl, SqT.dn (f1.2.frz _ _ h3), q3 m1 F1 H1 f1 _ (walk_enumT h3 h4) (by rw [enumD_len, ← h4.length]; exact sz.tup (f1.2.frz _ _ h3))⟩
  · cases e
theorem s_enum (hx : XOk G X N sc C cm er W) {a : E} {x : Expr} {p p' tp : Pos} {kk : Nat} {elts : List Expr} (hg : glOk sc "enumerate" = true) (hbt : ("enumerate" : Str) ∈ G.bt) (ns : noStar x = true) (ha : PE X x (tE X.K er G W C a)) :
    PI X (.Tuple elts kk tp) (.Call (.Name "enumerate" p) [x] [] p') (tI X.K er G W C .enum (.cons a .nil)) := by
  obtain ⟨h1, _, _⟩ := glOk_i hx hg
  refine ⟨fun pins s σ H R' I ⟨m, F, env, hs, S, q⟩ => ?_⟩
  refine (pi_enumA (kk := kk) (elts := elts) (tpos := tp) h1 (hx.bt _ hbt) (pa_sz (pa_cons ha pa_nil (starE ns))) (starE ns)).run pins s σ H R' I ?_
  simp only [evalL] at q
  refine sub_E (.refl S.c) S (Post.asc q) fun r m1 F1 H1 hs1 v f1 _ s1 rv q1 => ?_
  simp only [Res.bind_ok] at q1
  obtain ⟨pp, e, q2⟩ := post_of q1
  have q3 : ∀ m' F' H', Fin m F H hs1 m' F' H' → ∀ J, WalkOk J pp.1 pp.2 m' F' H' → pp.1.length ≤ sizeLine → R' J H' := q2
  intro sz
  change enumW r hs1 = some pp at e
  unfold enumW at e
  split at e
  · rename_i n hn
    obtain rfl := cellOf_i hn
    obtain ⟨b, h2, rfl⟩ := rv
    split at e
    · rename_i ys hy
      cases e
      obtain ⟨vs, h3, h4⟩ := f1.2.cell n _ b hy h2
      exact ⟨b, vs, rfl, .inl ⟨SqL.of h3, q3 m1 F1 H1 f1 _ (walk_enumC h2) (by rw [enumD_len, ← h4.length]; exact sz.lst (dn_lst h3))⟩⟩
    · cases e
  · rename_i hn
    have hr := cellOf_n hn
    split at e
    · rename_i ys hy
      cases e
      obtain ⟨F2, b, vs, f2, rfl, h3, h4, _⟩ := look_held f1 rv hr hy
      exact ⟨b, vs, rfl, .inl ⟨SqL.dn (f2.2.frz _ _ h3), q3 m1 F2 H1 f2 _ (walk_enum h3 h4) (by rw [enumD_len, ← h4.length]; exact sz.lst (f2.2.frz _ _ h3))⟩⟩
    · rename_i ys hy
      cases e
      obtain ⟨b, vs, rfl, h3, h4⟩ := Rp.tuple_iff.mp (look_lk f1.2 rv hy)
      exact ⟨b, vs, rfl, .inr ⟨SqT.dn (f1.2.frz _ _ h3), q3 m1 F1 H1 f1 _ (walk_enumT h3 h4) (by rw [enumD_len, ← h4.length]; exact sz.tup (f1.2.frz _ _ h3))⟩⟩
    · cases e
/-- a list's source, held if it is new -/
theorem src_of {m m1 : List Addr} {F F1 H H1 : Hp} {hs1 : Hs} {r : R} {v : V} {p : List PyData × (Hs → Bool)} (f : Fin m F H hs1 m1 F1 H1) (rv : Hd X.K er m1 F1 H H1 r v) (e : lstSrc r hs1 = some p) :
    ∃ F2 a, Held X.K er m1 F1 H H1 hs1 F2 ∧ v = .ref a ∧ SrcOk a p.1 p.2 m1 F2 ∧ ∃ vs, H1 a = some (.lst vs) ∧ vs.length = p.1.length := by
  unfold lstSrc at e
  split at e
  · rename_i n hn
    obtain rfl := cellOf_i hn
    obtain ⟨b, h2, rfl⟩ := rv
    split at e
    · rename_i ys hy
      cases e
      obtain ⟨vs, h3, h4⟩ := f.2.cell n _ b hy h2
      exact ⟨F1, b, .refl f.2, rfl, src_cell h2, vs, h3, h4.length⟩
    · cases e
  · rename_i hn
    have hr := cellOf_n hn
    split at e
    · rename_i ys hy
      cases e
      have hw : r.w = some (.d (.list ys)) := by
        unfold look at hy
        split at hy
        · cases hy; rfl
        · rename_i n; exact absurd rfl (hr n)
        · cases hy; rfl
        · cases hy
        · cases hy
      obtain ⟨F2, h2, r2⟩ := hold1 f.2 rv hw
      obtain ⟨a, vs, e1, e2, e3⟩ := Rp.list_iff.mp r2
      exact ⟨F2, a, h2, e1, src_frz e2 e3, vs, dn_of (h2.c.frz _ _ e2) (fun _ z => nomatch z), e3.length⟩
    · cases e
theorem SrcOk.held {m1 : List Addr} {F1 F2 : Hp} {a : Addr} {xs : List PyData} {st : Hs → Bool} (h : SrcOk a xs st m1 F1) (sb : Sub F1 F2) : SrcOk a xs st m1 F2 := fun m' F' H' hs' g e c hst => h m' F' H' hs' g (sb.trans e) c hst
theorem s_zip (hx : XOk G X N sc C cm er W) {a b : E} {x y : Expr} {p p' tp : Pos} {kk : Nat} {elts : List Expr} (hg : glOk sc "zip" = true) (hbt : ("zip" : Str) ∈ G.bt) (ns : noStar x = true) (ns' : noStar y = true) (ha : PE X x (tE X.K er G W C a)) (hb : PE X y (tE X.K er G W C b)) :
    PI X (.Tuple elts kk tp) (.Call (.Name "zip" p) [x, y] [] p') (tI X.K er G W C .zip (.cons a (.cons b .nil))) := by
  obtain ⟨h1, _, _⟩ := glOk_i hx hg
  refine ⟨fun pins s σ H R' I ⟨m, F, env, hs, S, q⟩ => ?_⟩
  refine (pi_zipK (kk := kk) (elts := elts) (tpos := tp) h1 (hx.bt _ hbt) (pa_sz (pa_cons ha (pa_cons hb pa_nil (starE ns')) (starE ns))) (by rw [starE ns]) (by rw [starE ns']; rfl)).run pins s σ H R' I ?_
  simp only [evalL] at q
  refine sub_E (.refl S.c) S (Post.asc q) fun r m1 F1 H1 hs1 v f1 _ s1 rv q1 => ?_
  refine sub_E f1 s1 (Post.asc (Post.asc q1)) fun r2 m2 F2 H2 hs2 v2 f2 g2 s2 rv2 q2 => ?_
  simp only [Res.bind_ok] at q2
  obtain ⟨pp, e, q4⟩ := post_of q2
  have q3 : ∀ m' F' H', Fin m F H hs2 m' F' H' → ∀ J, WalkOk J pp.1 pp.2 m' F' H' → pp.1.length ≤ sizeLine → R' J H' := q4
  intro sz
  have rv' := rv.ext g2.1
  change zipW r r2 hs2 = some pp at e
  unfold zipW at e
  split at e
  · rename_i p u hp hu
    cases e
    obtain ⟨F3, b1, hd3, rfl, k1, vs, l1, l2⟩ := src_of f2 rv'.hd hp
    obtain ⟨F4, b2, hd4, rfl, k2, us, l3, l4⟩ := src_of (hd3.fin f2) (hd3.hd _ _ rv2.hd) hu
    have f4 := hd4.fin (hd3.fin f2)
    exact ⟨b1, b2, vs, us, rfl, .inl ⟨SqL.of l1, SqL.of l3, q3 m2 F4 H2 f4 _ (walk_zip (k1.held hd4.s) k2) (by
      rw [zipD_len, ← l2]
      exact Nat.le_trans (Nat.min_le_left _ _) (sz.lst (dn_lst l1)))⟩⟩
  · split at e
    · rename_i xs ys hy hy2
      cases e
      obtain ⟨b1, vs, rfl, h3, h4⟩ := Rp.tuple_iff.mp (look_lk f2.2 rv' hy)
      obtain ⟨b2, us, rfl, h5, h6⟩ := Rp.tuple_iff.mp (look_lk f2.2 rv2 hy2)
      exact ⟨b1, b2, vs, us, rfl, .inr ⟨SqT.dn (f2.2.frz _ _ h3), SqT.dn (f2.2.frz _ _ h5), q3 m2 F2 H2 f2 _ (walk_zipT h3 h4 h5 h6) (by
        rw [zipD_len, ← h4.length]
        exact Nat.le_trans (Nat.min_le_left _ _) (sz.tup (f2.2.frz _ _ h3)))⟩⟩
    · cases e
end
end Mi

/-! Mi: comprehensions. -/
namespace Mi
open PySem PySem.Spec PyProof.Rows L2

/-! ### the block's context -/
theorem lookup_map2 {f : Str × NameKind → Str × NameKind} (hf : ∀ p, (f p).1 = p.1) : ∀ {names : List (Str × NameKind)} {x : Str} {k : NameKind}, names.lookup x = some k → (names.map f).lookup x = some (f (x, k)).2
  | [], _, _, h => by simp at h
  | (n, k₀) :: r, x, k, h => by
    rw [List.map_cons]
    have e : f (n, k₀) = (n, (f (n, k₀)).2) := Prod.ext (hf (n, k₀)) rfl
    rw [e]
    cases hx : x == n with
    | true =>
      simp only [List.lookup_cons, hx, Option.some.injEq] at h ⊢
      subst h
      have : x = n := by simpa using hx
      rw [this]
    | false =>
      simp only [List.lookup_cons, hx] at h ⊢
      exact lookup_map2 hf h
theorem rel_lookup {scope : Scope} {env : PySem.Env} {x : Str} {k : NameKind} (h : scope.names.lookup x = some k) : (relabel scope env).names.lookup x = some (if (k == .free && env.scope.kind == .function && env.kindOf x == some .cell) then .cell else k) := by
  unfold relabel
  rw [lookup_map2 (fun p => by obtain ⟨n, k⟩ := p; dsimp only; split <;> rfl) h]
  dsimp only
  split <;> rfl
theorem rel_keep {scope : Scope} {env : PySem.Env} {x : Str} {k : NameKind} (h : scope.names.lookup x = some k) (n : k ≠ .free) : (relabel scope env).names.lookup x = some k := by
  rw [rel_lookup h, if_neg]
  simp [n]
theorem rel_free {scope : Scope} {env : PySem.Env} {x : Str} (h : scope.names.lookup x = some .free) : (relabel scope env).names.lookup x = some .cell ∨ (relabel scope env).names.lookup x = some .free := by
  rw [rel_lookup h]
  split
  · exact .inl rfl
  · exact .inr rfl
section
variable {G : Ctx} {X : Cx} {N : List Str} {sc : Scope} {C : Cf} {cm : Bool} {er : Nat → V → Prop} {W : WX}
abbrev W0 : WX := fun _ _ _ _ => False
theorem isVis_i {sc : Scope} {x : Str} (h : isVis sc x = true) : sc.names.lookup x = some .local ∨ sc.names.lookup x = some .cell ∨ sc.names.lookup x = some .free := by
  unfold isVis at h
  split at h <;> first | (exact .inl (by assumption)) | (exact .inr (.inl (by assumption))) | (exact .inr (.inr (by assumption))) | cases h
theorem isOwn_i {sc : Scope} {x : Str} (h : isOwn sc x = true) : sc.names.lookup x = some .local ∨ sc.names.lookup x = some .cell := by
  unfold isOwn at h
  split at h <;> first | (exact .inl (by assumption)) | (exact .inr (by assumption)) | cases h
theorem isGl_i {sc : Scope} {x : Str} (h : isGl sc x = true) : sc.names.lookup x = some .globalImplicit := by
  unfold isGl at h
  split at h <;> first | assumption | cases h
theorem xok_blk (hx : XOk G X N sc C cm er W) (hcm : cm = true) (scope : Scope) (s : Shared) (H : Hp) (C' : Addr) (cl : List (Str × Addr)) (fp : List Addr) : XOk G (X.blk s H scope (compEnvC scope cl C' X.env) fp) N scope C cm er W0 where
  hN := hx.hN
  nd := hx.nd
  calm := hx.calm
  noer := hx.noer
  hu := hx.hu
  bt := hx.bt
  tk := takes0
  po := PassesOwn.never
  cv := hx.cv
  cls := hx.cls
  fn := hx.fn
  ero := fun c v h => (hx.noer hcm c v h).elim
  clm := hx.clm
  exc := hx.exc
  hot := hx.hot
  vis := fun x h => by
    rcases isVis_i h with h | h | h
    · exact .inl (rel_keep h (by decide))
    · exact .inr (.inl (rel_keep h (by decide)))
    · exact .inr (rel_free h)
  own := fun x h => by
    rcases isOwn_i h with h | h
    · exact ⟨.inl (rel_keep h (by decide)), .inr (rel_keep h (by decide))⟩
    · exact ⟨.inr (rel_keep h (by decide)), .inl (by show (scope.names.lookup x == some .cell) = true; rw [h]; rfl)⟩
  gl := fun x h => by
    have := isGl_i h
    exact rel_keep this (by decide)
  cell := fun x h => by
    rcases h with h | h
    · exact .inl (rel_keep h (by decide))
    · exact rel_free h
theorem blk_of (hx : XOk G X N sc C cm er W) {scope : Scope} {own : List (Str × Nat)} (h : blkC N sc scope own = true) : BlkOk X.N X.env.scope scope own := by
  obtain ⟨h1, h2, h3, h4, h5⟩ := blkOk_by h
  rw [hx.hN]
  exact ⟨h1, h2, h3, fun y hy e => hx.cell _ (h4 y hy e), h5⟩
/-! ### its tests -/
def tC (K : PySem.W.Frag) (er : Nat → V → Prop) (G : Ctx) (W : WX) (C : Cf) (e : E) : TT := fun σ H Q => ∃ (m : List Addr) (F : Hp) (env : Env) (hs : Hs), Sm K er m F env hs σ H ∧
  Post (evalC C e env hs) m F H (fun b m' F' H' _ => Q b H') (wn G W σ)
theorem pts_imp {ifs : List Expr} {t t' : TT} (h : PTs X ifs t) (w : ∀ σ H Q, t' σ H Q → t σ H Q) : PTs X ifs t' := ⟨fun pins s σ H Q I q => h.run pins s σ H Q I (w _ _ _ q)⟩
theorem s_c0 : PTs X [] (tC X.K er G W C .nil) := pts_imp pts_nil fun σ H Q ⟨m, F, env, hs, s, q⟩ => q m F H (.refl s.c)
theorem s_c1 {a : E} {x : Expr} (ha : PT X x (tT X.K er G W C a)) : PTs X [x] (tC X.K er G W C (.cons a .nil)) := pts_imp (pts_one ha) fun σ H Q ⟨m, F, env, hs, s, q⟩ => ⟨m, F, env, hs, s, q⟩
end

/-! ### the list as it grows -/
theorem Cells.other {m : List Addr} {F H : Hp} {hs : Hs} {D : Addr} {o : HO} (c : Cells m F hs H) (f : F D = none) (n : D ∉ m) : Cells m F hs (upd H D o) where
  frz := fun b u e => by
    rw [dn_ne (fun z => by rw [z, f] at e; cases e)]
    exact c.frz b u e
  len := c.len
  cell := fun k x a h1 h2 => (c.cell k x a h1 h2).step (Sub.refl F) (upd_ne fun z => n (by rw [← z]; exact List.mem_of_getElem? h2))
  ap := c.ap
  nd := c.nd
theorem ext_other {m m' : List Addr} {F F' H H' : Hp} {D : Addr} {o : HO} (x : Ext m F H m' F' H') (n : H D = none) : Ext m F H m' F' (upd H' D o) where
  pre := x.pre
  frz := x.frz
  old := fun a u e h => by
    rw [upd_ne (fun z => by rw [z, n] at e; cases e)]
    exact x.old a u e h
  trk := fun a e => by
    by_cases h : a = D
    · rw [h]; exact n
    · rw [upd_ne h] at e; exact x.trk a e
  new := x.new
  nfz := x.nfz
  lck := fun a u v e => by
    rw [upd_ne (fun z => by rw [z, n] at e; cases e)]
    exact x.lck a u v e
/-- the new list D within a state -/
structure At (m : List Addr) (F H : Hp) (D : Addr) (acc : List PyData) : Prop where
  f : F D = none
  n : D ∉ m
  c : ∃ vs, H D = some (.lst vs) ∧ RpL F acc vs
theorem At.ext {m m' : List Addr} {F F' H H' : Hp} {D : Addr} {acc : List PyData} (a : At m F H D acc) (x : Ext m F H m' F' H') : At m' F' H' D acc := by
  obtain ⟨f, n, vs, h1, h2⟩ := a
  have t : H D ≠ none := by rw [h1]; simp
  refine ⟨?_, x.out n t, vs, x.old D _ h1 n, RpL.sub x.frz _ _ h2⟩
  cases q : F' D with
  | none => rfl
  | some o =>
    rcases x.nfz D f (by rw [q]; simp) with z | ⟨_, us, z⟩ | ⟨z, _⟩
    · exact absurd z t
    · rw [dn_lst h1] at z; cases z
    · exact absurd z n
section
variable {G : Ctx} {X : Cx} {N : List Str} {sc : Scope} {C : Cf} {cm : Bool} {er : Nat → V → Prop} {W : WX}
/-- a turn's body -/
def lcB (C : Cf) (elt : E) (tg : Tg) (cond : E) (env : Env) : PyData → Hs → Res (Option PyData) := fun x h => match aim tg x env with
  | some env' => (evalC C cond env' h).bind fun b h => if b then (evalE C elt env' h).bind fun y h => Res.of (y.data.map some) h else .ok none h
  | none => .bad
theorem evalE_lc {elt : E} {tg : Tg} {k : IK} {ie cond : E} {env : Env} {hs : Hs} : evalE C (.lc elt tg k ie cond) env hs = ((evalL C ie env hs).bind fun rs h => Res.of (walk k rs h) h).bind fun p h => (lcS (lcB C elt tg cond env) p.2 p.1 h).bind fun ys h => .ok (.fl ys) h := by
  rw [evalE]
  rfl
theorem lcS_cons {body : PyData → Hs → Res (Option PyData)} {st : Hs → Bool} {x : PyData} {xs : List PyData} {h h' : Hs} {r : List PyData} (e : lcS body st (x :: xs) h = .ok r h') : st h = true ∧ ∃ o h1 r1, body x h = .ok o h1 ∧ lcS body st xs h1 = .ok r1 h' ∧ r = o.toList ++ r1 := by
  unfold lcS at e
  split at e
  · rename_i hst
    refine ⟨hst, ?_⟩
    split at e
    · rename_i o h1 hb
      split at e
      · rename_i r1 h2 hr
        cases e
        exact ⟨o, h1, r1, hb, hr, rfl⟩
      · cases e
    · cases e
  · cases e
theorem lcS_nil {body : PyData → Hs → Res (Option PyData)} {st : Hs → Bool} {h h' : Hs} {r : List PyData} (e : lcS body st [] h = .ok r h') : st h = true ∧ r = [] ∧ h' = h := by
  unfold lcS at e
  split at e
  · rename_i hst
    cases e
    exact ⟨hst, rfl, rfl⟩
  · cases e
/-- the turns of a comprehension over whatever is walked -/
theorem lc_go {elt : E} {t : Tg} {cond : E} {env : Env} {hs1 hsF : Hs} {xs R : List PyData} {st : Hs → Bool} {J : It} {m1 : List Addr} {F1 H1 : Hp} {σ : L2.St} {Q : VK} (s1 : Sm X.K er m1 F1 env hs1 σ H1) (hJ : WalkOk J xs st m1 F1 H1) (hlen : xs.length ≤ sizeLine)
    (eR : lcS (lcB C elt t cond env) st xs hs1 = .ok R hsF) (q2 : ∀ m' F' H', Fin m1 F1 H1 hsF m' F' H' → ∀ v, RelR X.K er m' F' H1 H' (.fl R) v → Q v H') (D : Addr) (hD : H1 D = none) :
    ∃ W : Nat → Nat → Hp → Prop, (∃ m, W 0 m (upd H1 D (.lst []))) ∧ ∀ i m H, W i m H →
      (J.stop i H ∧ Q (.ref D) H) ∨ (J.go i H ∧ ∃ Nx : Hp → Prop, (∀ H', Nx H' → ∃ m', m' < m ∧ W (i + 1) m' H') ∧ ∀ x H', J.yld i H x H' → gA X.K t x (wipe σ (tgIs t)) H' fun σ2 H2 => wipe σ2 (tgIs t) = wipe σ (tgIs t) ∧ tC X.K er G W0 C cond σ2 H2 fun b H3 =>
        if b = true then tE X.K er G W0 C elt σ2 H3 fun y H4 => ∃ acc, H4 D = some (.lst acc) ∧ acc.length < sizeLine ∧ Nx (upd H4 D (.lst (acc ++ [y]))) else Nx H3) := by
  refine ⟨fun n mm H' => mm = xs.length - n ∧ n ≤ xs.length ∧ ∃ m' F' hs' acc r, Fin m1 F1 H1 hs' m' F' H' ∧ At m' F' H' D acc ∧ acc.length ≤ n ∧ lcS (lcB C elt t cond env) st (xs.drop n) hs' = .ok r hsF ∧ acc ++ r = R, ⟨xs.length, rfl, Nat.zero_le _, ?_⟩, ?_⟩
  · obtain ⟨c2, e2⟩ := s1.c.new (o := .lst []) hD
    exact ⟨m1, F1, hs1, [], R, ⟨e2, c2⟩, ⟨s1.c.fnone hD, s1.c.mnone hD, [], upd_same, RpL.nil_iff.mpr rfl⟩, Nat.le_refl _, eR, rfl⟩
  · rintro n mm H' ⟨rfl, hn, m', F', hs', acc, r, f2, hat, hacc, el, eR2⟩
    by_cases hlt : n < xs.length
    · refine .inr ?_
      rw [List.drop_eq_getElem_cons hlt] at el
      obtain ⟨hst, o, h2, r1, eb, er1, rfl⟩ := lcS_cons el
      obtain ⟨g1, g2⟩ := (hJ m' F' H' hs' f2.1 f2.2 hst).1 n xs[n] (List.getElem?_eq_getElem hlt)
      refine ⟨g1, fun H2 => n + 1 ≤ xs.length ∧ ∃ m' F' hs' acc r, Fin m1 F1 H1 hs' m' F' H2 ∧ At m' F' H2 D acc ∧ acc.length ≤ n + 1 ∧ lcS (lcB C elt t cond env) st (xs.drop (n + 1)) hs' = .ok r hsF ∧ acc ++ r = R,
        fun H2 h => ⟨xs.length - (n + 1), by omega, rfl, h⟩, fun v H2 hy => ?_⟩
      obtain ⟨F3, f3, rp⟩ := g2 v H2 hy
      unfold lcB at eb
      split at eb
      · rename_i env' ea
        have ev : EnvX X.K er m' F3 (tgIs t) env (wipe σ (tgIs t)) := ((s1.e.ext (f2.1)).ext f3.1).wiped _
        refine aim_g (vs := tgIs t) f3.2.frz ea rp ev fun σ2 ev2 hw => ⟨(hw fun _ h => h).trans wipe_wipe, ?_⟩
        refine ⟨m', F3, env', hs', ⟨f3.2, ev2⟩, ?_⟩
        cases ec : evalC C cond env' hs' with
        | bad => rw [ec] at eb; cases eb
        | ex c h => rw [ec] at eb; cases eb
        | ok b h3 =>
          rw [ec, Res.bind_ok] at eb
          intro m4 F4 H4 f4
          have f14 := f2.trans (f3.trans f4)
          have at4 := hat.ext (f3.1.trans f4.1)
          dsimp only
          by_cases hb : b = true
          · rw [if_pos hb] at eb ⊢
            refine ⟨m4, F4, env', h3, ⟨f4.2, ev2.ext f4.1⟩, ?_⟩
            cases ee : evalE C elt env' h3 with
            | bad => rw [ee] at eb; cases eb
            | ex c h => rw [ee] at eb; cases eb
            | ok y h5 =>
              rw [ee, Res.bind_ok] at eb
              cases ed : y.data with
              | none => rw [ed] at eb; cases eb
              | some d =>
                rw [ed] at eb
                cases eb
                intro m5 F5 H5 f5 v5 r5
                have at5 := at4.ext f5.1
                have hD5 : H4 D ≠ none := by
                  obtain ⟨_, _, vs, e5, _⟩ := at4
                  rw [e5]
                  simp
                obtain ⟨F6, h6, r6⟩ := hold1 f5.2 r5.hd (Mi.R.data_w ed)
                obtain ⟨k1, k2, vs, k3, k4⟩ := at5
                have f6 := h6.fin f5
                have kD : F6 D = none := by
                  cases z : F6 D with
                  | none => rfl
                  | some o =>
                    have := h6.n D k1 (by rw [z]; simp)
                    exact absurd this hD5
                refine ⟨vs, k3, by
                  rw [k4.length]
                  exact Nat.lt_of_lt_of_le (Nat.lt_of_le_of_lt hacc hlt) hlen, Nat.succ_le_of_lt hlt, m5, F6, _, acc ++ [d], r1, ⟨ext_other (f14.trans f6).1 hD, f6.2.other kD k2⟩, ⟨kD, k2, _, upd_same, ?_⟩, ?_, er1, ?_⟩
                · exact (RpL.sub h6.s _ _ k4).append (.cons r6 (RpL.nil_iff.mpr rfl))
                · rw [List.length_append]
                  exact Nat.succ_le_succ hacc
                · rw [List.append_assoc]
                  exact eR2
          · rw [if_neg hb] at eb ⊢
            cases eb
            exact ⟨Nat.succ_le_of_lt hlt, m4, F4, _, acc, r1, f14, at4, Nat.le_succ_of_le hacc, er1, eR2⟩
      · cases eb
    · have en : n = xs.length := by omega
      subst en
      rw [List.drop_length] at el
      obtain ⟨hst, rfl, rfl⟩ := lcS_nil el
      refine .inl ⟨(hJ m' F' H' _ f2.1 f2.2 hst).2, ?_⟩
      obtain ⟨k1, k2, vs, k3, k4⟩ := hat
      rw [List.append_nil] at eR2
      subst eR2
      exact q2 m' F' H' f2 _ ⟨D, vs, rfl, k3, k4, k1, k2, hD⟩
theorem lc_red {elt : E} {t : Tg} {k : IK} {ie cond : E} {own : List (Str × Nat)} {σ : L2.St} {H : Hp} {Q : VK} (ho : own.map (·.2) = tgIs t) (h : tE X.K er G W C (.lc elt t k ie cond) σ H Q) :
    tLc (tI X.K er G W C k ie) (gA X.K t) (tC X.K er G W0 C cond) (tE X.K er G W0 C elt) (own.map (·.2)) σ H Q := by
  obtain ⟨m, F, env, hs, s, q⟩ := h
  rw [evalE_lc] at q
  refine ⟨m, F, env, hs, s, (Post.bind q).mono fun p m1 F1 H1 hs1 f1 q1 J hJ hlen D hD => ?_⟩
  have s1 := s.fin f1
  obtain ⟨R, hsF, eR, q2⟩ : ∃ R hsF, lcS (lcB C elt t cond env) p.2 p.1 hs1 = .ok R hsF ∧ ∀ m' F' H', Fin m F H hsF m' F' H' → ∀ v, RelR X.K er m' F' H H' (.fl R) v → Q v H' := by
    cases z : lcS (lcB C elt t cond env) p.2 p.1 hs1 with
    | ok R hsF =>
      rw [z] at q1
      exact ⟨R, hsF, rfl, q1⟩
    | ex c h =>
      exfalso
      revert z
      cases p.1 with
      | nil => unfold lcS; split <;> (intro z; cases z)
      | cons a b =>
        unfold lcS
        split
        · split
          · split <;> (intro z; cases z)
          · intro z; cases z
        · intro z; cases z
    | bad => rw [z] at q1; exact q1.elim
  rw [ho]
  exact lc_go s1 hJ hlen eR (fun m' F' H' f2 v rv => q2 m' F' H' (f1.trans f2) v (rv.back f1.1.trk)) D hD
theorem s_lc {elt : E} {t : Tg} {k : IK} {ie cond : E} {x tg i : Expr} {cs : List Expr} {scope : Scope} {p : Pos} {own : List (Str × Nat)} (hx : XOk G X N sc C cm er W) (hc : cm = true)
    (hi : PI X tg i (tI X.K er G W C k ie)) (ok : BlkOk X.N X.env.scope scope own) (ho : own.map (·.2) = tgIs t)
    (hg : ∀ (s : Shared) (H : Hp) (C' : Addr) (cl : List (Str × Addr)) (fp : List Addr), PG (X.blk s H scope (compEnvC scope cl C' X.env) fp) tg (gA X.K t))
    (ht : ∀ (s : Shared) (H : Hp) (C' : Addr) (cl : List (Str × Addr)) (fp : List Addr), PTs (X.blk s H scope (compEnvC scope cl C' X.env) fp) cs (tC X.K er G W0 C cond))
    (he : ∀ (s : Shared) (H : Hp) (C' : Addr) (cl : List (Str × Addr)) (fp : List Addr), PE (X.blk s H scope (compEnvC scope cl C' X.env) fp) x (tE X.K er G W0 C elt)) (hs : ∀ v, foldedSetIterable i X.env v = pure v) :
    PE X (.ListComp x [⟨tg, i, cs, 0⟩] scope p) (tE X.K er G W C (.lc elt t k ie cond)) :=
  pe_imp (pe_lc (hx.calm hc) hx.nd hi ok hg ht he hs) fun σ H Q h => lc_red ho h
end
end Mi

/-! Mi: a comprehension over a dict's keys; the list of a dict's values. -/
namespace Mi
open PySem PySem.Spec PyProof.Rows L2

section
variable {K : PySem.W.Frag} {er : Nat → V → Prop}
/-- a walked dict is free again -/
theorem unlock_fin {m m' : List Addr} {F F' H H' : Hp} {hs' : Hs} {a : Addr} {n : Nat} {od : Obj} {ks : List (Key × V)} {kvs : List (Int × PyData)} (hn : m[n]? = some a) (fa : F a = none) (ha : H a = some (.dK ks)) (hk : ∀ G, G a = some (.dK ks) → CellR F' G a (.dct kvs))
    (f : Fin m F (upd H a (.frz od (.dK ks))) hs' m' F' H') : Fin m F H (hs'.set n (.dct kvs)) m' F' (upd H' a (.dK ks)) := by
  have hm : a ∈ m := List.mem_of_getElem? hn
  have n1 : ∀ b, upd H a (.frz od (.dK ks)) b = none → H b = none := fun b e => by
    by_cases hb : b = a
    · rw [hb, upd_same] at e; cases e
    · rw [upd_ne hb] at e; exact e
  refine ⟨⟨f.1.pre, f.1.frz, fun b o e h => ?_, fun b e => ?_, fun b h => ?_, fun b e g => ?_, fun b o u e => ?_⟩, f.2.write (f.1.get hn) ?_ hk⟩
  · have hb : b ≠ a := fun z => h (by rw [z]; exact hm)
    rw [upd_ne hb]
    exact f.1.old b o (by rw [upd_ne hb]; exact e) h
  · by_cases hb : b = a
    · rw [hb, upd_same] at e; cases e
    · rw [upd_ne hb] at e
      exact n1 b (f.1.trk b e)
  · rcases f.1.new b h with z | z
    · exact .inl z
    · exact .inr (n1 b z)
  · rcases f.1.nfz b e g with z | ⟨z, vs, u⟩ | z
    · exact .inl (n1 b z)
    · refine .inr (.inl ⟨z, vs, ?_⟩)
      have hb : b ≠ a := fun y => by
        rw [y] at u
        obtain ⟨w, e1, _⟩ := dn_tup u
        rw [upd_same] at e1
        cases e1
      rwa [dn_ne hb] at u
    · exact .inr (.inr z)
  · have hb : b ≠ a := fun z => by rw [z, ha] at e; cases e
    rw [upd_ne hb]
    exact f.1.lck b o u (by rw [upd_ne hb]; exact e)
  · have lk := f.1.lck a od (.dK ks) upd_same
    cases q : F' a with
    | none => rfl
    | some o =>
      rcases f.1.nfz a fa (by rw [q]; simp) with z | ⟨z, _⟩ | ⟨_, vs, z⟩
      · rw [upd_same] at z; cases z
      · exact absurd hm z
      · have w := dn_of (f.2.frz _ _ z) (fun _ y => nomatch y)
        rw [lk] at w
        cases w
theorem unlock_rel {K : PySem.W.Frag} {m' : List Addr} {F' H H' : Hp} {a : Addr} {od : Obj} {u : HO} {r : R} {v : V} (hm : a ∈ m') (h : RelR K er m' F' (upd H a (.frz od u)) H' r v) : RelR K er m' F' H (upd H' a u) r v := by
  have n1 : ∀ b, upd H a (.frz od u) b = none → H b = none := fun b e => by
    by_cases hb : b = a
    · rw [hb, upd_same] at e; cases e
    · rw [upd_ne hb] at e; exact e
  cases r with
  | v w => exact h
  | fl xs =>
    obtain ⟨b, vs, e, h1, h2, h3, h4, h5⟩ := h
    exact ⟨b, vs, e, by rw [upd_ne (fun z => h4 (by rw [z]; exact hm))]; exact h1, h2, h3, h4, n1 b h5⟩
  | fd kvs =>
    obtain ⟨b, e, h1, h3, h4, h5⟩ := h
    exact ⟨b, e, h1.step (Sub.refl _) (upd_ne (fun z => h4 (by rw [z]; exact hm))), h3, h4, n1 b h5⟩
  | ft ws => exact h
theorem dctAt_i {i n : Nat} {env : Env} {h : Hs} {kvs : List (Int × PyData)} (e : dctAt i env h = some (n, kvs)) : env[i]? = some (some (.r n)) ∧ h[n]? = some (.dct kvs) := by
  unfold dctAt at e
  split at e
  · rename_i n' h1
    split at e
    · rename_i kvs' h2
      cases e
      exact ⟨h1, h2⟩
    · cases e
  · cases e
/-- a locked dict's keys -/
theorem walk_keys {m : List Addr} {F H : Hp} {a : Addr} {od : Obj} {ks : List (Key × V)} {xs : List PyData} (lk : H a = some (.frz od (.dK ks))) (rp : RpL F xs (ks.map fun kv => kV kv.1)) : WalkOk (Itk a od ks) xs yes m F H := by
  intro m' F' H' hs' e c _
  have lk' := e.lck a _ _ lk
  have hl : ks.length = xs.length := by
    have := rp.length
    simpa using this
  refine ⟨fun i x hx => ?_, lk', by rw [hl]; exact Nat.le_refl _⟩
  have hi : i < xs.length := (List.getElem?_eq_some_iff.mp hx).1
  refine ⟨⟨lk', by omega⟩, fun v H'' hy => ?_⟩
  obtain ⟨rfl, k, w, hk, rfl⟩ := hy
  obtain ⟨u, hu, ru⟩ := (RpL.sub e.frz _ _ rp).get' hx
  rw [List.getElem?_map, hk] at hu
  cases hu
  exact ⟨F', .refl c, ru⟩
end
section
variable {G : Ctx} {X : Cx} {N : List Str} {sc : Scope} {C : Cf} {cm : Bool} {er : Nat → V → Prop} {W : WX}
theorem lcB_keys {elt : E} {t : Nat} {env : Env} : (fun x h => (evalE C elt (env.set t (some (.d x))) h).bind fun y h => Res.of (y.data.map some) h) = lcB C elt (.nm t) .nil env := by
  funext x h
  simp only [lcB, aim, evalC, Res.bind_ok, if_true]
theorem lcd_red {elt : E} {t i : Nat} {own : List (Str × Nat)} {σ : L2.St} {H : Hp} {Q : VK} (ho : own.map (·.2) = [t]) (h : tE X.K er G W C (.lcd elt t i) σ H Q) :
    tLockE (tLc (iKeys (tVar i)) (gA X.K (.nm t)) (tC X.K er G W0 C .nil) (tE X.K er G W0 C elt) (own.map (·.2))) σ H Q := by
  obtain ⟨m, F, env, hs, s, q⟩ := h
  simp only [evalE] at q
  cases ed : dctAt i env hs with
  | none => rw [ed] at q; exact q.elim
  | some pr =>
    obtain ⟨n, kvs⟩ := pr
    rw [ed] at q
    dsimp only at q
    split at q
    rotate_left
    · exact q.elim
    rename_i kl
    obtain ⟨e1, e2⟩ := dctAt_i ed
    obtain ⟨v, hv, a, ha, rfl⟩ := s.e.2 i _ e1
    obtain ⟨ks, h1, h2, h3, h4⟩ := s.c.cell n _ a e2 ha
    rw [lcB_keys] at q
    obtain ⟨R, hsF, eR, q2⟩ : ∃ R hsF, lcS (lcB C elt (.nm t) .nil env) yes (kvs.map fun p => PyData.int p.1) (hs.set n (.lck kvs)) = .ok R hsF ∧ ∀ m' F' H', Fin m F H (hsF.set n (.dct kvs)) m' F' H' → ∀ v, RelR X.K er m' F' H H' (.fl R) v → Q v H' := by
      cases z : lcS (lcB C elt (.nm t) .nil env) yes (kvs.map fun p => PyData.int p.1) (hs.set n (.lck kvs)) with
      | ok R hsF =>
        rw [z] at q
        exact ⟨R, hsF, rfl, q⟩
      | ex c h =>
        exfalso
        revert z
        cases (kvs.map fun p => PyData.int p.1) with
        | nil => unfold lcS; split <;> (intro z; cases z)
        | cons a b =>
          unfold lcS
          split
          · split
            · split <;> (intro z; cases z)
            · intro z; cases z
          · intro z; cases z
      | bad => rw [z] at q; exact q.elim
    refine ⟨a, .dK ks, h1, trivial, fun od => ?_⟩
    have hm : a ∈ m := List.mem_of_getElem? ha
    have fa := s.c.apd e2 ha
    have c1 : Cells m F (hs.set n (.lck kvs)) (upd H a (.frz od (.dK ks))) := s.c.write ha fa fun G hG => ⟨od, ks, hG, h2, h3, h4⟩
    have s1 : Sm X.K er m F env (hs.set n (.lck kvs)) σ (upd H a (.frz od (.dK ks))) := ⟨c1, s.e⟩
    have hR := keys_rp (F := F) h2 h3
    rw [ho]
    refine ⟨.ref a, hv, a, od, rfl, .inl ⟨ks, upd_same, fun D hD => ?_⟩⟩
    have hlen : kvs.length = ks.length := by
      have := congrArg List.length h2
      simpa using this
    refine lc_go (Q := fun v H' => H' a = some (.frz od (.dK ks)) ∧ Q v (upd H' a (.dK ks))) s1 (walk_keys upd_same hR) (by rw [List.length_map]; exact line_le kl) eR (fun m' F' H' f v rv => ⟨f.1.lck a _ _ upd_same, q2 m' F' _ (unlock_fin ha fa h1 (fun G hG => ⟨ks, hG, h2, h3, RpL.sub f.1.frz _ _ h4⟩) f) v (unlock_rel (f.1.mem hm) rv)⟩) D hD
/-- list(x.values()), by what x is -/
def tVals (td : TE) : TE := fun σ H Q => td σ H fun x H1 => ∃ a ks, x = V.ref a ∧ Rd H1 a (.dK ks) ∧ ∀ p, H1 p = none → Q (.ref p) (upd H1 p (.lst (ks.map (·.2))))
theorem kv_vals : ∀ {ks : List (Key × V)} {vs : List (Key × Value)}, KV ks vs → Vals (ks.map (·.2)) (vs.map (·.2))
  | _, _, .nil => .nil
  | _, _, .cons r t => .cons r.2 (kv_vals t)
theorem items_vals {vs : List (Key × Value)} {acc : Array Value} (h : ItemsOf (fun i v => ∃ k, vs[i]? = some (k, v)) acc vs.length) : acc.toList = vs.map (·.2) := by
  refine List.ext_getElem? fun i => ?_
  rw [List.getElem?_map, Array.getElem?_toList]
  cases e : acc[i]? with
  | none =>
    have : vs[i]? = none := by
      have := Array.getElem?_eq_none_iff.mp e
      rw [h.1] at this
      exact List.getElem?_eq_none this
    rw [this]
    rfl
  | some v =>
    obtain ⟨k, hk⟩ := h.2 i v e
    rw [hk]
    rfl
theorem pe_vals {o : Expr} {p pos apos mpos : Pos} {td : TE} (hc : X.calm = true) (hg : Gl X "list") (hm : X.mg "list" = none) (hd : PE X o td) (hbase : attributeBase o "values" X.env (eval o X.env) = eval o X.env) (hline : (apos.endLine == mpos.line) = true)
    (na : starEach [Expr.Call (.Attribute o "values" apos) [] [] mpos] X.env = (false, eval (Expr.Call (.Attribute o "values" apos) [] [] mpos) X.env) :: starEach [] X.env) :
    PE X (.Call (.Name "list" p) [.Call (.Attribute o "values" apos) [] [] mpos] [] pos) (tVals td) := by
  refine ⟨fun pins s σ H Q I h => Call_ (ld_blt I hg hm boot_list (PyProof.Rows.callWith_type1 (args_cons (wpAny_Call_method0_late hbase hline (thn (hd.run pins s σ H _ I h) fun v s1 ⟨x, H1, I1, r1, a, ks, ex, ha, q⟩ => ?_)) na) na))⟩
  subst ex
  obtain rfl : v = Value.ref a := r1
  obtain ⟨kz, hsys, vs, rel, dof⟩ := ha.ok I1.hok
  obtain ⟨ep, dat⟩ := dof.dictAt
  have dat0 := dat
  obtain ⟨ob, es, ho, ex, hdat, hko, hpr, hnd⟩ := dat0
  refine ⟨"dict", "dict.values", F.plainAttrs_dict, F.slot_dict_values, F.type_dict_values, ⟨ob, ho, ex.1⟩, fun b e => ?_, Calls.callWith_builtin rfl (PySem.evalArgs_none ?_)⟩
  · cases e
    exact ⟨ob, ho, ex.2.1⟩
  refine call_meetsIn F.slot_dict_values ⟨ob, ho, ex.1⟩ F.entry_dict_values (F.args_dict_values_1 _) (meets_dict_values (mixKind X.prog X.w) a hsys) ⟨⟨vs, dof⟩, args_nil ?_⟩
  have kp : ∀ b u, s1.heap.get? b = some u → (s1.heap.push { cls := .type "dict_values", data := .fields #[.ref a] }).get? b = some u := fun b u e => Heap.get?_push_of_some _ e
  have vw : (s1.heap.push { cls := .type "dict_values", data := .fields #[.ref a] }).IsValuesView s1.heap.objs.size a := ⟨_, Heap.get?_push_size _ rfl, rfl, rfl⟩
  have lv : ks.length = vs.length := KV.length rel
  have I2 : Inv X pins σ H1 { s1 with heap := s1.heap.push { cls := .type "dict_values", data := .fields #[.ref a] } } := I1.kept (t' := s1.toks) kp
  refine PySem.W.kdl_call (PySem.W.kdl_values (knd := mixKind X.prog X.w) (d := a) (r := s1.heap.objs.size) (kvs := vs) (ep := ep)) (I1.ok.hd hc) ⟨vw, dat.keep kp⟩ (by rw [← lv]; exact kz) fun h' tk acc c' hk hS hacc => ?_
  have ea := items_vals hacc
  have rv := kv_vals rel
  rw [← ea] at rv
  exact ⟨.ref _, _, I2.laid (t' := tk) (o := .lst (ks.map (·.2))) hk (Nat.le_refl _) ⟨by rw [List.length_map]; exact kz, acc.toList, c', rv, by rw [Array.toArray_toList]; exact hS⟩, rfl, q _ (I2.hok.fresh (Nat.le_refl _))⟩
theorem s_lvals (hx : XOk G X N sc C cm er W) (hc : cm = true) {a : E} {y : Expr} {p p2 pa p4 : Pos} (hg : glOk sc "list" = true) (hbt : ("list" : Str) ∈ G.bt) (nc : notCall0 y = true) (hl : (pa.endLine == p2.line) = true) (ha : PE X y (tE X.K er G W C a)) :
    PE X (.Call (.Name "list" p) [.Call (.Attribute y (Str.ofString "values") pa) [] [] p2] [] p4) (tE X.K er G W C (.lvals a)) := by
  refine pe_imp (pe_vals (hx.calm hc) (glOk_i hx hg).1 (hx.bt _ hbt) ha (attr_base nc _ _ _) hl (starE (by rfl))) fun σ H Q ⟨m, F, env, hs, s, q⟩ => ?_
  simp only [evalE] at q
  refine sub_E (.refl s.c) s q fun r1 m1 F1 H1 hs1 v1 f1 _ s1 rv1 q1 => ?_
  cases hk : lookD hs1 r1 with
  | none => rw [hk] at q1; exact q1.elim
  | some kvs =>
    rw [hk] at q1
    obtain ⟨b, rfl, ks, g1, g2, g3, g4⟩ := lookD_cell f1.2 rv1 hk
    exact ⟨b, ks, rfl, g1, fun p hp => q1.give f1 ⟨p, _, rfl, hp, rfl, g4⟩⟩
end
end Mi

/-! Mi: expressions: the whole. -/
namespace Mi
open PySem PySem.Spec PyProof.Rows L2

/-- neither a star, a set nor a slice -/
def plainX : Expr → Bool
  | .Starred .. => false
  | .Set .. => false
  | .Slice .. => false
  | _ => true
theorem plainX_i {e : Expr} (h : plainX e = true) : noStar e = true ∧ notSet e = true ∧ notSlice e = true := by
  cases e <;> first | exact ⟨rfl, rfl, rfl⟩ | cases h
section
variable {G : Ctx} {N : List Str} {C : Cf} {cm : Bool} {er : Nat → V → Prop}
theorem chkX : ∀ (a : E) {sc : Scope} {e : Expr}, chkE G N cm a sc e = true → plainX e = true
  | .var i, sc, e, h => by simp only [chkE] at h; obtain ⟨_, _, rfl, _⟩ := onName_i h; rfl
  | .give i, sc, e, h => by simp only [chkE] at h; obtain ⟨_, _, rfl, _⟩ := onName_i h; rfl
  | .cst i, sc, e, h => by simp only [chkE] at h; obtain ⟨_, _, _, rfl, _⟩ := onConst_i h; rfl
  | .gc _ _, sc, e, h => by simp only [chkE] at h; obtain ⟨_, _, rfl, _⟩ := onName_i h; rfl
  | .nil, sc, e, h => by simp [chkE] at h
  | .cons _ _, sc, e, h => by simp [chkE] at h
  | .tup _, sc, e, h => by simp only [chkE] at h; obtain ⟨_, _, _, rfl, _⟩ := onTup_i h; rfl
  | .lst _, sc, e, h => by simp only [chkE] at h; obtain ⟨_, _, rfl, _⟩ := onList_i h; rfl
  | .dct k v, sc, e, h => by
    unfold chkE at h
    split at h <;> first | (obtain ⟨_, _, _, rfl, _⟩ := onDict_i h; rfl) | (rename_i z; cases z) | cases h | (simp_all; done)
  | .bin _ _ _, sc, e, h => by simp only [chkE] at h; obtain ⟨_, _, _, _, rfl, _⟩ := onBin_i h; rfl
  | .neg _, sc, e, h => by simp only [chkE] at h; obtain ⟨_, _, _, rfl, _⟩ := onUn_i h; rfl
  | .cmp _ _ _, sc, e, h => by simp only [chkE] at h; obtain ⟨_, _, _, _, rfl, _⟩ := onCmp_i h; rfl
  | .chain _ _ _ _ _, sc, e, h => by simp only [chkE] at h; obtain ⟨_, _, _, _, _, _, rfl, _⟩ := onChain_i h; rfl
  | .isN _, sc, e, h => by simp only [chkE] at h; obtain ⟨_, _, _, _, rfl, _⟩ := onCmp_i h; rfl
  | .isNN _, sc, e, h => by simp only [chkE] at h; obtain ⟨_, _, _, _, rfl, _⟩ := onCmp_i h; rfl
  | .isB _ _, sc, e, h => by simp only [chkE] at h; obtain ⟨_, _, _, _, rfl, _⟩ := onCmp_i h; rfl
  | .isNB _ _, sc, e, h => by simp only [chkE] at h; obtain ⟨_, _, _, _, rfl, _⟩ := onCmp_i h; rfl
  | .and_ _, sc, e, h => by simp only [chkE] at h; obtain ⟨_, _, _, rfl, _⟩ := onBool_i h; rfl
  | .or_ _, sc, e, h => by simp only [chkE] at h; obtain ⟨_, _, _, rfl, _⟩ := onBool_i h; rfl
  | .not_ _, sc, e, h => by simp only [chkE] at h; obtain ⟨_, _, _, rfl, _⟩ := onUn_i h; rfl
  | .ite _ _ _, sc, e, h => by simp only [chkE] at h; obtain ⟨_, _, _, _, rfl, _⟩ := onIf_i h; rfl
  | .ix _ _, sc, e, h => by simp only [chkE] at h; obtain ⟨_, _, _, rfl, _⟩ := onSub_i h; rfl
  | .slc _ _ _, sc, e, h => by simp only [chkE] at h; obtain ⟨_, _, _, rfl, _⟩ := onSub_i h; rfl
  | .rev _, sc, e, h => by simp only [chkE] at h; obtain ⟨_, _, _, rfl, _⟩ := onSub_i h; rfl
  | .new a, sc, e, h => by simp only [chkE] at h; exact chkX a h
  | .call _ _, sc, e, h => by simp only [chkE] at h; obtain ⟨_, _, _, rfl, _⟩ := onCall_i h; rfl
  | .pick _ _ _, sc, e, h => by simp only [chkE] at h; obtain ⟨_, _, _, rfl, _⟩ := onCall_i h; rfl
  | .bi b es, sc, e, h => by
    unfold chkE at h
    split at h <;> first | (obtain ⟨_, _, _, rfl, _⟩ := onCall_i h; rfl) | (rename_i z; cases z) | cases h | (simp_all; done)
  | .mt m o es, sc, e, h => by
    unfold chkE at h
    split at h <;> first | (obtain ⟨_, _, _, rfl, _⟩ := onCall_i h; rfl) | (rename_i z; cases z) | cases h | (simp_all; done)
  | .lc _ _ _ _ _, sc, e, h => by
    simp only [chkE, Bool.and_eq_true] at h
    obtain ⟨_, _, _, _, _, _, rfl, _⟩ := onLc_i h.2
    rfl
  | .lvals _, sc, e, h => by simp only [chkE] at h; obtain ⟨_, _, _, rfl, _⟩ := onCall_i h; rfl
  | .lcd _ _ _, sc, e, h => by
    simp only [chkE, Bool.and_eq_true] at h
    obtain ⟨_, _, _, _, _, _, rfl, _⟩ := onLc_i h.2
    rfl
theorem blt_i {sc : Scope} {s : String} {e : Expr} (h : blt G sc s e = true) : ∃ p, e = .Name (Str.ofString s) p ∧ glOk sc (Str.ofString s) = true ∧ Str.ofString s ∈ G.bt := by
  obtain ⟨x, p, rfl, h1⟩ := onName_i h
  simp only [Bool.and_eq_true, beq_iff_eq] at h1
  obtain ⟨⟨rfl, h2⟩, h3⟩ := h1
  exact ⟨p, rfl, h2, by simpa using h3⟩
theorem ty_boot (t : Ty) : bootBuiltins (Str.ofString (tyN t)) = some (.type (tyN t)) := by
  cases t <;> decide +kernel
theorem callR_none {X : Cx} {v : Value} : CallR X v (rB1 X.K er fun _ _ => none) := fun pins s σ H vs us Q I r h => by
  obtain ⟨_, _, _, _, _, _, _, _, _, _, z, _⟩ := h
  cases z
theorem callR_none2 {X : Cx} {v : Value} : CallR X v (rB2 fun _ _ => none) := fun pins s σ H vs us Q I r h => by
  obtain ⟨_, _, _, _, z, _⟩ := h
  cases z
theorem bi_one {X : Cx} (hc : X.calm = true) (hu : X.A.units + 200 < cLine) {b : Bi} {s : String} {k : Bool} (h : biN b = some (s, k)) : bootBuiltins (Str.ofString s) = some (bootOf s k) ∧ CallR X (bootOf s k) (rB1 X.K er (oneO b)) := by
  cases b <;> (unfold biN at h) <;> first | cases h | skip
  · exact ⟨by decide +kernel, call_lenM⟩
  · exact ⟨by decide +kernel, call_allM hc⟩
  · exact ⟨by decide +kernel, call_anyM hc⟩
  · exact ⟨by decide +kernel, call_sumM hc⟩
  · exact ⟨by decide +kernel, call_minM hc hu⟩
  · exact ⟨by decide +kernel, call_maxM hc hu⟩
  · exact ⟨by decide +kernel, callR_none⟩
  · exact ⟨by decide +kernel, callR_none⟩
  · exact ⟨by decide +kernel, call_sortedM hu⟩
  · exact ⟨by decide +kernel, call_tupleM⟩
  · exact ⟨by decide +kernel, call_listM hc⟩
  · exact ⟨by decide +kernel, call_intM⟩
  · exact ⟨by decide +kernel, call_strM⟩
  · exact ⟨by decide +kernel, call_dictM hc⟩
theorem bi_two {X : Cx} (hc : X.calm = true) {b : Bi} {s : String} (h : biN b = some (s, false)) : bootBuiltins (Str.ofString s) = some (.builtin s) ∧ CallR X (.builtin s) (rB2 (two b)) := by
  cases b <;> (unfold biN at h) <;> first | cases h | skip
  · exact ⟨by decide +kernel, callR_none2⟩
  · exact ⟨by decide +kernel, callR_none2⟩
  · exact ⟨by decide +kernel, callR_none2⟩
  · exact ⟨by decide +kernel, callR_none2⟩
  · exact ⟨by decide +kernel, callR_none2⟩
  · exact ⟨by decide +kernel, callR_none2⟩
  · exact ⟨by decide +kernel, min2_rule hc⟩
  · exact ⟨by decide +kernel, max2_rule hc⟩
  · exact ⟨by decide +kernel, callR_none2⟩
/-- a new list takes its place -/
theorem s_new {X : Cx} {W : WX} {a : E} {x : Expr} (ha : PE X x (tE X.K er G W C a)) : PE X x (tE X.K er G W C (.new a)) := by
  refine pe_imp ha fun σ H Q ⟨m, F, env, hs, s, q⟩ => ?_
  simp only [evalE] at q
  refine sub_E (.refl s.c) s q fun r m1 F1 H1 hs1 v f1 _ s1 rv q1 => ?_
  cases r with
  | v w => exact q1.elim
  | ft ws => exact q1.elim
  | fl xs =>
    obtain ⟨b, vs, rfl, h1, h2, h3, h4, h5⟩ := rv
    have c2 := f1.2.place (x := .lst xs) ⟨vs, h1, h2⟩ h3 h4
    have e2 := ext_place f1.1 h5
    exact q1 _ F1 H1 ⟨e2, c2⟩ _ ⟨b, by rw [← f1.2.len]; simp, rfl⟩
  | fd kvs =>
    obtain ⟨b, rfl, h1, h3, h4, h5⟩ := rv
    have c2 := f1.2.place (x := .dct kvs) h1 h3 h4
    have e2 := ext_place f1.1 h5
    exact q1 _ F1 H1 ⟨e2, c2⟩ _ ⟨b, by rw [← f1.2.len]; simp, rfl⟩
theorem pe_bad {X : Cx} {e : Expr} {t : TE} (h : ∀ σ H Q, ¬ t σ H Q) : PE X e t := ⟨fun _ _ _ _ _ _ q => (h _ _ _ q).elim⟩
theorem pw_bad {X : Cx} {e : Expr} {t : TT} (h : ∀ σ H Q, ¬ t σ H Q) : PW X e t := ⟨fun _ _ _ _ _ _ _ q => (h _ _ _ q).elim⟩
theorem pt_of {X : Cx} {e : Expr} {t : TT} (h : PW X e t) : PT X e t := ⟨fun pins s σ H Q I q => h.run _ pins s σ H Q I q⟩
theorem chkE_bi {b : Bi} {es : E} {sc : Scope} {e : Expr} (h : chkE G N cm (.bi b es) sc e = true) :
    (∃ t a, b = .isi [t] ∧ es = .cons a .nil ∧ onCall e (fun g xs _ => blt G sc "isinstance" g && (match xs with | [x, y] => chkE G N cm a sc x && blt G sc (tyN t) y | _ => false)) = true) ∨
    (∃ t u a, b = .isi [t, u] ∧ es = .cons a .nil ∧ onCall e (fun g xs _ => blt G sc "isinstance" g && (match xs with
      | [x, y] => chkE G N cm a sc x && onTup y fun ys => (match ys with
        | [y1, y2] => blt G sc (tyN t) y1 && blt G sc (tyN u) y2
        | _ => false)
      | _ => false)) = true) ∨
    (∃ k a, b = .isx k ∧ es = .cons a .nil ∧ onCall e (fun g xs _ => decide (k ≠ 0) && blt G sc "isinstance" g && (match xs with
      | [x, y] => chkE G N cm a sc x && onName y (fun z => decide (G.cls k = some z) && glOk sc z)
      | _ => false)) = true) ∨
    (∃ a, b = .isve ∧ es = .cons a .nil ∧ onCall e (fun g xs _ => blt G sc "isinstance" g && (match xs with
      | [x, y] => chkE G N cm a sc x && blt G sc "ValueError" y
      | _ => false)) = true) ∨
    (∃ a, es = .cons a .nil ∧ onCall e (fun g xs _ => cm && (match nst b with
      | some (s1, s2) => blt G sc s1 g && (match xs with
        | [x] => onCall x fun g2 ys _ => blt G sc s2 g2 && (match ys with
          | [y] => chkE G N cm a sc y
          | _ => false)
        | _ => false)
      | none => (match biN b with | some (s, _) => blt G sc s g | none => false) && (match xs with | [x] => chkE G N cm a sc x | _ => false))) = true) ∨
    (∃ a c, es = .cons a (.cons c .nil) ∧ onCall e (fun g xs _ => cm && (match biN b with | some (s, k) => !k && blt G sc s g | none => false) && (match xs with | [x, y] => chkE G N cm a sc x && chkE G N cm c sc y | _ => false)) = true) := by
  cases es with
  | cons a r =>
    cases r with
    | nil =>
      cases b with
      | isi ts =>
        match ts, h with
        | [t], h => simp only [chkE] at h; exact .inl ⟨_, _, rfl, rfl, h⟩
        | [t, u], h => simp only [chkE] at h; exact .inr (.inl ⟨_, _, _, rfl, rfl, h⟩)
        | [], h => simp only [chkE] at h; exact .inr (.inr (.inr (.inr (.inl ⟨_, rfl, h⟩))))
        | _ :: _ :: _ :: _, h => simp only [chkE] at h; exact .inr (.inr (.inr (.inr (.inl ⟨_, rfl, h⟩))))
      | isx k => simp only [chkE] at h; exact .inr (.inr (.inl ⟨_, _, rfl, rfl, h⟩))
      | isve => simp only [chkE] at h; exact .inr (.inr (.inr (.inl ⟨_, rfl, rfl, h⟩)))
      | _ => simp only [chkE] at h; exact .inr (.inr (.inr (.inr (.inl ⟨_, rfl, h⟩))))
    | cons c r2 =>
      cases r2 with
      | nil => simp only [chkE] at h; exact .inr (.inr (.inr (.inr (.inr ⟨_, _, rfl, h⟩))))
      | _ => simp [chkE] at h
    | _ => simp [chkE] at h
  | _ => simp [chkE] at h
end
section
variable (G : Ctx) (N : List Str) (C : Cf) (cm : Bool) (er : Nat → V → Prop)
def SE (a : E) : Prop := ∀ (X : Cx) (sc : Scope) (W : WX) (x : Expr), XOk G X N sc C cm er W → chkE G N cm a sc x = true → PE X x (tE X.K er G W C a)
def ST (a : E) : Prop := ∀ (X : Cx) (sc : Scope) (W : WX) (x : Expr), XOk G X N sc C cm er W → tst a = true → chkE G N cm a sc x = true → PT X x (tT X.K er G W C a)
def SL (a : E) : Prop := ∀ (X : Cx) (sc : Scope) (W : WX) (xs : List Expr), XOk G X N sc C cm er W → chkL G N cm a sc xs = true → PA X xs (tL X.K er G W C a) ∧ ∀ e ∈ xs, noStar e = true
end
section
variable {G : Ctx} {N : List Str} {C : Cf} {cm : Bool} {er : Nat → V → Prop}
theorem chkL_nil {es : E} {sc : Scope} (h : chkL G N cm es sc [] = true) : es = .nil := by
  cases es <;> first | rfl | simp [chkL] at h
theorem chkL_cons {es : E} {sc : Scope} {x : Expr} {xs : List Expr} (h : chkL G N cm es sc (x :: xs) = true) : ∃ a r, es = .cons a r ∧ chkE G N cm a sc x = true ∧ chkL G N cm r sc xs = true := by
  cases es <;> first | (simp only [chkL, Bool.and_eq_true] at h; exact ⟨_, _, rfl, h.1, h.2⟩) | simp [chkL] at h
theorem stepL : ∀ (xs : List Expr) (es : E), (∀ a, sizeOf a < sizeOf es → SE G N C cm er a) → ∀ (X : Cx) (sc : Scope) (W : WX), XOk G X N sc C cm er W → chkL G N cm es sc xs = true → PA X xs (tL X.K er G W C es) ∧ ∀ e ∈ xs, noStar e = true
  | [], es, _, X, sc, W, hx, h => by
    obtain rfl := chkL_nil h
    exact ⟨s_nil, fun _ z => nomatch z⟩
  | x :: xs, es, ih, X, sc, W, hx, h => by
    obtain ⟨a, r, rfl, h1, h2⟩ := chkL_cons h
    obtain ⟨h3, h4⟩ := stepL xs r (fun b hb => ih b (by simp; omega)) X sc W hx h2
    have ns := (plainX_i (chkX a h1)).1
    exact ⟨s_cons ns (ih a (by simp; omega) X sc W x hx h1) h3, fun e he => by
      rcases List.mem_cons.mp he with rfl | he
      · exact ns
      · exact h4 e he⟩
theorem stepAnd : ∀ (xs : List Expr) (es : E), (∀ a, sizeOf a < sizeOf es → SE G N C cm er a) → ∀ (X : Cx) (sc : Scope) (W : WX) (p : Pos), XOk G X N sc C cm er W → chkL G N cm es sc xs = true → PE X (.BoolOp .And xs p) (tA X.K er G W C es)
  | [], es, _, X, sc, W, p, hx, h => by
    obtain rfl := chkL_nil h
    exact pe_bad fun σ H Q ⟨m, F, env, hs, s, q⟩ => by
      simp only [evalA] at q
      exact q
  | [x], es, ih, X, sc, W, p, hx, h => by
    obtain ⟨a, r, rfl, h1, h2⟩ := chkL_cons h
    obtain rfl := chkL_nil h2
    exact and_one (ih a (by simp; omega) X sc W x hx h1)
  | x :: y :: xs, es, ih, X, sc, W, p, hx, h => by
    obtain ⟨a, r, rfl, h1, h2⟩ := chkL_cons h
    have h3 := stepAnd (y :: xs) r (fun b hb => ih b (by simp; omega)) X sc W p hx h2
    obtain ⟨b, r', rfl, h4, h5⟩ := chkL_cons h2
    exact and_more (ih a (by simp; omega) X sc W x hx h1) h3
theorem stepOr : ∀ (xs : List Expr) (es : E), (∀ a, sizeOf a < sizeOf es → SE G N C cm er a) → ∀ (X : Cx) (sc : Scope) (W : WX) (p : Pos), XOk G X N sc C cm er W → chkL G N cm es sc xs = true → PE X (.BoolOp .Or xs p) (tO X.K er G W C es)
  | [], es, _, X, sc, W, p, hx, h => by
    obtain rfl := chkL_nil h
    exact pe_bad fun σ H Q ⟨m, F, env, hs, s, q⟩ => by
      simp only [evalO] at q
      exact q
  | [x], es, ih, X, sc, W, p, hx, h => by
    obtain ⟨a, r, rfl, h1, h2⟩ := chkL_cons h
    obtain rfl := chkL_nil h2
    exact or_one (ih a (by simp; omega) X sc W x hx h1)
  | x :: y :: xs, es, ih, X, sc, W, p, hx, h => by
    obtain ⟨a, r, rfl, h1, h2⟩ := chkL_cons h
    have h3 := stepOr (y :: xs) r (fun b hb => ih b (by simp; omega)) X sc W p hx h2
    obtain ⟨b, r', rfl, h4, h5⟩ := chkL_cons h2
    exact or_more (ih a (by simp; omega) X sc W x hx h1) h3
theorem stepAndT : ∀ (xs : List Expr) (es : E), (∀ a, sizeOf a < sizeOf es → ST G N C cm er a) → ∀ (X : Cx) (sc : Scope) (W : WX) (p : Pos), XOk G X N sc C cm er W → tst es = true → chkL G N cm es sc xs = true → PW X (.BoolOp .And xs p) (tAT X.K er G W C es)
  | [], es, _, X, sc, W, p, hx, t, h => by
    obtain rfl := chkL_nil h
    exact pw_bad fun σ H Q ⟨m, F, env, hs, s, q⟩ => by
      simp only [evalA] at q
      exact q
  | [x], es, ih, X, sc, W, p, hx, t, h => by
    obtain ⟨a, r, rfl, h1, h2⟩ := chkL_cons h
    obtain rfl := chkL_nil h2
    simp only [tst, Bool.and_eq_true] at t
    exact andT_one (ih a (by simp; omega) X sc W x hx t.1 h1)
  | x :: y :: xs, es, ih, X, sc, W, p, hx, t, h => by
    obtain ⟨a, r, rfl, h1, h2⟩ := chkL_cons h
    simp only [tst, Bool.and_eq_true] at t
    have h3 := stepAndT (y :: xs) r (fun b hb => ih b (by simp; omega)) X sc W p hx t.2 h2
    obtain ⟨b, r', rfl, h4, h5⟩ := chkL_cons h2
    exact andT_more (ih a (by simp; omega) X sc W x hx t.1 h1) h3
theorem stepOrT : ∀ (xs : List Expr) (es : E), (∀ a, sizeOf a < sizeOf es → ST G N C cm er a) → ∀ (X : Cx) (sc : Scope) (W : WX) (p : Pos), XOk G X N sc C cm er W → tst es = true → chkL G N cm es sc xs = true → PW X (.BoolOp .Or xs p) (tOT X.K er G W C es)
  | [], es, _, X, sc, W, p, hx, t, h => by
    obtain rfl := chkL_nil h
    exact pw_bad fun σ H Q ⟨m, F, env, hs, s, q⟩ => by
      simp only [evalO] at q
      exact q
  | [x], es, ih, X, sc, W, p, hx, t, h => by
    obtain ⟨a, r, rfl, h1, h2⟩ := chkL_cons h
    obtain rfl := chkL_nil h2
    simp only [tst, Bool.and_eq_true] at t
    exact orT_one (ih a (by simp; omega) X sc W x hx t.1 h1)
  | x :: y :: xs, es, ih, X, sc, W, p, hx, t, h => by
    obtain ⟨a, r, rfl, h1, h2⟩ := chkL_cons h
    simp only [tst, Bool.and_eq_true] at t
    have h3 := stepOrT (y :: xs) r (fun b hb => ih b (by simp; omega)) X sc W p hx t.2 h2
    obtain ⟨b, r', rfl, h4, h5⟩ := chkL_cons h2
    exact orT_more (ih a (by simp; omega) X sc W x hx t.1 h1) h3
theorem stepO {o : E} (ih : ∀ a, sizeOf a < sizeOf o → SE G N C cm er a) {X : Cx} {sc : Scope} {W : WX} {x : Option Expr} (hx : XOk G X N sc C cm er W) (h : chkO G N cm o sc x = true) : PO X x (tP X.K er G W C o) := by
  unfold chkO at h
  split at h
  · exact s_bnd0
  · rename_i a y
    exact s_bnd1 (ih a (by simp; omega) X sc W y hx h)
  · cases h
/-- what is walked -/
theorem stepI {k : IK} {ie : E} (ih : ∀ a, sizeOf a < sizeOf ie → SE G N C cm er a) {X : Cx} {sc : Scope} {W : WX} {x tg : Expr} {t : Tg} (hx : XOk G X N sc C cm er W) (tf : tgFor k t = true) (ht : ∀ is, t = .tp is → ∃ elts kk tp, tg = .Tuple elts kk tp) (hnm : ∀ i, t = .nm i → ∃ y q, tg = .Name y q) (h : chkI G N cm k ie sc x = true) : PI X tg x (tI X.K er G W C k ie) := by
  have hn' : k = .enumN → ∃ i, t = .nm i := fun hk => by
    cases t with
    | nm i => exact ⟨i, rfl⟩
    | tp is => subst hk; cases tf
  have ht' : (k = .zip ∨ k = .enum) → ∃ elts kk tp, tg = .Tuple elts kk tp := fun hk => by
    cases t with
    | nm i => rcases hk with rfl | rfl <;> cases tf
    | tp is => exact ht is rfl
  unfold chkI at h
  split at h
  · rename_i a
    exact s_plain (ih a (by simp; omega) X sc W x hx h)
  · rename_i a
    obtain ⟨g, xs, p, rfl, h0⟩ := onCall_i h
    simp only [Bool.and_eq_true] at h0
    obtain ⟨h1, h2⟩ := h0
    obtain ⟨p1, rfl, g1, g2⟩ := blt_i h1
    split at h2
    · rename_i y
      exact s_rng1 hx g1 g2 (plainX_i (chkX a h2)).1 (ih a (by simp; omega) X sc W y hx h2)
    · cases h2
  · rename_i a b
    obtain ⟨g, xs, p, rfl, h0⟩ := onCall_i h
    simp only [Bool.and_eq_true] at h0
    obtain ⟨⟨_, h1⟩, h2⟩ := h0
    obtain ⟨p1, rfl, g1, g2⟩ := blt_i h1
    split at h2
    · rename_i y z
      simp only [Bool.and_eq_true] at h2
      exact s_rng2 hx g1 g2 (plainX_i (chkX a h2.1)).1 (plainX_i (chkX b h2.2)).1 (ih a (by simp; omega) X sc W y hx h2.1) (ih b (by simp; omega) X sc W z hx h2.2)
    · cases h2
  · rename_i a b c
    obtain ⟨g, xs, p, rfl, h0⟩ := onCall_i h
    simp only [Bool.and_eq_true] at h0
    obtain ⟨⟨_, h1⟩, h2⟩ := h0
    obtain ⟨p1, rfl, g1, g2⟩ := blt_i h1
    split at h2
    · rename_i y z u
      simp only [Bool.and_eq_true] at h2
      exact s_rng3 hx g1 g2 (plainX_i (chkX a h2.1.1)).1 (plainX_i (chkX b h2.1.2)).1 (plainX_i (chkX c h2.2)).1 (ih a (by simp; omega) X sc W y hx h2.1.1) (ih b (by simp; omega) X sc W z hx h2.1.2) (ih c (by simp; omega) X sc W u hx h2.2)
    · cases h2
  · rename_i a b
    obtain ⟨elts, kk, tp, rfl⟩ := ht' (.inl rfl)
    obtain ⟨g, xs, p, rfl, h0⟩ := onCall_i h
    simp only [Bool.and_eq_true] at h0
    obtain ⟨h1, h2⟩ := h0
    obtain ⟨p1, rfl, g1, g2⟩ := blt_i h1
    split at h2
    · rename_i y z
      simp only [Bool.and_eq_true] at h2
      exact s_zip hx g1 g2 (plainX_i (chkX a h2.1)).1 (plainX_i (chkX b h2.2)).1 (ih a (by simp; omega) X sc W y hx h2.1) (ih b (by simp; omega) X sc W z hx h2.2)
    · cases h2
  · rename_i a
    obtain ⟨elts, kk, tp, rfl⟩ := ht' (.inr rfl)
    obtain ⟨g, xs, p, rfl, h0⟩ := onCall_i h
    simp only [Bool.and_eq_true] at h0
    obtain ⟨h1, h2⟩ := h0
    obtain ⟨p1, rfl, g1, g2⟩ := blt_i h1
    split at h2
    · rename_i y
      exact s_enum hx g1 g2 (plainX_i (chkX a h2)).1 (ih a (by simp; omega) X sc W y hx h2)
    · cases h2
  · rename_i a
    obtain ⟨i, rfl⟩ := hn' rfl
    obtain ⟨xn, pn, rfl⟩ := hnm i rfl
    obtain ⟨g, xs, p, rfl, h0⟩ := onCall_i h
    simp only [Bool.and_eq_true] at h0
    obtain ⟨h1, h2⟩ := h0
    obtain ⟨p1, rfl, g1, g2⟩ := blt_i h1
    split at h2
    · rename_i y
      exact s_enumN hx g1 g2 (plainX_i (chkX a h2)).1 (ih a (by simp; omega) X sc W y hx h2)
    · cases h2
  · cases h
theorem cstNone_i {c : Const} (h : cstOk .none c = true) : c = .none := by
  cases c <;> first | rfl | cases h
theorem cstBool_i {c : Const} {k : Bool} (h : cstOk (.bool k) c = true) : c = .bool k := by
  cases c with
  | bool j =>
    have : k = j := by simpa [cstOk] using h
    rw [this]
  | _ => cases h
theorem noFold {e : Expr} (h : noSet e = true) (env : PySem.Env) (v : Value) : foldedSetIterable e env v = pure v := by
  cases e <;> first | rfl | cases h
theorem own_snd {N : List Str} {is : List Nat} (h : ∀ j ∈ is, ∃ y, N[j]? = some y) : (is.filterMap fun j => (N[j]?).map fun y => (y, j)).map (·.2) = is := by
  induction is with
  | nil => rfl
  | cons j is ih =>
    obtain ⟨y, hy⟩ := h j List.mem_cons_self
    rw [List.filterMap_cons, hy]
    simp only [Option.map_some, List.map_cons, List.cons.injEq, true_and]
    exact ih fun i hi => h i (List.mem_cons_of_mem _ hi)
theorem chkT_mem {sc : Scope} : ∀ {is : List Nat} {es : List Expr}, chkT N sc is es = true → ∀ j ∈ is, ∃ y, N[j]? = some y
  | [], _, _, _, h => nomatch h
  | i :: is, [], h, _, _ => by simp [chkT] at h
  | i :: is, e :: es, h, j, hj => by
    simp only [chkT, Bool.and_eq_true] at h
    rcases List.mem_cons.mp hj with rfl | hj
    · obtain ⟨x, p, rfl, h1⟩ := onName_i h.1
      unfold ownOk at h1
      simp only [Bool.and_eq_true, decide_eq_true_eq] at h1
      exact ⟨x, h1.1.1⟩
    · exact chkT_mem h.2 j hj
theorem chkTg_mem {sc : Scope} {t : Tg} {e : Expr} (h : chkTg N sc t e = true) : ∀ j ∈ tgIs t, ∃ y, N[j]? = some y := by
  cases t with
  | nm i =>
    intro j hj
    simp only [tgIs, List.mem_singleton] at hj
    subst hj
    obtain ⟨x, p, rfl, h1⟩ := onName_i h
    unfold ownOk at h1
    simp only [Bool.and_eq_true, decide_eq_true_eq] at h1
    exact ⟨x, h1.1.1⟩
  | tp is =>
    obtain ⟨x, k, p, rfl, h1⟩ := onTup_i h
    simp only [Bool.and_eq_true] at h1
    exact chkT_mem h1.2
theorem chkTg_tup {sc : Scope} {t : Tg} {e : Expr} (h : chkTg N sc t e = true) : ∀ is, t = .tp is → ∃ elts kk tp, e = .Tuple elts kk tp := fun is ht => by
  subst ht
  obtain ⟨x, k, p, rfl, h1⟩ := onTup_i h
  exact ⟨x, k, p, rfl⟩
theorem chkTg_nm {sc : Scope} {t : Tg} {e : Expr} (h : chkTg N sc t e = true) : ∀ i, t = .nm i → ∃ y q, e = .Name y q := fun i ht => by
  subst ht
  obtain ⟨x, p, rfl, h1⟩ := onName_i h
  exact ⟨x, p, rfl⟩
end
end Mi

/-! Mi: expressions: the theorem. -/
namespace Mi
open PySem PySem.Spec PyProof.Rows L2

section
variable {G : Ctx} {N : List Str} {C : Cf} {cm : Bool} {er : Nat → V → Prop}
theorem cstInt_i {c : Const} {i : Int} (h : cstOk (.int i) c = true) : c = .int i := by
  cases c with
  | int j =>
    have : i = j := by simpa [cstOk] using h
    rw [this]
  | _ => cases h
/-- {i: j} -/
theorem s_dct1 {X : Cx} {W : WX} {i j : Int} {k1 k2 : Nat} {p p1 p2 : Pos} : PE X (.Dict [some (.Constant (.int i) k1 p1)] [.Constant (.int j) k2 p2] p) (tE X.K er G W C (.dct (.cons (.cst (.int i)) .nil) (.cons (.cst (.int j)) .nil))) := by
  refine pe_imp (pe_disp (pps_cons pe_int pe_int pps_nil) (by rfl) (by rfl) (fun z => by cases z) (by show 1 ≤ 15; decide)) fun σ H Q ⟨m, F, env, hs, s, q⟩ => ?_
  simp only [evalE, evalL, Res.bind_ok] at q
  intro d hd
  have q' : Q (.ref d) (upd H d (.dK [(Sum.inl i, .int j)])) := by
    obtain ⟨F', f', r'⟩ := Mi.give (K := X.K) (er := er) (H0 := H) (r := .fd [(i, .int j)]) (v := .ref d) (H' := upd H d (.dK [(Sum.inl i, .int j)])) (fun _ h => h) s.c ⟨d, _, rfl, hd, rfl, [(Sum.inl i, .int j)], upd_same, rfl, fun p hp => ⟨i, by rw [List.mem_singleton.mp hp]⟩, .cons rp_int (RpL.nil_iff.mpr rfl)⟩
    exact q m F' _ f' _ r'
  refine ⟨upd_same, [(Sum.inl i, .int j)], rfl, by show 1 ≤ 15; decide, ?_⟩
  have e : upd (upd H d (.dK [])) d (.dK (mergeK [] [(Sum.inl i, V.int j)])) = upd H d (.dK [(Sum.inl i, .int j)]) := by
    funext b
    by_cases hb : b = d
    · subst hb
      rw [upd_same, upd_same]
      rfl
    · rw [upd_ne hb, upd_ne hb, upd_ne hb]
  rw [e]
  exact q'
theorem chkE_mt {m : Mt} {o es : E} {sc : Scope} {e : Expr} (h : chkE G N cm (.mt m o es) sc e = true) :
    (m = .pop0 ∧ es = .nil ∧ onCall e (fun g xs p => onAttr g fun x m pa => m == Str.ofString "pop" && xs.isEmpty && posOk pa p && notCall0 x && chkE G N cm o sc x) = true) ∨
    (∃ a c, m = .get ∧ es = .cons a (.cons c .nil) ∧ onCall e (fun g xs p => onAttr g fun x m pa => m == Str.ofString "get" && posOk pa p && notCall0 x && chkE G N cm o sc x && (match xs with
      | [y, z] => chkE G N cm a sc y && chkE G N cm c sc z
      | _ => false)) = true) ∨
    (∃ a, es = .cons a .nil ∧ onCall e (fun g xs p => onAttr g fun x nm pa => (match mtN m with
      | some s => nm == Str.ofString s
      | none => false) && posOk pa p && notCall0 x && chkE G N cm o sc x && (match xs with
      | [y] => chkE G N cm a sc y
      | _ => false)) = true) := by
  unfold chkE at h
  split at h
  all_goals first
    | (rename_i z _; cases z; done)
    | (rename_i z; cases z; done)
    | (cases h; done)
    | skip
  all_goals first
    | (rename_i z; cases z; exact .inl ⟨rfl, rfl, h⟩)
    | (rename_i z; cases z; exact .inr (.inl ⟨_, _, rfl, rfl, h⟩))
    | (rename_i z; cases z; exact .inr (.inr ⟨_, rfl, h⟩))
theorem stepE (hn : ∀ c v, er c v → v ≠ .non) : ∀ (e : E), (∀ a, sizeOf a < sizeOf e → SE G N C cm er a ∧ ST G N C cm er a) → SE G N C cm er e
  | .var i, _, X, sc, W, x, hx, h => by
    simp only [chkE] at h
    obtain ⟨y, p, rfl, h0⟩ := onName_i h
    exact s_var hx h0
  | .give i, _, X, sc, W, x, hx, h => by
    simp only [chkE] at h
    obtain ⟨y, p, rfl, h0⟩ := onName_i h
    exact s_give hx h0
  | .cst d, _, X, sc, W, x, hx, h => by
    simp only [chkE] at h
    obtain ⟨y, k, p, rfl, h0⟩ := onConst_i h
    exact s_cst h0
  | .gc n d, _, X, sc, W, x, hx, h => by
    simp only [chkE] at h
    obtain ⟨y, p, rfl, h0⟩ := onName_i h
    simp only [Bool.and_eq_true, beq_iff_eq] at h0
    obtain ⟨⟨rfl, h1⟩, h2⟩ := h0
    split at h2
    · rename_i d' hd
      obtain rfl := same_eq h2
      exact s_gc hx h1 hd
    · cases h2
  | .nil, _, X, sc, W, x, hx, h => by simp [chkE] at h
  | .cons _ _, _, X, sc, W, x, hx, h => by simp [chkE] at h
  | .tup es, ih, X, sc, W, x, hx, h => by
    simp only [chkE] at h
    obtain ⟨xs, k, p, rfl, h0⟩ := onTup_i h
    exact s_tup (stepL xs es (fun a ha => (ih a (by simp; omega)).1) X sc W hx h0).1
  | .lst es, ih, X, sc, W, x, hx, h => by
    simp only [chkE] at h
    obtain ⟨xs, p, rfl, h0⟩ := onList_i h
    exact s_lst (stepL xs es (fun a ha => (ih a (by simp; omega)).1) X sc W hx h0).1
  | .dct k v, ih, X, sc, W, x, hx, h => by
    have : (k = .nil ∧ v = .nil ∧ onDict x (fun k v => k.isEmpty && v.isEmpty) = true) ∨ ∃ i j, k = .cons (.cst (.int i)) .nil ∧ v = .cons (.cst (.int j)) .nil ∧ onDict x (fun k v => match k, v with
        | [some x], [y] => onConst x (cstOk (.int i)) && onConst y (cstOk (.int j))
        | _, _ => false) = true := by
      unfold chkE at h
      split at h <;> first | (rename_i z; cases z; exact .inl ⟨rfl, rfl, h⟩) | (rename_i z; cases z; exact .inr ⟨_, _, rfl, rfl, h⟩) | (rename_i z; cases z; done) | (rename_i z _; cases z; done) | (cases h; done)
    rcases this with ⟨rfl, rfl, h1⟩ | ⟨i, j, rfl, rfl, h1⟩
    · obtain ⟨ks, vs, p, rfl, h0⟩ := onDict_i h1
      simp only [Bool.and_eq_true, List.isEmpty_iff] at h0
      obtain ⟨rfl, rfl⟩ := h0
      exact s_dct0
    · obtain ⟨ks, vs, p, rfl, h0⟩ := onDict_i h1
      split at h0
      · rename_i a b
        simp only [Bool.and_eq_true] at h0
        obtain ⟨c1, k1, p1, rfl, h2⟩ := onConst_i h0.1
        obtain ⟨c2, k2, p2, rfl, h3⟩ := onConst_i h0.2
        obtain rfl := cstInt_i h2
        obtain rfl := cstInt_i h3
        exact s_dct1
      · cases h0
  | .bin o a b, ih, X, sc, W, x, hx, h => by
    simp only [chkE] at h
    obtain ⟨y, q, z, p, rfl, h0⟩ := onBin_i h
    simp only [Bool.and_eq_true, decide_eq_true_eq] at h0
    obtain ⟨⟨rfl, h1⟩, h2⟩ := h0
    exact s_bin ((ih a (by simp; omega)).1 X sc W y hx h1) ((ih b (by simp; omega)).1 X sc W z hx h2)
  | .neg a, ih, X, sc, W, x, hx, h => by
    simp only [chkE] at h
    obtain ⟨q, z, p, rfl, h0⟩ := onUn_i h
    simp only [Bool.and_eq_true, decide_eq_true_eq] at h0
    obtain ⟨rfl, h1⟩ := h0
    exact s_neg ((ih a (by simp)).1 X sc W z hx h1)
  | .cmp o a b, ih, X, sc, W, x, hx, h => by
    simp only [chkE] at h
    obtain ⟨y, q, z, p, rfl, h0⟩ := onCmp_i h
    simp only [Bool.and_eq_true, decide_eq_true_eq] at h0
    obtain ⟨⟨rfl, h1⟩, h2⟩ := h0
    exact s_cmp hx (plainX_i (chkX b h2)).2.1 ((ih a (by simp; omega)).1 X sc W y hx h1) ((ih b (by simp; omega)).1 X sc W z hx h2)
  | .chain o o' a b c, ih, X, sc, W, x, hx, h => by
    simp only [chkE] at h
    obtain ⟨y, q, q', z, u, p, rfl, h0⟩ := onChain_i h
    simp only [Bool.and_eq_true, decide_eq_true_eq] at h0
    obtain ⟨⟨⟨⟨rfl, rfl⟩, h1⟩, h2⟩, h3⟩ := h0
    exact s_chain hx (plainX_i (chkX c h3)).2.1 ((ih a (by simp; omega)).1 X sc W y hx h1) ((ih b (by simp; omega)).1 X sc W z hx h2) ((ih c (by simp; omega)).1 X sc W u hx h3)
  | .isN a, ih, X, sc, W, x, hx, h => by
    simp only [chkE] at h
    obtain ⟨y, q, z, p, rfl, h0⟩ := onCmp_i h
    simp only [Bool.and_eq_true, decide_eq_true_eq] at h0
    obtain ⟨⟨rfl, h1⟩, h2⟩ := h0
    obtain ⟨c, k, p', rfl, h3⟩ := onConst_i h1
    obtain rfl := cstNone_i h3
    exact s_isN hn ((ih a (by simp)).1 X sc W y hx h2)
  | .isNN a, ih, X, sc, W, x, hx, h => by
    simp only [chkE] at h
    obtain ⟨y, q, z, p, rfl, h0⟩ := onCmp_i h
    simp only [Bool.and_eq_true, decide_eq_true_eq] at h0
    obtain ⟨⟨rfl, h1⟩, h2⟩ := h0
    obtain ⟨c, k, p', rfl, h3⟩ := onConst_i h1
    obtain rfl := cstNone_i h3
    exact s_isNN hn ((ih a (by simp)).1 X sc W y hx h2)
  | .isB b a, ih, X, sc, W, x, hx, h => by
    simp only [chkE] at h
    obtain ⟨y, q, z, p, rfl, h0⟩ := onCmp_i h
    simp only [Bool.and_eq_true, decide_eq_true_eq] at h0
    obtain ⟨⟨rfl, h1⟩, h2⟩ := h0
    obtain ⟨c, k, p', rfl, h3⟩ := onConst_i h1
    obtain rfl := cstBool_i h3
    exact s_isB ((ih a (by simp)).1 X sc W y hx h2)
  | .isNB b a, ih, X, sc, W, x, hx, h => by
    simp only [chkE] at h
    obtain ⟨y, q, z, p, rfl, h0⟩ := onCmp_i h
    simp only [Bool.and_eq_true, decide_eq_true_eq] at h0
    obtain ⟨⟨rfl, h1⟩, h2⟩ := h0
    obtain ⟨c, k, p', rfl, h3⟩ := onConst_i h1
    obtain rfl := cstBool_i h3
    exact s_isNB ((ih a (by simp)).1 X sc W y hx h2)
  | .and_ es, ih, X, sc, W, x, hx, h => by
    simp only [chkE] at h
    obtain ⟨q, xs, p, rfl, h0⟩ := onBool_i h
    simp only [Bool.and_eq_true, decide_eq_true_eq] at h0
    obtain ⟨rfl, h1⟩ := h0
    exact pe_imp (stepAnd xs es (fun a ha => (ih a (by simp; omega)).1) X sc W p hx h1) fun σ H Q ⟨m, F, env, hs, s, q⟩ => ⟨m, F, env, hs, s, by simpa only [evalE] using q⟩
  | .or_ es, ih, X, sc, W, x, hx, h => by
    simp only [chkE] at h
    obtain ⟨q, xs, p, rfl, h0⟩ := onBool_i h
    simp only [Bool.and_eq_true, decide_eq_true_eq] at h0
    obtain ⟨rfl, h1⟩ := h0
    exact pe_imp (stepOr xs es (fun a ha => (ih a (by simp; omega)).1) X sc W p hx h1) fun σ H Q ⟨m, F, env, hs, s, q⟩ => ⟨m, F, env, hs, s, by simpa only [evalE] using q⟩
  | .not_ a, ih, X, sc, W, x, hx, h => by
    simp only [chkE] at h
    obtain ⟨q, z, p, rfl, h0⟩ := onUn_i h
    simp only [Bool.and_eq_true, decide_eq_true_eq] at h0
    obtain ⟨rfl, h1⟩ := h0
    exact s_not ((ih a (by simp)).1 X sc W z hx h1)
  | .ite c a b, ih, X, sc, W, x, hx, h => by
    simp only [chkE] at h
    obtain ⟨y, z, u, p, rfl, h0⟩ := onIf_i h
    simp only [Bool.and_eq_true] at h0
    obtain ⟨⟨⟨t, h1⟩, h2⟩, h3⟩ := h0
    exact s_ite ((ih c (by simp; omega)).2 X sc W y hx t h1) ((ih a (by simp; omega)).1 X sc W z hx h2) ((ih b (by simp; omega)).1 X sc W u hx h3)
  | .ix a i, ih, X, sc, W, x, hx, h => by
    simp only [chkE] at h
    obtain ⟨y, z, p, rfl, h0⟩ := onSub_i h
    simp only [Bool.and_eq_true] at h0
    exact s_ix hx (plainX_i (chkX i h0.2)).2.2 ((ih a (by simp; omega)).1 X sc W y hx h0.1) ((ih i (by simp; omega)).1 X sc W z hx h0.2)
  | .slc a lo hi, ih, X, sc, W, x, hx, h => by
    simp only [chkE] at h
    obtain ⟨y, z, p, rfl, h0⟩ := onSub_i h
    simp only [Bool.and_eq_true] at h0
    obtain ⟨h1, h2⟩ := h0
    obtain ⟨l, u, st, p2, rfl, h3⟩ := onSlc_i h2
    simp only [Bool.and_eq_true, Option.isNone_iff_eq_none] at h3
    obtain ⟨⟨rfl, h4⟩, h5⟩ := h3
    exact s_slc ((ih a (by simp; omega)).1 X sc W y hx h1) (stepO (fun a ha => (ih a (by simp; omega)).1) hx h4) (stepO (fun a ha => (ih a (by simp; omega)).1) hx h5)
  | .rev a, ih, X, sc, W, x, hx, h => by
    simp only [chkE] at h
    obtain ⟨y, z, p, rfl, h0⟩ := onSub_i h
    simp only [Bool.and_eq_true] at h0
    obtain ⟨l, u, st, p2, rfl, h3⟩ := onSlc_i h0.2
    simp only [Bool.and_eq_true, Option.isNone_iff_eq_none] at h3
    obtain ⟨⟨rfl, rfl⟩, h4⟩ := h3
    obtain ⟨k, p3, p4, rfl⟩ := isNeg1_i h4
    exact s_rev hx ((ih a (by simp)).1 X sc W y hx h0.1)
  | .new a, ih, X, sc, W, x, hx, h => by
    simp only [chkE] at h
    exact s_new ((ih a (by simp)).1 X sc W x hx h)
  | .call f es, ih, X, sc, W, x, hx, h => by
    simp only [chkE] at h
    obtain ⟨g, xs, p, rfl, h0⟩ := onCall_i h
    simp only [Bool.and_eq_true] at h0
    obtain ⟨⟨⟨hc, h1⟩, h2⟩, h3⟩ := h0
    obtain ⟨y, p', rfl, h4⟩ := onName_i h1
    simp only [Bool.and_eq_true, decide_eq_true_eq] at h4
    obtain ⟨h5, h6⟩ := stepL xs es (fun a ha => (ih a (by simp; omega)).1) X sc W hx h3
    cases xs with
    | nil => cases h2
    | cons z zs => exact s_call hx hc h4.1 h4.2 h6 h5
  | .pick fs i es, ih, X, sc, W, x, hx, h => by
    simp only [chkE] at h
    obtain ⟨g, xs, p, rfl, h0⟩ := onCall_i h
    simp only [Bool.and_eq_true, decide_eq_true_eq] at h0
    obtain ⟨⟨⟨⟨hc, hl⟩, h1⟩, h2⟩, h3⟩ := h0
    obtain ⟨l, ix, p2, rfl, h4⟩ := onSub_i h1
    simp only [Bool.and_eq_true] at h4
    obtain ⟨ls, p3, rfl, h5⟩ := onList_i h4.1
    obtain ⟨h6, h7⟩ := stepL xs es (fun a ha => (ih a (by simp; omega)).1) X sc W hx h3
    cases xs with
    | nil => cases h2
    | cons z zs => exact s_pick hx hc h5 hl (plainX_i (chkX i h4.2)).2.2 ((ih i (by simp; omega)).1 X sc W ix hx h4.2) h7 h6
  | .bi b es, ih, X, sc, W, x, hx, h => by
    rcases chkE_bi h with ⟨t, a, rfl, rfl, h1⟩ | ⟨t, u, a, rfl, rfl, h1⟩ | ⟨k, a, rfl, rfl, h1⟩ | ⟨a, rfl, rfl, h1⟩ | ⟨a, rfl, h1⟩ | ⟨a, c, rfl, h1⟩
    · obtain ⟨g, xs, p, rfl, h0⟩ := onCall_i h1
      simp only [Bool.and_eq_true] at h0
      obtain ⟨h2, h3⟩ := h0
      obtain ⟨p1, rfl, g1, g2⟩ := blt_i h2
      split at h3
      · rename_i y z
        simp only [Bool.and_eq_true] at h3
        obtain ⟨p2, rfl, g3, g4⟩ := blt_i h3.2
        exact s_isi1 hx g1 g2 g3 g4 (ty_boot t) (plainX_i (chkX a h3.1)).1 ((ih a (by simp; omega)).1 X sc W y hx h3.1)
      · cases h3
    · obtain ⟨g, xs, p, rfl, h0⟩ := onCall_i h1
      simp only [Bool.and_eq_true] at h0
      obtain ⟨h2, h3⟩ := h0
      obtain ⟨p1, rfl, g1, g2⟩ := blt_i h2
      split at h3
      · rename_i y z
        simp only [Bool.and_eq_true] at h3
        obtain ⟨ys, k, p2, rfl, h4⟩ := onTup_i h3.2
        split at h4
        · rename_i y1 y2
          simp only [Bool.and_eq_true] at h4
          obtain ⟨p3, rfl, g3, g4⟩ := blt_i h4.1
          obtain ⟨p4, rfl, g5, g6⟩ := blt_i h4.2
          exact s_isi2 hx g1 g2 g3 g4 (ty_boot t) g5 g6 (ty_boot u) (plainX_i (chkX a h3.1)).1 ((ih a (by simp; omega)).1 X sc W y hx h3.1)
        · cases h4
      · cases h3
    · obtain ⟨g, xs, p, rfl, h0⟩ := onCall_i h1
      simp only [Bool.and_eq_true, decide_eq_true_eq] at h0
      obtain ⟨⟨hk, h2⟩, h3⟩ := h0
      obtain ⟨p1, rfl, g1, g2⟩ := blt_i h2
      split at h3
      · rename_i y z
        simp only [Bool.and_eq_true] at h3
        obtain ⟨u, p2, rfl, h4⟩ := onName_i h3.2
        simp only [Bool.and_eq_true, decide_eq_true_eq] at h4
        exact s_isx hx hk g1 g2 h4.1 h4.2 (plainX_i (chkX a h3.1)).1 ((ih a (by simp; omega)).1 X sc W y hx h3.1)
      · cases h3
    · obtain ⟨g, xs, p, rfl, h0⟩ := onCall_i h1
      simp only [Bool.and_eq_true] at h0
      obtain ⟨h2, h3⟩ := h0
      obtain ⟨p1, rfl, g1, g2⟩ := blt_i h2
      split at h3
      · rename_i y z
        simp only [Bool.and_eq_true] at h3
        obtain ⟨p2, rfl, g3, g4⟩ := blt_i h3.2
        exact s_isve hx g1 g2 g3 g4 (plainX_i (chkX a h3.1)).1 ((ih a (by simp; omega)).1 X sc W y hx h3.1)
      · cases h3
    · obtain ⟨g, xs, p, rfl, h0⟩ := onCall_i h1
      simp only [Bool.and_eq_true] at h0
      obtain ⟨hc, h0⟩ := h0
      split at h0
      · rename_i s1 s2 hb
        simp only [Bool.and_eq_true] at h0
        obtain ⟨p1, rfl, g1, g2⟩ := blt_i h0.1
        have h3 := h0.2
        split at h3
        · rename_i y
          obtain ⟨g', ys, p2, rfl, h4⟩ := onCall_i h3
          simp only [Bool.and_eq_true] at h4
          obtain ⟨p3, rfl, g3, g4⟩ := blt_i h4.1
          have h5 := h4.2
          split at h5
          · rename_i z
            have ns := (plainX_i (chkX a h5)).1
            have he := (ih a (by simp; omega)).1 X sc W z hx h5
            cases b <;> (unfold nst at hb) <;> first | (cases hb; done) | skip
            · cases hb
              exact s_listRng hx hc g1 g2 g3 g4 ns he
            · cases hb
              exact s_tupRng hx hc g1 g2 g3 g4 ns he
            · cases hb
              exact s_lenSet hx hc g1 g2 g3 g4 ns he
            · cases hb
              exact s_sortedSet hx hc g1 g2 g3 g4 ns he
          · cases h5
        · cases h3
      · simp only [Bool.and_eq_true] at h0
        obtain ⟨h2, h3⟩ := h0
        split at h2
        · rename_i s k hb
          obtain ⟨p1, rfl, g1, g2⟩ := blt_i h2
          obtain ⟨b1, b2⟩ := bi_one (er := er) (X := X) (hx.calm hc) hx.hu hb
          split at h3
          · rename_i y
            cases k with
            | false => exact s_bi1 hx g1 g2 b1 b2 (plainX_i (chkX a h3)).1 ((ih a (by simp; omega)).1 X sc W y hx h3)
            | true => exact s_bi1T hx g1 g2 b1 b2 (plainX_i (chkX a h3)).1 ((ih a (by simp; omega)).1 X sc W y hx h3)
          · cases h3
        · cases h2
    · obtain ⟨g, xs, p, rfl, h0⟩ := onCall_i h1
      simp only [Bool.and_eq_true] at h0
      obtain ⟨⟨hc, h2⟩, h3⟩ := h0
      split at h2
      · rename_i s k hb
        simp only [Bool.and_eq_true, Bool.not_eq_true'] at h2
        obtain ⟨rfl, h2⟩ := h2
        obtain ⟨p1, rfl, g1, g2⟩ := blt_i h2
        obtain ⟨b1, b2⟩ := bi_two (X := X) (hx.calm hc) hb
        split at h3
        · rename_i y z
          simp only [Bool.and_eq_true] at h3
          exact s_bi2 hx g1 g2 b1 b2 (plainX_i (chkX a h3.1)).1 (plainX_i (chkX c h3.2)).1 ((ih a (by simp; omega)).1 X sc W y hx h3.1) ((ih c (by simp; omega)).1 X sc W z hx h3.2)
        · cases h3
      · cases h2
  | .mt m o es, ih, X, sc, W, x, hx, h => by
    rcases chkE_mt h with ⟨rfl, rfl, h1⟩ | ⟨a, c, rfl, rfl, h1⟩ | ⟨a, rfl, h1⟩
    · obtain ⟨g, xs, p, rfl, h0⟩ := onCall_i h1
      obtain ⟨y, nm, pa, rfl, h2⟩ := onAttr_i h0
      simp only [Bool.and_eq_true, beq_iff_eq, List.isEmpty_iff] at h2
      obtain ⟨⟨⟨⟨rfl, rfl⟩, h4⟩, h5⟩, h6⟩ := h2
      exact s_pop0 hx h5 h4 ((ih o (by simp; omega)).1 X sc W y hx h6)
    · obtain ⟨g, xs, p, rfl, h0⟩ := onCall_i h1
      obtain ⟨y, nm, pa, rfl, h2⟩ := onAttr_i h0
      simp only [Bool.and_eq_true, beq_iff_eq] at h2
      obtain ⟨⟨⟨⟨rfl, h4⟩, h5⟩, h6⟩, h7⟩ := h2
      split at h7
      · rename_i z u
        simp only [Bool.and_eq_true] at h7
        exact s_get hx h5 h4 (plainX_i (chkX a h7.1)).1 (plainX_i (chkX c h7.2)).1 ((ih o (by simp; omega)).1 X sc W y hx h6) ((ih a (by simp; omega)).1 X sc W z hx h7.1) ((ih c (by simp; omega)).1 X sc W u hx h7.2)
      · cases h7
    · obtain ⟨g, xs, p, rfl, h0⟩ := onCall_i h1
      obtain ⟨y, nm, pa, rfl, h2⟩ := onAttr_i h0
      simp only [Bool.and_eq_true] at h2
      obtain ⟨⟨⟨⟨h3, h4⟩, h5⟩, h6⟩, h7⟩ := h2
      split at h7
      · rename_i z
        have ns := (plainX_i (chkX a h7)).1
        have ho := (ih o (by simp; omega)).1 X sc W y hx h6
        have ha := (ih a (by simp; omega)).1 X sc W z hx h7
        split at h3
        · rename_i s hm
          have hn : nm = Str.ofString s := by simpa using h3
          subst hn
          cases m <;> (unfold mtN at hm) <;> first | (cases hm; done) | skip
          · cases hm
            exact s_mt1 hx (.inl rfl) PySem.F.slot_list_count PySem.F.slot_tuple_count PySem.F.type_list_count PySem.F.type_tuple_count (mt_countM hx.hu) (mt_countT hx.hu) h5 h4 ns ho ha
          · cases hm
            exact s_mt1 hx (.inr rfl) PySem.F.slot_list_index PySem.F.slot_tuple_index PySem.F.type_list_index PySem.F.type_tuple_index (mt_indexM hx.hu) (mt_indexT hx.hu) h5 h4 ns ho ha
          · cases hm
            exact s_pop1 hx h5 h4 ns ho ha
          · cases hm
            exact s_join hx h5 h4 ns ho ha
          · cases hm
            exact s_split hx h5 h4 ns ho ha
        · cases h3
      · cases h7
  | .lc elt t k ie cond, ih, X, sc, W, x, hx, h => by
    simp only [chkE, Bool.and_eq_true] at h
    obtain ⟨⟨hc, tf⟩, h⟩ := h
    obtain ⟨a, tg, i, cs, s, p, rfl, h0⟩ := onLc_i h
    simp only [Bool.and_eq_true, decide_eq_true_eq] at h0
    obtain ⟨⟨⟨⟨⟨⟨⟨⟨h1, h2⟩, h3⟩, h4⟩, h5⟩, h6⟩, h7⟩, h8⟩, h9⟩ := h0
    refine s_lc hx hc (stepI (fun a ha => (ih a (by simp; omega)).1) hx tf (chkTg_tup h3) (chkTg_nm h3) h2) (blk_of hx h5) (own_snd (chkTg_mem h3)) (fun s' H C' cl fp => s_tg (xok_blk hx hc s s' H C' cl fp) hc h3) (fun s' H C' cl fp => ?_)
      (fun s' H C' cl fp => (ih elt (by simp; omega)).1 _ s _ a (xok_blk hx hc s s' H C' cl fp) h6) (noFold h1 _)
    match cs, h7, h8 with
    | [], h7, _ =>
      obtain rfl := chkL_nil h7
      exact s_c0
    | [c], h7, _ =>
      obtain ⟨b, r, rfl, h10, h11⟩ := chkL_cons h7
      obtain rfl := chkL_nil h11
      simp only [tst, Bool.and_eq_true] at h9
      exact s_c1 ((ih b (by simp; omega)).2 _ s _ c (xok_blk hx hc s s' H C' cl fp) h9.1 h10)
    | c :: d :: cs, _, h8 => simp at h8
  | .lvals a, ih, X, sc, W, x, hx, h => by
    simp only [chkE] at h
    obtain ⟨g, xs, p, rfl, h0⟩ := onCall_i h
    simp only [Bool.and_eq_true] at h0
    obtain ⟨⟨hc, h1⟩, h2⟩ := h0
    obtain ⟨q, rfl, g1, g2⟩ := blt_i h1
    split at h2
    · obtain ⟨g2', ys, p2, rfl, h3⟩ := onCall_i h2
      obtain ⟨y, nm, pa, rfl, h4⟩ := onAttr_i h3
      simp only [Bool.and_eq_true, beq_iff_eq, List.isEmpty_iff] at h4
      obtain ⟨⟨⟨⟨rfl, rfl⟩, h5⟩, h6⟩, h7⟩ := h4
      exact s_lvals hx hc g1 g2 h6 h5 ((ih a (by simp)).1 X sc W y hx h7)
    · cases h2
  | .lcd elt t i, ih, X, sc, W, x, hx, h => by
    simp only [chkE, Bool.and_eq_true] at h
    obtain ⟨hc, h⟩ := h
    obtain ⟨a, tg, d, cs, s, p, rfl, h0⟩ := onLc_i h
    simp only [Bool.and_eq_true, List.isEmpty_iff] at h0
    obtain ⟨⟨⟨⟨⟨h1, h2⟩, h3⟩, h4⟩, h5⟩, rfl⟩ := h0
    obtain ⟨z, q, rfl, h6⟩ := onName_i h2
    unfold varOk at h6
    simp only [Bool.and_eq_true, decide_eq_true_eq] at h6
    obtain ⟨y1, y2, _⟩ := plainN_i h6.2
    exact pe_imp (pe_lock (pe_lc (hx.calm hc) hx.nd (pi_keys (pe_var (by rw [hx.hN]; exact h6.1.1) (hx.vis z h6.1.2) y1 y2)) (blk_of hx h4) (fun s' H C' cl fp => s_tg (xok_blk hx hc s s' H C' cl fp) hc h3) (fun s' H C' cl fp => s_c0)
      (fun s' H C' cl fp => (ih elt (by simp; omega)).1 _ s _ a (xok_blk hx hc s s' H C' cl fp) h5) (noFold h1 _))) fun σ H Q hh => lcd_red (own_snd (chkTg_mem h3)) hh
theorem stepT (hn : ∀ c v, er c v → v ≠ .non) : ∀ (e : E), (∀ a, sizeOf a < sizeOf e → SE G N C cm er a ∧ ST G N C cm er a) → SE G N C cm er e → ST G N C cm er e
  | .and_ es, ih, se, X, sc, W, x, hx, t, h => by
    simp only [chkE] at h
    obtain ⟨q, xs, p, rfl, h0⟩ := onBool_i h
    simp only [Bool.and_eq_true, decide_eq_true_eq] at h0
    obtain ⟨rfl, h1⟩ := h0
    exact pt_imp (pt_of (stepAndT xs es (fun a ha => (ih a (by simp; omega)).2) X sc W p hx t h1)) fun σ H Q ⟨m, F, env, hs, s, q⟩ => ⟨m, F, env, hs, s, by simpa only [evalE, evalT] using q⟩
  | .or_ es, ih, se, X, sc, W, x, hx, t, h => by
    simp only [chkE] at h
    obtain ⟨q, xs, p, rfl, h0⟩ := onBool_i h
    simp only [Bool.and_eq_true, decide_eq_true_eq] at h0
    obtain ⟨rfl, h1⟩ := h0
    exact pt_imp (pt_of (stepOrT xs es (fun a ha => (ih a (by simp; omega)).2) X sc W p hx t h1)) fun σ H Q ⟨m, F, env, hs, s, q⟩ => ⟨m, F, env, hs, s, by simpa only [evalE, evalT] using q⟩
  | .not_ a, ih, se, X, sc, W, x, hx, t, h => by
    simp only [chkE] at h
    obtain ⟨q, z, p, rfl, h0⟩ := onUn_i h
    simp only [Bool.and_eq_true, decide_eq_true_eq] at h0
    obtain ⟨rfl, h1⟩ := h0
    exact s_notT ((ih a (by simp)).2 X sc W z hx t h1)
  | .cmp o a b, ih, se, X, sc, W, x, hx, t, h => by
    simp only [chkE] at h
    obtain ⟨y, q, z, p, rfl, h0⟩ := onCmp_i h
    simp only [Bool.and_eq_true, decide_eq_true_eq] at h0
    obtain ⟨⟨rfl, h1⟩, h2⟩ := h0
    exact s_cmpT hx (plainX_i (chkX b h2)).2.1 ((ih a (by simp; omega)).1 X sc W y hx h1) ((ih b (by simp; omega)).1 X sc W z hx h2)
  | .chain o o' a b c, ih, se, X, sc, W, x, hx, t, h => by
    simp only [chkE] at h
    obtain ⟨y, q, q', z, u, p, rfl, h0⟩ := onChain_i h
    simp only [Bool.and_eq_true, decide_eq_true_eq] at h0
    obtain ⟨⟨⟨⟨rfl, rfl⟩, h1⟩, h2⟩, h3⟩ := h0
    exact s_chainT hx (plainX_i (chkX c h3)).2.1 ((ih a (by simp; omega)).1 X sc W y hx h1) ((ih b (by simp; omega)).1 X sc W z hx h2) ((ih c (by simp; omega)).1 X sc W u hx h3)
  | .isN a, ih, se, X, sc, W, x, hx, t, h => by
    simp only [chkE] at h
    obtain ⟨y, q, z, p, rfl, h0⟩ := onCmp_i h
    simp only [Bool.and_eq_true, decide_eq_true_eq] at h0
    obtain ⟨⟨rfl, h1⟩, h2⟩ := h0
    obtain ⟨c, k, p', rfl, h3⟩ := onConst_i h1
    obtain rfl := cstNone_i h3
    exact s_isNT hn ((ih a (by simp)).1 X sc W y hx h2)
  | .isNN a, ih, se, X, sc, W, x, hx, t, h => by
    simp only [chkE] at h
    obtain ⟨y, q, z, p, rfl, h0⟩ := onCmp_i h
    simp only [Bool.and_eq_true, decide_eq_true_eq] at h0
    obtain ⟨⟨rfl, h1⟩, h2⟩ := h0
    obtain ⟨c, k, p', rfl, h3⟩ := onConst_i h1
    obtain rfl := cstNone_i h3
    exact s_isNNT hn ((ih a (by simp)).1 X sc W y hx h2)
  | .isB b a, ih, se, X, sc, W, x, hx, t, h => by
    simp only [chkE] at h
    obtain ⟨y, q, z, p, rfl, h0⟩ := onCmp_i h
    simp only [Bool.and_eq_true, decide_eq_true_eq] at h0
    obtain ⟨⟨rfl, h1⟩, h2⟩ := h0
    obtain ⟨c, k, p', rfl, h3⟩ := onConst_i h1
    obtain rfl := cstBool_i h3
    exact s_isBT ((ih a (by simp)).1 X sc W y hx h2)
  | .isNB b a, ih, se, X, sc, W, x, hx, t, h => by
    simp only [chkE] at h
    obtain ⟨y, q, z, p, rfl, h0⟩ := onCmp_i h
    simp only [Bool.and_eq_true, decide_eq_true_eq] at h0
    obtain ⟨⟨rfl, h1⟩, h2⟩ := h0
    obtain ⟨c, k, p', rfl, h3⟩ := onConst_i h1
    obtain rfl := cstBool_i h3
    exact s_isNBT ((ih a (by simp)).1 X sc W y hx h2)
  | .ite _ _ _, _, _, X, sc, W, x, hx, t, h => by simp [tst] at t
  | .new a, ih, se, X, sc, W, x, hx, t, h => by simp [tst] at t
  | .nil, _, _, X, sc, W, x, hx, t, h => by simp [chkE] at h
  | .cons _ _, _, _, X, sc, W, x, hx, t, h => by simp [chkE] at h
  | .rev _, _, se, X, sc, W, x, hx, t, h => by
    have hp := se X sc W x hx h
    simp only [chkE] at h
    obtain ⟨y, z, p, rfl, h0⟩ := onSub_i h
    exact s_val hp fun _ => rfl
  | .pick _ _ _, _, se, X, sc, W, x, hx, t, h => by
    have hp := se X sc W x hx h
    simp only [chkE] at h
    obtain ⟨g, xs, p, rfl, h0⟩ := onCall_i h
    exact s_val hp fun _ => rfl
  | .mt m o es, ih, se, X, sc, W, x, hx, t, h => by
    have hp := se X sc W x hx h
    have : ∃ g xs p, x = .Call g xs [] p := by
      rcases chkE_mt h with ⟨_, _, h1⟩ | ⟨a, c, _, _, h1⟩ | ⟨a, _, h1⟩ <;> (obtain ⟨g, xs, p, e, h0⟩ := onCall_i h1; exact ⟨g, xs, p, e⟩)
    obtain ⟨g, xs, p, rfl⟩ := this
    exact s_val hp fun _ => rfl
  | .var i, _, se, X, sc, W, x, hx, t, h => by
    have hp := se X sc W x hx h
    simp only [chkE] at h
    obtain ⟨y, p, rfl, h0⟩ := onName_i h
    exact s_val hp fun _ => rfl
  | .give i, _, se, X, sc, W, x, hx, t, h => by
    have hp := se X sc W x hx h
    simp only [chkE] at h
    obtain ⟨y, p, rfl, h0⟩ := onName_i h
    exact s_val hp fun _ => rfl
  | .cst i, _, se, X, sc, W, x, hx, t, h => by
    have hp := se X sc W x hx h
    simp only [chkE] at h
    obtain ⟨y, k, p, rfl, h0⟩ := onConst_i h
    exact s_val hp fun _ => rfl
  | .gc _ i, _, se, X, sc, W, x, hx, t, h => by
    have hp := se X sc W x hx h
    simp only [chkE] at h
    obtain ⟨y, p, rfl, h0⟩ := onName_i h
    exact s_val hp fun _ => rfl
  | .tup _, _, se, X, sc, W, x, hx, t, h => by
    have hp := se X sc W x hx h
    simp only [chkE] at h
    obtain ⟨y, k, p, rfl, h0⟩ := onTup_i h
    exact s_val hp fun _ => rfl
  | .lst _, _, se, X, sc, W, x, hx, t, h => by
    have hp := se X sc W x hx h
    simp only [chkE] at h
    obtain ⟨y, p, rfl, h0⟩ := onList_i h
    exact s_val hp fun _ => rfl
  | .dct _ _, _, _, X, sc, W, x, hx, t, h => by simp [tst] at t
  | .bin _ _ _, _, se, X, sc, W, x, hx, t, h => by
    have hp := se X sc W x hx h
    simp only [chkE] at h
    obtain ⟨y, q, z, p, rfl, h0⟩ := onBin_i h
    exact s_val hp fun _ => rfl
  | .neg _, _, se, X, sc, W, x, hx, t, h => by simp [tst] at t
  | .ix _ _, _, se, X, sc, W, x, hx, t, h => by
    have hp := se X sc W x hx h
    simp only [chkE] at h
    obtain ⟨y, z, p, rfl, h0⟩ := onSub_i h
    exact s_val hp fun _ => rfl
  | .slc _ _ _, _, se, X, sc, W, x, hx, t, h => by
    have hp := se X sc W x hx h
    simp only [chkE] at h
    obtain ⟨y, z, p, rfl, h0⟩ := onSub_i h
    exact s_val hp fun _ => rfl
  | .call _ _, _, se, X, sc, W, x, hx, t, h => by
    have hp := se X sc W x hx h
    simp only [chkE] at h
    obtain ⟨g, xs, p, rfl, h0⟩ := onCall_i h
    exact s_val hp fun _ => rfl
  | .bi b es, ih, se, X, sc, W, x, hx, t, h => by
    have hp := se X sc W x hx h
    have : ∃ g xs p, x = .Call g xs [] p := by
      rcases chkE_bi h with ⟨t, a, rfl, rfl, h1⟩ | ⟨t, u, a, rfl, rfl, h1⟩ | ⟨k, a, rfl, rfl, h1⟩ | ⟨a, rfl, rfl, h1⟩ | ⟨a, rfl, h1⟩ | ⟨a, c, rfl, h1⟩ <;> (obtain ⟨g, xs, p, e, h0⟩ := onCall_i h1; exact ⟨g, xs, p, e⟩)
    obtain ⟨g, xs, p, rfl⟩ := this
    exact s_val hp fun _ => rfl
  | .lc _ _ _ _ _, _, se, X, sc, W, x, hx, t, h => by
    have hp := se X sc W x hx h
    simp only [chkE, Bool.and_eq_true] at h
    obtain ⟨a, tg, i, cs, s, p, rfl, h0⟩ := onLc_i h.2
    exact s_val hp fun _ => rfl
  | .lvals _, _, se, X, sc, W, x, hx, t, h => by
    have hp := se X sc W x hx h
    simp only [chkE] at h
    obtain ⟨g, xs, p, rfl, h0⟩ := onCall_i h
    exact s_val hp fun _ => rfl
  | .lcd _ _ _, _, se, X, sc, W, x, hx, t, h => by
    have hp := se X sc W x hx h
    simp only [chkE, Bool.and_eq_true] at h
    obtain ⟨a, tg, i, cs, s, p, rfl, h0⟩ := onLc_i h.2
    exact s_val hp fun _ => rfl
theorem snd (hn : ∀ c v, er c v → v ≠ .non) : ∀ (n : Nat) (e : E), sizeOf e < n → SE G N C cm er e ∧ ST G N C cm er e
  | 0, _, h => absurd h (Nat.not_lt_zero _)
  | n + 1, e, h => by
    have ih : ∀ a, sizeOf a < sizeOf e → SE G N C cm er a ∧ ST G N C cm er a := fun a ha => snd hn n a (by omega)
    have h1 := stepE hn e ih
    exact ⟨h1, stepT hn e ih h1⟩
theorem sndE (hn : ∀ c v, er c v → v ≠ .non) (e : E) : SE G N C cm er e := (snd hn _ e (Nat.lt_succ_self _)).1
theorem sndT (hn : ∀ c v, er c v → v ≠ .non) (e : E) : ST G N C cm er e := (snd hn _ e (Nat.lt_succ_self _)).2
end
end Mi

/-! Mi: xs.extend(ys), xs.remove(y), xs[i] for xs[i] += e. -/
namespace Mi
open PySem PySem.Spec PyProof.Rows L2

section
variable {X : Cx} {er : Nat → V → Prop}
/-- ys: a list or a tuple -/
def rExt (K : PySem.W.Frag) : V → List V → Hp → VK → Prop := fun x vs H Q => ∃ l b xs zs, x = .ref l ∧ vs = [.ref b] ∧ H l = some (.lst xs) ∧ (SqL K H b zs ∨ SqT K H b zs) ∧ xs.length + zs.length ≤ sizeLine ∧ Q .non (upd H l (.lst (xs ++ zs)))
theorem extend_at {prog : Program} {w : World} {A : Around} {E : Value → Shared → Prop} {s : Shared} {l b : Addr} {n m : Nat} {xs ys : List Value} {o : Obj} {T : String} {Q : Value → Shared → Prop} (hT : T = "list" ∨ T = "tuple") (hl : s.heap.get? l = some { cls := .type "list", data := .seq xs.toArray n })
    (ho : s.heap.get? b = some o) (hc : o.cls = .type T) (hd : o.data = .seq ys.toArray m) (hz : xs.length + ys.length ≤ sizeLine) (h : Q .none { s with heap := s.heap.update l (Obj.mapSeq (· ++ ys.toArray)) }) :
    wpAny (model prog w) A (call (.builtin "list.extend") [.ref l, .ref b]) Q E s := by
  refine wpAny_call_entry F.slot_list_extend ⟨_, hl, rfl⟩ F.entry_list_extend ?_ (F.args_list_extend_2 _ _)
  show wpAny _ _ (Builtin.List.listExtendWith (.ref l) (.ref b) .none) _ _ s
  unfold Builtin.List.listExtendWith
  refine wpAny_bind (wpAny_typeOf ⟨o, ho, hc⟩ ?_)
  rw [if_pos (by rcases hT with rfl | rfl <;> simp)]
  refine wpAny_bind (listItems_at ho hd (wpAny_bind (listItems_at hl rfl ?_)))
  rw [if_neg (by rw [notLongL (by simpa using hz)]; simp)]
  exact wpAny_bind (listUpdate_at hl rfl (wpAny_bind (wpAny_pure (wpAny_pure ⟨_, rfl, h⟩))) (by rw [List.size_toArray]; omega) (by show (xs.toArray ++ ys.toArray).size ≤ sizeLine + 1; simp only [Array.size_append, List.size_toArray]; omega))
theorem mt_extendA : MtR X "list.extend" (rExt X.K) := by
  intro pins s σ H x vs v us Q I rx rv h
  obtain ⟨l, b, xs, zs, rfl, rfl, hH, hB, hz, q⟩ := h
  cases rx
  obtain ⟨u, rfl, ru⟩ := rv.one
  cases ru
  obtain ⟨z, its, n, r, hl, e⟩ := I.lstM hH
  have fin : ∀ {ys : List Value} {o : Obj} {T : String} {m : Nat}, T = "list" ∨ T = "tuple" → s.heap.get? b = some o → o.cls = .type T → o.data = .seq ys.toArray m → Vals zs ys → wpAny (model X.prog X.w) X.A (call (.builtin "list.extend") [.ref l, .ref b]) (EP X pins σ Q) X.xe s := fun {ys o T m} hT ho hc hd r2 =>
    extend_at hT e ho hc hd (by rw [← hl, ← r2.length]; exact hz) ⟨.non, _, I.lset (its' := its ++ ys) (t' := s.toks) hH e (by simp) (r.append r2) (by rw [List.length_append]; exact hz), rfl, q⟩
  rcases hB with hB | hB
  · obtain ⟨ys, r2, pl, _⟩ := I.list hB
    obtain ⟨o, ho, hc, m, hd⟩ := pl.isList
    exact fin (.inl rfl) ho hc hd r2
  · obtain ⟨ys, r2, ⟨o, ho, hc, m, hd⟩, _⟩ := I.tuple hB
    exact fin (.inr rfl) ho hc hd r2
/-- xs.remove(y): its first place goes -/
def rRem (er : Nat → V → Prop) (K : PySem.W.Frag) : V → List V → Hp → VK → Prop := fun x vs H Q => ∃ (F : Hp) (l : Addr) (ds : List PyData) (ws : List V) (d : PyData) (v : V) (k : Nat), x = .ref l ∧ vs = [v] ∧ Sub F (dn H) ∧ H l = some (.lst ws) ∧ RpL F ds ws ∧ Rp F d v ∧ inOk d ds = true ∧ placeOf d ds 0 = some k ∧ Q .non (upd H l (.lst (ws.eraseIdx k)))
theorem mt_removeM (hu : X.A.units + 200 < cLine) : MtR X "list.remove" (rRem er X.K) := by
  intro pins s σ H x vs v us Q I rx rv h
  obtain ⟨F, l, ds, ws, d, w, k, rfl, rfl, sb, hH, h2, hd, io, hp, q⟩ := h
  cases rx
  obtain ⟨u, rfl, ru⟩ := rv.one
  obtain ⟨z, its, n, r, hl, e⟩ := I.lstM hH
  obtain ⟨as, hr⟩ := RpL.reads I ds ws its (RpL.sub sb _ _ h2) r
  obtain ⟨bs, hd'⟩ := Rp.reads I d w u (Rp.sub sb _ _ hd) ru
  obtain ⟨i1, i2, i3⟩ := inOk_i io
  rw [placeOf_find] at hp
  cases hj : SeqAt.dataPlace ds d with
  | none => rw [hj] at hp; cases hp
  | some j =>
    rw [hj] at hp
    cases hp
    have pl : s.heap.IsList l its.toArray := ⟨_, e, rfl, n, rfl⟩
    refine SeqAt.remove_list_data pl (by simpa using hr) hd' i2 i1 (by omega) hj (by rw [List.size_toArray, ← hl]; exact z) ⟨.non, _, I.lset (its' := its.eraseIdx j) (t' := s.toks) hH e ?_ (r.eraseIdx j) ?_, rfl, q⟩
    · show its.toArray.eraseIdxIfInBounds j = (its.eraseIdx j).toArray
      rw [List.eraseIdxIfInBounds_toArray]
    · have := len_erase ws j
      show (ws.eraseIdx j).length ≤ sizeLine
      omega
/-- xs[i], i from 0 on -/
def rGetI (K : PySem.W.Frag) : V → V → Hp → VK → Prop := fun o i H Q => ∃ a xs k z, o = .ref a ∧ i = .int k ∧ SqL K H a xs ∧ 0 ≤ k ∧ k < 9223372036854775808 ∧ xs[k.toNat]? = some z ∧ Q z H
theorem get_list : PGet X (rGetI X.K) := by
  intro pins s σ H o i ov iv Q I ro ri h
  obtain ⟨a, xs, k, z, rfl, rfl, hq, h0, h1, hz, q⟩ := h
  cases ro
  obtain ⟨t, rfl⟩ := ri
  obtain ⟨its, r, pl, _⟩ := I.list hq
  obtain ⟨u, hu, ru⟩ := r.get hz
  exact wpAny_getItem_list pl.isList h0 (by omega) (by simpa using hu) ⟨z, H, I, ru, q⟩
end
end Mi

/-! Mi: statements. -/
namespace Mi
open PySem PySem.Spec PyProof.Rows L2

/-! ### looks at a statement -/
def onAsg (s : Stmt) (f : Expr → Expr → Pos → Bool) : Bool := match s with
  | .Assign [t] e p => f t e p
  | _ => false
theorem onAsg_i {s f} (h : onAsg s f = true) : ∃ t e p, s = .Assign [t] e p ∧ f t e p = true := by
  unfold onAsg at h
  split at h
  · exact ⟨_, _, _, rfl, h⟩
  · cases h
def onAug (s : Stmt) (f : Expr → Operator → Expr → Bool) : Bool := match s with
  | .AugAssign t o e _ => f t o e
  | _ => false
theorem onAug_i {s f} (h : onAug s f = true) : ∃ t o e p, s = .AugAssign t o e p ∧ f t o e = true := by
  cases s <;> first | exact ⟨_, _, _, _, rfl, h⟩ | cases h
/-- a changing method's name -/
def mmN : Mm → Option String
  | .append => some "append"
  | .extend => some "extend"
  | .remove => some "remove"
  | .clear => none
def onExpr (s : Stmt) (f : Expr → Bool) : Bool := match s with
  | .Expr e _ => f e
  | _ => false
theorem onExpr_i {s f} (h : onExpr s f = true) : ∃ e p, s = .Expr e p ∧ f e = true := by
  cases s <;> first | exact ⟨_, _, rfl, h⟩ | cases h
def onIfS (s : Stmt) (f : Expr → List Stmt → List Stmt → Bool) : Bool := match s with
  | .If c a b _ => f c a b
  | _ => false
theorem onIfS_i {s f} (h : onIfS s f = true) : ∃ c a b p, s = .If c a b p ∧ f c a b = true := by
  cases s <;> first | exact ⟨_, _, _, _, rfl, h⟩ | cases h
def onFor (s : Stmt) (f : Expr → Expr → List Stmt → Bool) : Bool := match s with
  | .For t i b [] _ => f t i b
  | _ => false
theorem onFor_i {s f} (h : onFor s f = true) : ∃ t i b p, s = .For t i b [] p ∧ f t i b = true := by
  unfold onFor at h
  split at h
  · exact ⟨_, _, _, _, rfl, h⟩
  · cases h
def onWhl (s : Stmt) (f : Expr → List Stmt → Bool) : Bool := match s with
  | .While c b [] _ => f c b
  | _ => false
theorem onWhl_i {s f} (h : onWhl s f = true) : ∃ c b p, s = .While c b [] p ∧ f c b = true := by
  unfold onWhl at h
  split at h
  · exact ⟨_, _, _, rfl, h⟩
  · cases h
def onRet (s : Stmt) (f : Option Expr → Bool) : Bool := match s with
  | .Return e _ => f e
  | _ => false
theorem onRet_i {s f} (h : onRet s f = true) : ∃ e p, s = .Return e p ∧ f e = true := by
  cases s <;> first | exact ⟨_, _, rfl, h⟩ | cases h
def onRaise (s : Stmt) (f : Expr → Bool) : Bool := match s with
  | .Raise (some e) none _ => f e
  | _ => false
theorem onRaise_i {s f} (h : onRaise s f = true) : ∃ e p, s = .Raise (some e) none p ∧ f e = true := by
  unfold onRaise at h
  split at h
  · exact ⟨_, _, rfl, h⟩
  · cases h
def onTry (s : Stmt) (f : List Stmt → Expr → Str → List Stmt → Bool) : Bool := match s with
  | .Try b [.ExceptHandler (some e) (some n) u _] [] [] _ => f b e n u
  | _ => false
theorem onTry_i {s f} (h : onTry s f = true) : ∃ b e n u p q, s = .Try b [.ExceptHandler (some e) (some n) u p] [] [] q ∧ f b e n u = true := by
  unfold onTry at h
  split at h
  · exact ⟨_, _, _, _, _, _, rfl, h⟩
  · cases h
def notComp : Expr → Bool
  | .ListComp .. => false
  | .SetComp .. => false
  | .DictComp .. => false
  | _ => true
theorem noSwap {e : Expr} (h : notComp e = true) (t : Option Expr) (l : Nat) (env : PySem.Env) : swapsWith e t l env = pure false := by
  cases e <;> first | rfl | cases h
def notTupD : Expr → Bool
  | .Tuple .. => false
  | _ => true
theorem noSwapS {e tg : Expr} (h : notTupD e = true) (env : PySem.Env) : swappedStores [tg] e env = pure none := by
  cases e with
  | Tuple a b c => cases h
  | _ => cases tg <;> rfl
/-- pass, a docstring -/
def isSkip : Stmt → Bool
  | .Pass _ => true
  | .Expr (.Constant (.str _) _ _) _ => true
  | _ => false
/-- a list comprehension stored at once: its name is a local that the block does not own -/
def lcOk (sc : Scope) (x : Str) (py : Pos) (e : Expr) : Bool := match e with
  | .ListComp _ _ s p => (match sc.names.lookup x with | some .local => true | _ => false) && (py.line == p.line) && !(s.names.any fun (n, k) => n == x && (k == .local || k == .cell))
  | _ => false
def isName : Expr → Bool
  | .Name _ _ => true
  | _ => false
def isLc : E → Bool
  | .lc _ _ _ _ _ => true
  | _ => false
/-- two local names, two values, stored from the right -/
def isLoc (sc : Scope) (x : Str) : Bool := match sc.names.lookup x with
  | some .local => true
  | _ => false
/-- a name that an inner block sees -/
def isCell (sc : Scope) (x : Str) : Bool := match sc.names.lookup x with
  | some .cell => true
  | _ => false
theorem isCell_i {sc : Scope} {x : Str} (h : isCell sc x = true) : sc.names.lookup x = some .cell := by
  unfold isCell at h
  split at h
  · assumption
  · cases h
theorem noSwapC {e : Expr} {env : PySem.Env} {x : Str} {py : Pos} (h : env.kindOf x = some .cell) (l : Nat) : swapsWith e (some (.Name x py)) l env = pure false := by
  have hk : (env.kindOf x == some NameKind.local) = false := by
    rw [h]
    rfl
  cases e <;> first
    | rfl
    | (show pure _ = pure false
       rw [hk, Bool.and_false, Bool.false_and, Bool.false_and])
def parOk (sc : Scope) (t v : Expr) : Bool := match t, v with
  | .Tuple [.Name x px, .Name y py] _ _, .Tuple [a, b] _ _ => isLoc sc x && isLoc sc y && decide (x ≠ y) && (py.line == px.line) && noStar a && noStar b && !([a, b].all (foldedForSure 8)) && !([a, b].all (constantsAlone 8))
  | .Tuple [.Name x px, .Name y py, .Name z pz] _ _, .Tuple [a, b, c] _ _ => isLoc sc x && isLoc sc y && isLoc sc z && decide (x ≠ y) && decide (x ≠ z) && decide (y ≠ z) && (py.line == px.line) && (pz.line == px.line) && noStar a && noStar b && noStar c && !([a, b, c].all (foldedForSure 8)) && !([a, b, c].all (constantsAlone 8))
  | _, _ => false
def parNm (N : List Str) (t : Expr) (is : List Nat) : Bool := match t, is with
  | .Tuple [.Name x _, .Name y _] _ _, [i, j] => decide (i ≠ j) && decide (N[i]? = some x) && decide (N[j]? = some y)
  | .Tuple [.Name x _, .Name y _, .Name z _] _ _, [i, j, l] => decide (i ≠ j) && decide (i ≠ l) && decide (j ≠ l) && decide (N[i]? = some x) && decide (N[j]? = some y) && decide (N[l]? = some z)
  | _, _ => false
def onLst (e : Expr) (f : List Expr → Bool) : Bool := match e with
  | .List xs _ => f xs
  | _ => false
theorem onLst_i {e f} (h : onLst e f = true) : ∃ xs p, e = .List xs p ∧ f xs = true := by
  cases e <;> first | exact ⟨_, _, rfl, h⟩ | cases h
mutual
def chk1 (G : Ctx) (N : List Str) (sc : Scope) (cm : Bool) : S → Stmt → Bool
  | .skip, s => isSkip s
  | .set i e, s => onAsg s fun t v p => (onName t fun x => ownOk N sc i x && (notComp v || isCell sc x || (isLc e && (match t with | .Name _ py => lcOk sc x py v | _ => false)))) && chkE G N cm e sc v
  | .alc i e, s => onAsg s fun t v p => (onName t fun x => ownOk N sc i x && (notComp v || isCell sc x || (isLc e && (match t with | .Name _ py => lcOk sc x py v | _ => false)))) && chkE G N cm e sc v
  | .untup is e, s => cm && onAsg s fun t v p => chkTg N sc (.tp is) t && notComp v && notTupD v && chkE G N cm e sc v
  | .par is es, s => cm && onAsg s fun t v p => parOk sc t v && parNm N t is && onTup v (chkL G N cm es sc)
  | .sto o i e, s => onAsg s fun t v p => notComp v && chkE G N cm e sc v && onSub t fun x y => chkE G N cm o sc x && chkE G N cm i sc y
  | .sts o1 i1 o2 i2 e, s => cm && onAsg s fun t v p => notComp v && chkE G N cm e sc v && onTup t fun ts => (match ts with
    | [t1, t2] => (onSub t1 fun x y => chkE G N cm o1 sc x && chkE G N cm i1 sc y) && onSub t2 fun x y => chkE G N cm o2 sc x && chkE G N cm i2 sc y
    | _ => false)
  | .ex e, s => onExpr s fun v => notComp v && chkE G N cm e sc v
  | .aug o i e, s => onAug s fun t q v => decide (q = .Add) && chkE G N cm e sc v && onSub t fun x y => chkE G N cm o sc x && chkE G N cm i sc y
  | .mut m (.var i) (.cons a .nil), s => onExpr s fun v => onCall v fun g xs p => onAttr g fun o nm p2 => (match mmN m with
    | some t => nm == Str.ofString t
    | none => false) && posOk p2 p && chkE G N cm (.var i) sc o && (match xs with
    | [x] => chkE G N cm a sc x
    | _ => false)
  | .ifs c a b, s => onIfS s fun x u v => tst c && chkE G N cm c sc x && chkS G N sc cm a u && chkS G N sc cm b v
  | .for_ tg k ie b, s => cm && tgFor k tg && onFor s fun t i u => noSet i && chkI G N cm k ie sc i && chkTg N sc tg t && chkS G N sc cm b u
  | .fdk i t b, s => cm && onFor s fun tg e u => noSet e && (onName e fun x => varOk N sc i x) && (onName tg fun x => ownOk N sc t x) && chkS G N sc cm b u
  | .tdk _ _, _ => false
  | .tdc _ _, _ => false
  | .fdt _ _ _, _ => false
  | .forw i es b, s => cm && onFor s fun tg e u => onLst e (chkL G N cm es sc) && (onName tg fun x => ownOk N sc i x) && chkS G N sc cm b u
  | .whl c b, s => onWhl s fun x u => tst c && chkE G N cm c sc x && chkS G N sc cm b u
  | .ret e, s => onRet s fun x => (match x with
    | some v => chkE G N cm e sc v
    | none => (match e with | .cst .none => true | _ => false))
  | .raise c, s => cm && onRaise s fun e => onCall e fun g xs _ => (onName g fun x => decide (G.cls c = some x) && glOk sc x) && (match xs with
    | [x] => onConst x fun k => (match k with | .str _ => true | _ => false)
    | _ => false)
  | .tri b n i (.seq (.ret (.call f (.cons (.var j) .nil))) .skip), s => cm && decide (i = j) && ((List.range n).all fun c => (G.cls c).isSome) && G.hot.contains f && onTry s fun u e x su => onName e (fun z => decide (G.cls 0 = some z) && glOk sc z) && ownOk N sc i x && isLoc sc x && chkS G N sc cm b u && (match su with
    | [st] => onRet st fun r => (match r with
      | some v => onCall v fun g xs _ => onName g (fun z => decide (G.fn f = some z) && glOk sc z) && (match xs with
        | [y] => onName y (varOk N sc i)
        | _ => false)
      | none => false)
    | _ => false)
  | _, _ => false
def chkS (G : Ctx) (N : List Str) (sc : Scope) (cm : Bool) : S → List Stmt → Bool
  | .skip, [] => true
  | .seq a r, s :: rest => chk1 G N sc cm a s && chkS G N sc cm r rest
  | .gift _ r, sts => chkS G N sc cm r sts
  | _, _ => false
end

/-! ### what comes behind -/
def PostS (K : PySem.W.Frag) (er : Nat → V → Prop) (G : Ctx) (W : WX) (x : SRes) (m : List Addr) (F H : Hp) (D : Ends) : Prop := match x with
  | .nx env hs' => ∀ m' F' H' σ', Fin m F H hs' m' F' H' → EnvR K er m' F' env σ' → D.nx σ' H'
  | .rt r hs' => ∀ m' F' H' v, Fin m F H hs' m' F' H' → RelR K er m' F' H H' r v → D.rt v H'
  | .ex c env hs' => ∀ m' F' H' σ', Fin m F H hs' m' F' H' → EnvR K er m' F' env σ' → W (.ref (G.ca c)) none σ' H'
  | .bad => False
def tS (K : PySem.W.Frag) (er : Nat → V → Prop) (G : Ctx) (W : WX) (C : Cf) (s : S) : TS := fun D σ H => ∃ (m : List Addr) (F : Hp) (env : Env) (hs : Hs), Sm K er m F env hs σ H ∧ PostS K er G W (evalS C s env hs) m F H D
section
variable {K : PySem.W.Frag} {er : Nat → V → Prop} {G : Ctx} {W : WX} {C : Cf} {m : List Addr} {F H : Hp} {env : Env} {hs : Hs} {σ : L2.St} {α : Type} {D : Ends}
theorem PostS.on {x : SRes} {m1 : List Addr} {F1 H1 : Hp} {hs1 : Hs} (f : Fin m F H hs1 m1 F1 H1) (h : PostS K er G W x m F H D) : PostS K er G W x m1 F1 H1 D := by
  cases x with
  | nx env hs' => exact fun m' F' H' σ' g e => h m' F' H' σ' (f.trans g) e
  | rt r hs' => exact fun m' F' H' v g e => h m' F' H' v (f.trans g) (e.back f.1.trk)
  | ex c env hs' => exact fun m' F' H' σ' g e => h m' F' H' σ' (f.trans g) e
  | bad => exact h
theorem PostS.next {x : SRes} {f : Env → Hs → SRes} (h : PostS K er G W (x.next f) m F H D) : PostS K er G W x m F H { D with nx := fun σ' H' => ∃ m' F' env' hs', Sm K er m' F' env' hs' σ' H' ∧ PostS K er G W (f env' hs') m' F' H' D } := by
  cases x with
  | nx env hs' => exact fun m' F' H' σ' g e => ⟨m', F', env, hs', ⟨g.2, e⟩, PostS.on g h⟩
  | rt r hs' => exact h
  | ex c env hs' => exact h
  | bad => exact h
/-- a statement's expression -/
theorem sub_S {a : E} {g : R → Hs → SRes} {Q' : VK} (s : Sm K er m F env hs σ H) (h : PostS K er G W ((evalE C a env hs).then env g) m F H D)
    (k : ∀ r m1 F1 H1 hs1 v, Fin m F H hs1 m1 F1 H1 → Sm K er m1 F1 env hs1 σ H1 → RelR K er m1 F1 H H1 r v → PostS K er G W (g r hs1) m F H D → Q' v H1) : tE K er G W C a σ H Q' := by
  refine ⟨m, F, env, hs, s, ?_⟩
  cases e : evalE C a env hs with
  | ok r hs1 =>
    rw [e] at h
    exact fun m' F' H' f v rv => k r m' F' H' hs1 v f (s.fin f) rv h
  | ex c hs1 =>
    rw [e] at h
    exact fun m' F' H' f => h m' F' H' σ f (s.fin f).e
  | bad =>
    rw [e] at h
    exact h
theorem sub_ST {a : E} {g : Bool → Hs → SRes} {Q' : Bool → Hp → Prop} (s : Sm K er m F env hs σ H) (h : PostS K er G W ((evalT C a env hs).then env g) m F H D)
    (k : ∀ r m1 F1 H1 hs1, Fin m F H hs1 m1 F1 H1 → Sm K er m1 F1 env hs1 σ H1 → PostS K er G W (g r hs1) m F H D → Q' r H1) : tT K er G W C a σ H Q' := by
  refine ⟨m, F, env, hs, s, ?_⟩
  cases e : evalT C a env hs with
  | ok r hs1 =>
    rw [e] at h
    exact fun m' F' H' f => k r m' F' H' hs1 f (s.fin f) h
  | ex c hs1 =>
    rw [e] at h
    exact fun m' F' H' f => h m' F' H' σ f (s.fin f).e
  | bad =>
    rw [e] at h
    exact h
theorem sub_SI {k : IK} {ie : E} {g : (List PyData × (Hs → Bool)) → Hs → SRes} {R' : It → Hp → Prop} (s : Sm K er m F env hs σ H) (h : PostS K er G W (((evalL C ie env hs).bind fun rs h => Res.of (walk k rs h) h).then env g) m F H D)
    (kk : ∀ p m1 F1 H1 hs1, Fin m F H hs1 m1 F1 H1 → Sm K er m1 F1 env hs1 σ H1 → PostS K er G W (g p hs1) m F H D → ∀ J, WalkOk J p.1 p.2 m1 F1 H1 → p.1.length ≤ sizeLine → R' J H1) : tI K er G W C k ie σ H R' := by
  refine ⟨m, F, env, hs, s, ?_⟩
  cases e : (evalL C ie env hs).bind fun rs h => Res.of (walk k rs h) h with
  | ok p hs1 =>
    rw [e] at h
    exact fun m' F' H' f => kk p m' F' H' hs1 f (s.fin f) h
  | ex c hs1 =>
    rw [e] at h
    exact fun m' F' H' f => h m' F' H' σ f (s.fin f).e
  | bad =>
    rw [e] at h
    exact h
end
section
variable {G : Ctx} {X : Cx} {N : List Str} {sc : Scope} {C : Cf} {cm : Bool} {er : Nat → V → Prop} {W : WX}
theorem t_skip {s : Stmt} (h : isSkip s = true) : PS X s (tS X.K er G W C .skip) := by
  have k : ∀ D σ H, tS X.K er G W C .skip D σ H → tNext D σ H := fun D σ H ⟨m, F, env, hs, s, q⟩ => q m F H σ (.refl s.c) s.e
  unfold isSkip at h
  split at h
  · exact ps_imp ps_pass k
  · exact ps_imp ps_doc k
  · cases h
theorem t_nil : PSs X [] (tS X.K er G W C .skip) := pss_imp pss_nil fun D σ H ⟨m, F, env, hs, s, q⟩ => q m F H σ (.refl s.c) s.e
theorem t_seq {a r : S} {s : Stmt} {rest : List Stmt} (h1 : PS X s (tS X.K er G W C a)) (h2 : PSs X rest (tS X.K er G W C r)) : PSs X (s :: rest) (tS X.K er G W C (.seq a r)) :=
  pss_imp (pss_cons h1 h2) fun D σ H ⟨m, F, env, hs, s, q⟩ => ⟨m, F, env, hs, s, by simp only [evalS] at q; exact q.next⟩
/-- a name's slot takes a value -/
theorem red_set {i : Nat} {e : E} {D : Ends} {σ : L2.St} {H : Hp} (h : tS X.K er G W C (.set i e) D σ H) : tE X.K er G W C e σ H (fun v H1 => gName i v σ H1 D.nx) := by
  obtain ⟨m, F, env, hs, s, q⟩ := h
  simp only [evalS] at q
  refine sub_S s q fun r m1 F1 H1 hs1 v f1 s1 rv q1 => ?_
  cases hw : r.w with
  | none => rw [hw] at q1; exact q1.elim
  | some w =>
    rw [hw] at q1
    obtain ⟨F2, h2, r2⟩ := hold1 f1.2 rv.hd hw
    have f2 := h2.fin f1
    exact q1 m1 F2 H1 _ f2 (EnvR.set i ((s.e.ext f2.1)) r2)
theorem red_alc {i : Nat} {e : E} {D : Ends} {σ : L2.St} {H : Hp} (h : tS X.K er G W C (.alc i e) D σ H) : tE X.K er G W C e σ H (fun v H1 => gName i v σ H1 D.nx) := by
  obtain ⟨m, F, env, hs, s, q⟩ := h
  simp only [evalS] at q
  refine sub_S s q fun r m1 F1 H1 hs1 v f1 s1 rv q1 => ?_
  cases r with
  | v w => exact q1 m1 F1 H1 _ f1 (EnvR.set i s1.e rv)
  | ft ws => exact q1.elim
  | fl xs =>
    obtain ⟨b, vs, rfl, h1, h2, h3, h4, h5⟩ := rv
    have c2 := f1.2.place (x := .lst xs) ⟨vs, h1, h2⟩ h3 h4
    have e2 := ext_place f1.1 h5
    exact q1 _ F1 H1 _ ⟨e2, c2⟩ (EnvR.set i (s.e.ext e2) (w := .r hs1.length) ⟨b, by rw [← f1.2.len]; simp, rfl⟩)
  | fd kvs =>
    obtain ⟨b, rfl, h1, h3, h4, h5⟩ := rv
    have c2 := f1.2.place (x := .dct kvs) h1 h3 h4
    have e2 := ext_place f1.1 h5
    exact q1 _ F1 H1 _ ⟨e2, c2⟩ (EnvR.set i (s.e.ext e2) (w := .r hs1.length) ⟨b, by rw [← f1.2.len]; simp, rfl⟩)
theorem t_asg (hx : XOk G X N sc C cm er W) {i : Nat} {e : E} {s : S} {x : Str} {p py : Pos} {v : Expr} (hi : ownOk N sc i x = true) (hc : ∀ l, swapsWith v (some (.Name x py)) l X.env = pure false) (he : PE X v (tE X.K er G W C e))
    (red : ∀ D σ H, tS X.K er G W C s D σ H → tE X.K er G W C e σ H (fun v H1 => gName i v σ H1 D.nx)) : PS X (.Assign [.Name x py] v p) (tS X.K er G W C s) := by
  obtain ⟨h1, h2, h3⟩ := ownOk_i hx hi
  exact ps_imp (ps_set hx.nd h1 h2 he (hc _) h3) red
theorem t_ret {e : E} {v : Expr} {p : Pos} (he : PE X v (tE X.K er G W C e)) : PS X (.Return (some v) p) (tS X.K er G W C (.ret e)) :=
  ps_imp (ps_ret he) fun D σ H ⟨m, F, env, hs, s, q⟩ => by
    simp only [evalS] at q
    exact sub_S s q fun r m1 F1 H1 hs1 v f1 s1 rv q1 => q1 m1 F1 H1 v f1 rv
theorem t_retN {p : Pos} : PS X (.Return none p) (tS X.K er G W C (.ret (.cst .none))) :=
  ps_imp ps_retN fun D σ H ⟨m, F, env, hs, s, q⟩ => by
    simp only [evalS, evalE, Res.then_ok] at q
    exact q m F H .non (.refl s.c) rel_none
theorem t_ex {e : E} {v : Expr} {p : Pos} (hc : notComp v = true) (he : PE X v (tE X.K er G W C e)) : PS X (.Expr v p) (tS X.K er G W C (.ex e)) :=
  ps_imp (ps_expr he (noSwap hc _ _ _)) fun D σ H ⟨m, F, env, hs, s, q⟩ => by
    simp only [evalS] at q
    exact sub_S s q fun r m1 F1 H1 hs1 v f1 s1 rv q1 => q1 m1 F1 H1 σ f1 s1.e
theorem t_ifs {c : E} {a b : S} {x : Expr} {u v : List Stmt} {p : Pos} (hc : PT X x (tT X.K er G W C c)) (ha : PSs X u (tS X.K er G W C a)) (hb : PSs X v (tS X.K er G W C b)) : PS X (.If x u v p) (tS X.K er G W C (.ifs c a b)) :=
  ps_imp (ps_if hc ha hb) fun D σ H ⟨m, F, env, hs, s, q⟩ => by
    simp only [evalS] at q
    refine sub_ST s q fun r m1 F1 H1 hs1 f1 s1 q1 => ?_
    cases r with
    | true => exact iteT ⟨m1, F1, env, hs1, s1, PostS.on f1 q1⟩
    | false => exact iteF ⟨m1, F1, env, hs1, s1, PostS.on f1 q1⟩
theorem t_untup {is : List Nat} {e : E} {t v : Expr} {p : Pos} (hc : notComp v = true) (ht : notTupD v = true) (hg : PG X t (gA X.K (.tp is))) (h1 : (assignEach [t] X.env).map (·.2) = [assign t X.env]) (he : PE X v (tE X.K er G W C e)) : PS X (.Assign [t] v p) (tS X.K er G W C (.untup is e)) :=
  ps_imp (ps_asg he hg (noSwap hc _ _ _) (noSwapS ht _) h1) fun D σ H ⟨m, F, env, hs, s, q⟩ => by
    simp only [evalS] at q
    refine sub_S s q fun r m1 F1 H1 hs1 v f1 s1 rv q1 => ?_
    cases r with
    | fl xs => exact q1.elim
    | fd xs => exact q1.elim
    | v w =>
      cases w with
      | r n => exact q1.elim
      | e c => exact q1.elim
      | s ns => exact q1.elim
      | d x =>
        cases x with
        | tuple xs =>
          dsimp only at q1
          cases hp : putAll is xs env with
          | none => rw [hp] at q1; exact q1.elim
          | some env' =>
            rw [hp] at q1
            exact aim_g (t := .tp is) (vs := []) (x := .tuple xs) f1.2.frz hp rv (s1.e.x _) fun σ' ev _ => q1 m1 F1 H1 σ' f1 ev
        | _ => exact q1.elim
    | ft ws =>
      obtain ⟨b, us, rfl, h2, h3⟩ := rv
      dsimp only at q1
      cases hp : putW is ws env with
      | none => rw [hp] at q1; exact q1.elim
      | some env' =>
        rw [hp] at q1
        have key : ∀ {is : List Nat} {ws : List Mi.W} {us : List V} {env env' : Env} {σ : L2.St}, putW is ws env = some env' → RelWs X.K er m1 F1 ws us → EnvR X.K er m1 F1 env σ → ∀ {Q : L2.St → Hp → Prop}, (∀ σ', EnvR X.K er m1 F1 env' σ' → Q σ' H1) → us.length = is.length ∧ gsets is us σ H1 Q := by
          intro is
          induction is with
          | nil =>
            intro ws us env env' σ e r ev Q k
            cases ws with
            | nil =>
              cases r
              simp only [putW, Option.some.injEq] at e
              subst e
              exact ⟨rfl, rfl, k σ ev⟩
            | cons _ _ => simp [putW] at e
          | cons i is ih =>
            intro ws us env env' σ e r ev Q k
            cases ws with
            | nil => simp [putW] at e
            | cons w ws =>
              cases r with
              | cons r1 r2 =>
                simp only [putW] at e
                obtain ⟨g1, g2⟩ := ih e r2 (EnvR.set i ev r1) k
                exact ⟨by rw [List.length_cons, List.length_cons, g1], _, _, rfl, g2⟩
        obtain ⟨g1, g2⟩ := key hp h3 s1.e fun σ' ev => q1 m1 F1 H1 σ' f1 ev
        exact ⟨b, us, rfl, SqT.dn (f1.2.frz _ _ h2), g1, g2⟩
theorem t_raise (hx : XOk G X N sc C cm er W) (hc : cm = true) {c : Nat} {x a : Str} {j : Nat} {p p2 p3 p4 : Pos} (hk : G.cls c = some x) (hg : glOk sc x = true) : PS X (.Raise (some (.Call (.Name x p) [.Constant (.str a) j p2] [] p3)) none p4) (tS X.K er G W C (.raise c)) := by
  obtain ⟨h1, h2, h3, h4⟩ := hx.cls hc c x hk
  obtain ⟨g1, g2, _⟩ := glOk_i hx hg
  exact ps_imp (ps_raise (hx.calm hc) hx.tk (pmk_own PySem.F.excBase_ValueError h1 h2 h3 h4 g1 g2)) fun D σ H ⟨m, F, env, hs, s, q⟩ => q m F H σ (.refl s.c) s.e
end
end Mi

/-! Mi: statements: stores, loops; the theorem. -/
namespace Mi
open PySem PySem.Spec PyProof.Rows L2

/-! ### o[i] = v -/
def rSto : TSet := fun o i v H Q => rSetL o i v H Q ∨ rSetD o i v H Q
theorem set_rule {X : Cx} (hu : X.A.units + 1 < cLine) : PSet X rSto := by
  intro pins s σ H o i v ov iv u Q I ro ri rv h
  rcases h with h | h
  · exact set_list pins s σ H o i v ov iv u Q I ro ri rv h
  · exact set_dict hu pins s σ H o i v ov iv u Q I ro ri rv h
section
variable {G : Ctx} {X : Cx} {N : List Str} {sc : Scope} {C : Cf} {cm : Bool} {er : Nat → V → Prop} {W : WX}
theorem sto_gives {K : PySem.W.Frag} {m : List Addr} {F H0 H : Hp} {hs hs' : Hs} {o i : R} {ov iv v : V} {d : PyData} {Q : Hp → Prop} {r : R} (c : Cells m F hs H) (ro : Hd K er m F H0 H o ov) (ri : Hd K er m F H0 H i iv) (hr : r.data = some d) (rv : Rp F d v) (e : stoR o i r hs = .ok () hs')
    (q : ∀ H', Fin m F H hs' m F H' → Q H') : rSto ov iv v H Q := by
  unfold stoR at e
  split at e
  · rename_i n k x hx
    rw [hr] at hx
    cases hx
    obtain ⟨a, ha, rfl⟩ := ro
    obtain rfl := Rp.int_of (F := F) ri
    split at e
    · rename_i xs hn
      obtain ⟨vs, h1, h2⟩ := c.cell n _ a hn ha
      split at e
      · rename_i j hj
        cases e
        refine .inl ⟨a, vs, k, j, rfl, rfl, h1, by rw [h2.length]; exact hj, q _ ⟨ext_write (List.mem_of_getElem? ha) h1 (fun _ _ z => nomatch z), c.write ha (c.apl hn ha) fun G hG => ⟨_, hG, h2.set j rv⟩⟩⟩
      · cases e
    · rename_i kvs hn
      obtain ⟨ks, h1, h2, h3, h4⟩ := c.cell n _ a hn ha
      split at e
      · rename_i hl
        cases e
        have hlen : ks.length = kvs.length := by
          have := congrArg List.length h2
          simpa using this.symm
        obtain ⟨p1, p2, p3⟩ := DRel.put ⟨h2, h3, h4⟩ k rv
        exact .inr ⟨a, _, rfl, DPut.k (k := Sum.inl k) h1 (by rw [hlen]; exact Nat.lt_of_lt_of_le hl (line_le (Nat.le_refl _))), q _ ⟨ext_write (List.mem_of_getElem? ha) h1 (fun _ _ z => nomatch z), c.write ha (c.apd hn ha) fun G hG => ⟨_, hG, p1, p2, p3⟩⟩⟩
      · cases e
    · cases e
  · cases e
theorem sto_ok {o i r : R} {hs : Hs} {D : Ends} {m : List Addr} {F H : Hp} {env : Env} {K : PySem.W.Frag} {g : Unit → Hs → SRes} (h : PostS K er G W ((stoR o i r hs).then env g) m F H D) : ∃ hs', stoR o i r hs = .ok () hs' ∧ ∃ d, r.data = some d := by
  cases e : stoR o i r hs with
  | ok u hs' =>
    refine ⟨hs', rfl, ?_⟩
    unfold stoR at e
    split at e
    · rename_i hx
      exact ⟨_, hx⟩
    · cases e
  | ex c hs' =>
    exfalso
    unfold stoR at e
    split at e
    · split at e
      · split at e <;> cases e
      · split at e <;> cases e
      · cases e
    · cases e
  | bad => rw [e] at h; exact h.elim
/-- as sub_S, from a state further on -/
theorem sub_S2 {K : PySem.W.Frag} {m m1 : List Addr} {F F1 H H1 : Hp} {hs1 : Hs} {env : Env} {σ : L2.St} {D : Ends} {a : E} {g : R → Hs → SRes} {Q' : VK} (f : Fin m F H hs1 m1 F1 H1) (s : Sm K er m1 F1 env hs1 σ H1) (h : PostS K er G W ((evalE C a env hs1).then env g) m F H D)
    (k : ∀ r m2 F2 H2 hs2 v, Fin m F H hs2 m2 F2 H2 → Fin m1 F1 H1 hs2 m2 F2 H2 → Sm K er m2 F2 env hs2 σ H2 → RelR K er m2 F2 H H2 r v → PostS K er G W (g r hs2) m F H D → Q' v H2) : tE K er G W C a σ H1 Q' := by
  refine ⟨m1, F1, env, hs1, s, ?_⟩
  cases e : evalE C a env hs1 with
  | ok r hs2 =>
    rw [e] at h
    exact fun m' F' H' f2 v rv => k r m' F' H' hs2 v (f.trans f2) f2 (s.fin f2) (rv.back f.1.trk) h
  | ex c hs2 =>
    rw [e] at h
    exact fun m' F' H' f2 => h m' F' H' σ (f.trans f2) (s.fin f2).e
  | bad =>
    rw [e] at h
    exact h
theorem t_sto (hx : XOk G X N sc C cm er W) {o i e : E} {x y v : Expr} {p py : Pos} (hc : notComp v = true) (ht : swappedStores [.Subscript x y py] v X.env = pure none)
    (ha : ∀ v, assign (.Subscript x y py) X.env v = (do
      let ov ← holding [v] (eval x X.env)
      let iv ← holding [v, ov] (eval y X.env)
      standAt py
      holding [v, ov, iv] (setItem ov iv v)
      release [v, ov, iv] [])) (ho : PE X x (tE X.K er G W C o)) (hi : PE X y (tE X.K er G W C i)) (he : PE X v (tE X.K er G W C e)) : PS X (.Assign [.Subscript x y py] v p) (tS X.K er G W C (.sto o i e)) :=
  ps_imp (ps_asg he (pg_sub ho hi (set_rule (Nat.lt_of_le_of_lt (by omega) hx.hu)) ha) (noSwap hc (some (.Subscript x y py)) p.line X.env) ht (by rfl)) fun D σ H ⟨m, F, env, hs, s, q⟩ => by
    simp only [evalS] at q
    refine sub_S s q fun r1 m1 F1 H1 hs1 v1 f1 s1 rv1 q1 => ?_
    refine sub_S2 f1 s1 q1 fun r2 m2 F2 H2 hs2 v2 f2 g2 s2 rv2 q2 => ?_
    refine sub_S2 f2 s2 q2 fun r3 m3 F3 H3 hs3 v3 f3 g3 s3 rv3 q3 => ?_
    obtain ⟨hs', e4, d, hd⟩ := sto_ok q3
    have rv1' := (rv1.ext g2.1).ext g3.1
    have rv2' := rv2.ext g3.1
    obtain ⟨F4, h4, r4⟩ := hold1 f3.2 (rv1'.hd) (Mi.R.data_w hd)
    have f4 := h4.fin f3
    refine sto_gives h4.c (h4.hd _ _ rv2'.hd) (h4.hd _ _ rv3.hd) hd r4 e4 fun H' f5 => ?_
    rw [e4] at q3
    exact q3 m3 F4 H' σ (f4.trans f5) ((s.e.ext (f4.trans f5).1))
theorem swapSub {x1 y1 x2 y2 v : Expr} {p1 p2 pt : Pos} {k : Nat} (env : PySem.Env) : swappedStores [.Tuple [.Subscript x1 y1 p1, .Subscript x2 y2 p2] k pt] v env = pure none := by
  cases v with
  | Tuple vs a b =>
    unfold swappedStores
    dsimp only
    split
    · rfl
    · split
      · rfl
      · rfl
  | _ => rfl
theorem t_sts (hx : XOk G X N sc C cm er W) (hcm : cm = true) {o1 i1 o2 i2 e : E} {x1 y1 x2 y2 v : Expr} {p p1 p2 pt : Pos} {k : Nat} (hc : notComp v = true) (n1 : notSlice y1 = true) (n2 : notSlice y2 = true)
    (ho1 : PE X x1 (tE X.K er G W C o1)) (hi1 : PE X y1 (tE X.K er G W C i1)) (ho2 : PE X x2 (tE X.K er G W C o2)) (hi2 : PE X y2 (tE X.K er G W C i2)) (he : PE X v (tE X.K er G W C e)) :
    PS X (.Assign [.Tuple [.Subscript x1 y1 p1, .Subscript x2 y2 p2] k pt] v p) (tS X.K er G W C (.sts o1 i1 o2 i2 e)) := by
  have sr := set_rule (X := X) (Nat.lt_of_le_of_lt (by omega) hx.hu)
  refine ps_imp (ps_asg he (pg_tup (n := 2) (hx.calm hcm) (pgs_cons (pg_sub ho1 hi1 sr (fun u => by cases y1 <;> first | rfl | cases n1)) (pgs_cons (pg_sub ho2 hi2 sr (fun u => by cases y2 <;> first | rfl | cases n2)) pgs_nil)) (by rfl) (by rfl)) (noSwap hc (some (.Tuple [.Subscript x1 y1 p1, .Subscript x2 y2 p2] k pt)) p.line X.env) (swapSub _) (by rfl)) fun D σ H ⟨m, F, env, hs, s, q⟩ => ?_
  simp only [evalS] at q
  refine sub_S s q fun r1 m1 F1 H1 hs1 v1 f1 s1 rv1 q1 => ?_
  split at q1
  rotate_left
  · exact q1.elim
  rename_i x y
  obtain ⟨a, vs, rfl, g1, g2⟩ := Rp.tuple_iff.mp rv1
  obtain ⟨w1, r1, rfl, hw1, g3⟩ := RpL.cons_iff.mp g2
  obtain ⟨w2, r2, rfl, hw2, g4⟩ := RpL.cons_iff.mp g3
  obtain rfl := RpL.nil_iff.mp g4
  refine ⟨a, _, rfl, SqT.dn (f1.2.frz _ _ g1), rfl, w1, [w2], rfl, ?_⟩
  refine sub_S2 f1 s1 q1 fun r2 m2 F2 H2 hs2 v2 f2 e2 s2 rv2 q2 => ?_
  refine sub_S2 f2 s2 q2 fun r3 m3 F3 H3 hs3 v3 f3 e3 s3 rv3 q3 => ?_
  obtain ⟨hs', e4, d, hd⟩ := sto_ok q3
  refine sto_gives (r := .v (.d x)) f3.2 (rv2.ext e3.1).hd rv3.hd rfl (Rp.sub (e2.1.frz.trans e3.1.frz) _ _ hw1) e4 fun H' f5 => ?_
  rw [e4] at q3
  have f6 := f3.trans f5
  have s6 : Sm X.K er m3 F3 env hs' σ H' := ⟨f5.2, s.e.ext f6.1⟩
  refine ⟨w2, [], rfl, ?_⟩
  refine sub_S2 f6 s6 q3 fun r7 m7 F7 H7 hs7 v7 f7 e7 s7 rv7 q7 => ?_
  refine sub_S2 f7 s7 q7 fun r8 m8 F8 H8 hs8 v8 f8 e8 s8 rv8 q8 => ?_
  obtain ⟨hs9, e9, d, hd⟩ := sto_ok q8
  refine sto_gives (r := .v (.d y)) f8.2 (rv7.ext e8.1).hd rv8.hd rfl (Rp.sub ((e2.1.frz.trans e3.1.frz).trans (f5.1.frz.trans (e7.1.frz.trans e8.1.frz))) _ _ hw2) e9 fun H' f10 => ?_
  rw [e9] at q8
  exact ⟨rfl, q8 m8 F8 H' σ (f8.trans f10) (s.e.ext (f8.trans f10).1)⟩
/-- for -/
theorem PostS.next2 {K : PySem.W.Frag} {m : List Addr} {F H : Hp} {D : Ends} {x : SRes} {f : Env → Hs → SRes} (h : PostS K er G W (x.next f) m F H D) : PostS K er G W x m F H { D with nx := fun σ' H' => ∃ m' F' env' hs', Fin m F H hs' m' F' H' ∧ Sm K er m' F' env' hs' σ' H' ∧ PostS K er G W (f env' hs') m' F' H' D } := by
  cases x with
  | nx env hs' => exact fun m' F' H' σ' g e => ⟨m', F', env, hs', g, ⟨g.2, e⟩, PostS.on g h⟩
  | rt r hs' => exact h
  | ex c env hs' => exact h
  | bad => exact h
theorem PostS.mono {K : PySem.W.Frag} {m : List Addr} {F H : Hp} {D D' : Ends} {x : SRes} (h : PostS K er G W x m F H D) (h1 : ∀ σ H, D.nx σ H → D'.nx σ H) (h2 : ∀ v H, D.rt v H → D'.rt v H) : PostS K er G W x m F H D' := by
  cases x with
  | nx env hs' => exact fun m' F' H' σ' g e => h1 _ _ (h m' F' H' σ' g e)
  | rt r hs' => exact fun m' F' H' v g e => h2 _ _ (h m' F' H' v g e)
  | ex c env hs' => exact h
  | bad => exact h
theorem t_for (hx : XOk G X N sc C cm er W) (hc : cm = true) {t : Tg} {k : IK} {ie : E} {b : S} {tg i : Expr} {u : List Stmt} {p : Pos} (hi : PI X tg i (tI X.K er G W C k ie)) (hg : PG X tg (gA X.K t)) (hb : PSs X u (tS X.K er G W C b)) (hs : ∀ v, foldedSetIterable i X.env v = pure v) :
    PS X (.For tg i u [] p) (tS X.K er G W C (.for_ t k ie b)) :=
  ps_imp (ps_for hx.po (hx.calm hc) hi hg hb hs) fun D σ H ⟨m, F, env, hs, s, q⟩ => by
    simp only [evalS] at q
    refine sub_SI s q fun pp m1 F1 H1 hs1 f1 s1 q1 J hJ hlen => ?_
    obtain ⟨xs, st⟩ := pp
    dsimp only at hJ hlen q1
    have q1 := PostS.on f1 q1
    refine ⟨fun n mm σ' H' => mm = xs.length - n ∧ n ≤ xs.length ∧ ∃ m' F' env' hs', Fin m1 F1 H1 hs' m' F' H' ∧ Sm X.K er m' F' env' hs' σ' H' ∧ PostS X.K er G W (forS (fun x env h => match aim t x env with
      | some env => evalS C b env h
      | none => .bad) st (xs.drop n) env' hs') m' F' H' D, ⟨xs.length, rfl, Nat.zero_le _, m1, F1, env, hs1, .refl f1.2, s1, q1⟩, ?_⟩
    rintro n mm σ' H' ⟨rfl, hn, m', F', env', hs', f2, s2, q2⟩
    by_cases hlt : n < xs.length
    · refine .inr ?_
      rw [List.drop_eq_getElem_cons hlt] at q2
      unfold forS at q2
      split at q2
      · rename_i hst
        obtain ⟨g1, g2⟩ := (hJ m' F' H' hs' f2.1 f2.2 hst).1 n xs[n] (List.getElem?_eq_getElem hlt)
        refine ⟨g1, fun σ3 H3 => n + 1 ≤ xs.length ∧ ∃ m' F' env' hs', Fin m1 F1 H1 hs' m' F' H3 ∧ Sm X.K er m' F' env' hs' σ3 H3 ∧ PostS X.K er G W (forS (fun x env h => match aim t x env with
          | some env => evalS C b env h
          | none => .bad) st (xs.drop (n + 1)) env' hs') m' F' H3 D, fun σ3 H3 h => ⟨xs.length - (n + 1), by omega, rfl, h⟩, fun v H2 hy => ?_⟩
        obtain ⟨F3, f3, rp⟩ := g2 v H2 hy
        have q3 := PostS.on f3 q2.next2
        cases ea : aim t xs[n] env' with
        | none => rw [ea] at q3; exact q3.elim
        | some env2 =>
          rw [ea] at q3
          refine aim_g (vs := []) f3.2.frz ea rp ((s2.e.ext f3.1).x _) fun σ2 ev2 _ => ?_
          refine ⟨m', F3, env2, hs', ⟨f3.2, ev2⟩, q3.mono (fun σ4 H4 h => ?_) fun v H h => h⟩
          obtain ⟨m4, F4, env4, hs4, f4, s4, q4⟩ := h
          exact ⟨Nat.succ_le_of_lt hlt, m4, F4, env4, hs4, f2.trans f4, s4, q4⟩
      · exact q2.elim
    · have en : n = xs.length := by omega
      subst en
      rw [List.drop_length] at q2
      unfold forS at q2
      split at q2
      · rename_i hst
        exact .inl ⟨(hJ m' F' H' hs' f2.1 f2.2 hst).2, q2 m' F' H' σ' (.refl f2.2) s2.e⟩
      · exact q2.elim
/-- for k in d, d a dict that stays -/
theorem t_fdk (hx : XOk G X N sc C cm er W) (hc : cm = true) {i t : Nat} {b : S} {tg e : Expr} {u : List Stmt} {p : Pos} (he : PE X e (tVar i)) (hg : PG X tg (gName t)) (hb : PSs X u (tS X.K er G W C b)) (hs : ∀ v, foldedSetIterable e X.env v = pure v) :
    PS X (.For tg e u [] p) (tS X.K er G W C (.fdk i t b)) :=
  ps_imp (ps_lock (ps_for hx.po (hx.calm hc) (pi_keys he) hg hb hs)) fun D σ H ⟨m, F, env, hs, s, q⟩ => by
    simp only [evalS] at q
    cases ed : dctAt i env hs with
    | none => rw [ed] at q; exact q.elim
    | some pr =>
      obtain ⟨n, kvs⟩ := pr
      rw [ed] at q
      dsimp only at q
      obtain ⟨e1, e2⟩ := dctAt_i ed
      obtain ⟨v, hv, a, ha, rfl⟩ := s.e.2 i _ e1
      obtain ⟨ks, h1, h2, h3, h4⟩ := s.c.cell n _ a e2 ha
      have hlen : kvs.length = ks.length := by
        have := congrArg List.length h2
        simpa using this
      refine ⟨a, .dK ks, h1, trivial, fun od => ⟨.ref a, hv, a, od, rfl, .inl ⟨ks, upd_same, ?_⟩⟩⟩
      have hm : a ∈ m := List.mem_of_getElem? ha
      have fa := s.c.apd e2 ha
      have c1 : Cells m F (hs.set n (.lck kvs)) (upd H a (.frz od (.dK ks))) := s.c.write ha fa fun G hG => ⟨od, ks, hG, h2, h3, h4⟩
      have f1 : Fin m F (upd H a (.frz od (.dK ks))) (hs.set n (.lck kvs)) m F (upd H a (.frz od (.dK ks))) := .refl c1
      have s1 : Sm X.K er m F env (hs.set n (.lck kvs)) σ (upd H a (.frz od (.dK ks))) := ⟨c1, s.e⟩
      have hR := keys_rp (F := F) h2 h3
      generalize hD1 : (⟨fun σ' H' => H' a = some (.frz od (.dK ks)) ∧ D.nx σ' (upd H' a (.dK ks)), fun v H' => H' a = some (.frz od (.dK ks)) ∧ D.rt v (upd H' a (.dK ks)), fun σ' H' => H' a = some (.frz od (.dK ks)) ∧ D.bk σ' (upd H' a (.dK ks)), fun σ' H' => H' a = some (.frz od (.dK ks)) ∧ D.ct σ' (upd H' a (.dK ks))⟩ : Ends) = D1
      generalize hX : (forS (fun x env h => evalS C b (env.set t (some (.d x))) h) yes (kvs.map fun p => PyData.int p.1) env (hs.set n (.lck kvs))) = XX at q
      have cell' : ∀ {F' : Hp}, Sub F F' → ∀ G : Hp, G a = some (.dK ks) → CellR F' G a (.dct kvs) := fun sb G hG => ⟨ks, hG, h2, h3, RpL.sub sb _ _ h4⟩
      have q1 : PostS X.K er G W XX m F (upd H a (.frz od (.dK ks))) D1 := by
        subst hD1
        cases XX with
        | nx env' h' => exact fun m' F' H' σ' f ev => ⟨f.1.lck a _ _ upd_same, q m' F' _ σ' (unlock_fin ha fa h1 (cell' f.1.frz) f) ev⟩
        | rt r h' => exact fun m' F' H' v f rv => ⟨f.1.lck a _ _ upd_same, q m' F' _ v (unlock_fin ha fa h1 (cell' f.1.frz) f) (unlock_rel (f.1.mem hm) rv)⟩
        | ex c env' h' => exact q.elim
        | bad => exact q.elim
      clear q
      subst hX
      refine ⟨fun j mm σ' H' => mm = kvs.length - j ∧ j ≤ kvs.length ∧ ∃ m' F' env' hs', Fin m F (upd H a (.frz od (.dK ks))) hs' m' F' H' ∧ Sm X.K er m' F' env' hs' σ' H' ∧ PostS X.K er G W (forS (fun x env h => evalS C b (env.set t (some (.d x))) h) yes ((kvs.map fun p => PyData.int p.1).drop j) env' hs') m' F' H' D1, ⟨kvs.length, rfl, Nat.zero_le _, m, F, env, _, f1, s1, by rw [List.drop_zero]; exact q1⟩, ?_⟩
      rintro j mm σ' H' ⟨rfl, hj, m', F', env', hs', f2, s2, q2⟩
      have lk := f2.1.lck a _ _ upd_same
      by_cases hlt : j < kvs.length
      · refine .inr ⟨⟨lk, by rw [← hlen]; exact hlt⟩, ?_⟩
        have hlt' : j < (kvs.map fun p => PyData.int p.1).length := by simpa using hlt
        rw [List.drop_eq_getElem_cons hlt'] at q2
        unfold forS at q2
        rw [if_pos (show yes hs' = true from rfl)] at q2
        refine ⟨fun σ3 H3 => j + 1 ≤ kvs.length ∧ ∃ m' F' env' hs', Fin m F (upd H a (.frz od (.dK ks))) hs' m' F' H3 ∧ Sm X.K er m' F' env' hs' σ3 H3 ∧ PostS X.K er G W (forS (fun x env h => evalS C b (env.set t (some (.d x))) h) yes ((kvs.map fun p => PyData.int p.1).drop (j + 1)) env' hs') m' F' H3 D1, fun σ3 H3 h => ⟨kvs.length - (j + 1), by omega, rfl, h⟩, ?_⟩
        rintro x H2 ⟨rfl, k, v, hk, rfl⟩
        obtain ⟨w, hw, rp⟩ := (RpL.sub f2.1.frz _ _ hR).get' (i := j) (List.getElem?_eq_getElem hlt')
        rw [List.getElem?_map, hk] at hw
        cases hw
        refine ⟨m', F', _, hs', ⟨s2.c, EnvR.set t s2.e (w := .d (kvs.map fun p : Int × PyData => PyData.int p.1)[j]) rp⟩, (q2.next2).mono (fun σ4 H4 h => ?_) fun v H h => h⟩
        obtain ⟨m4, F4, env4, hs4, f4, s4, q4⟩ := h
        exact ⟨Nat.succ_le_of_lt hlt, m4, F4, env4, hs4, f2.trans f4, s4, q4⟩
      · have en : j = kvs.length := by omega
        subst en
        rw [List.drop_of_length_le (by simp)] at q2
        unfold forS at q2
        rw [if_pos (show yes hs' = true from rfl)] at q2
        exact .inl ⟨⟨lk, by rw [hlen]; exact Nat.le_refl _⟩, q2 m' F' H' σ' (.refl f2.2) s2.e⟩
/-- while -/
theorem t_whl (hx : XOk G X N sc C cm er W) {c : E} {b : S} {x : Expr} {u : List Stmt} {p : Pos} (hc : PT X x (tT X.K er G W C c)) (hb : PSs X u (tS X.K er G W C b)) : PS X (.While x u [] p) (tS X.K er G W C (.whl c b)) :=
  ps_imp (ps_while hx.po hc hb) fun D σ H ⟨m, F, env, hs, s, q⟩ => by
    simp only [evalS] at q
    refine ⟨fun n σ' H' => ∃ m' F' env' hs', Sm X.K er m' F' env' hs' σ' H' ∧ PostS X.K er G W (whlS (fun env h => evalT C c env h) (fun env h => evalS C b env h) n env' hs') m' F' H' D, ⟨laps, m, F, env, hs, s, q⟩, ?_⟩
    rintro n σ' H' ⟨m', F', env', hs', s', q'⟩
    cases n with
    | zero => exact q'.elim
    | succ n =>
      unfold whlS at q'
      refine sub_ST s' q' fun r m1 F1 H1 hs1 f1 s1 q1 => ?_
      cases r with
      | true =>
        refine iteT ⟨_, fun σ2 H2 h => ⟨n, Nat.lt_succ_self n, h⟩, m1, F1, env', hs1, s1, (PostS.on f1 (PostS.next2 q1)).mono (fun σ4 H4 h => ?_) fun v H h => h⟩
        obtain ⟨m4, F4, env4, hs4, f4, s4, q4⟩ := h
        exact ⟨m4, F4, env4, hs4, s4, q4⟩
      | false => exact iteF (q1 m1 F1 H1 σ' f1 s1.e)
end
end Mi

/-! Mi: statements: the theorem. -/
namespace Mi
open PySem PySem.Spec PyProof.Rows L2

section
variable {G : Ctx} {X : Cx} {N : List Str} {sc : Scope} {C : Cf} {cm : Bool} {er : Nat → V → Prop} {W : WX}
theorem lstAt_i {r : R} {h : Hs} (e : lstAt r h = true) : ∃ n xs, r = .v (.r n) ∧ h[n]? = some (.lst xs) := by
  unfold lstAt at e
  split at e
  · split at e
    · exact ⟨_, _, rfl, by assumption⟩
    · cases e
  · cases e
theorem lstR1_i {n n' : Nat} {xs : List PyData} {h : Hs} (e : lstR1 (.v (.r n)) h = some (n', xs)) : n' = n ∧ h[n]? = some (.lst xs) := by
  unfold lstR1 at e
  dsimp only at e
  split at e
  · cases e
    exact ⟨rfl, by assumption⟩
  · cases e
/-- x.append(e) -/
theorem t_app {i : Nat} {a : E} {x : Str} {y : Expr} {p px pa pc : Pos} (hl : (pa.endLine == pc.line) = true) (ns : noStar y = true) (ho : PE X (.Name x px) (tE X.K er G W C (.var i))) (ha : PE X y (tE X.K er G W C a)) :
    PS X (.Expr (.Call (.Attribute (.Name x px) (Str.ofString "append") pa) [y] [] pc) p) (tS X.K er G W C (.mut .append (.var i) (.cons a .nil))) :=
  ps_imp (ps_expr (pe_bm PySem.F.plainAttrs_list PySem.F.slot_list_append PySem.F.type_list_append mt_append ho (pa_cons ha pa_nil (starE ns)) (by rfl) (by rw [starE ns]; rfl) hl (starE ns) (by rfl)) (noSwap (by rfl) _ _ _)) fun D σ H ⟨m, F, env, hs, s, q⟩ => by
    simp only [evalS] at q
    refine sub_S2 (.refl s.c) s q fun r1 m1 F1 H1 hs1 v1 f1 g1 s1 rv1 q1 => ?_
    split at q1
    · rename_i hat
      obtain ⟨n, xs0, e1, e2⟩ := lstAt_i hat
      subst e1
      obtain ⟨b, hb, rfl⟩ := rv1
      obtain ⟨vs0, h1, _⟩ := f1.2.cell n _ b e2 hb
      refine ⟨.inl ⟨rfl, vs0, SqL.of h1⟩, ?_⟩
      simp only [evalL] at q1
      have q1' : PostS X.K er G W ((evalE C a env hs1).then env fun y h => (mutR .append (.v (.r n)) y h).then env fun _ h => .nx env h) m F H D := by
        cases e : evalE C a env hs1 with
        | ok y h => rw [e] at q1; simpa only [Res.bind_ok, Res.then_ok, mutA] using q1
        | ex c h => rw [e] at q1; exact q1
        | bad => rw [e] at q1; exact q1
      refine sub_S2 f1 s1 q1' fun r2 m2 F2 H2 hs2 v2 f2 g2 s2 rv2 q2 => ?_
      have hb2 := g2.1.get hb
      unfold mutR at q2
      cases hl1 : lstR1 (.v (.r n)) hs2 with
      | none => rw [hl1] at q2; exact q2.elim
      | some p =>
        obtain ⟨n', xs⟩ := p
        rw [hl1] at q2
        obtain ⟨e0, e3⟩ := lstR1_i hl1
        dsimp only at q2
        rw [e0] at q2
        unfold appR at q2
        cases hd : r2.data with
        | none => rw [hd] at q2; exact q2.elim
        | some d =>
          rw [hd] at q2
          dsimp only at q2
          split at q2
          · rename_i hlen
            obtain ⟨F3, h3, r3⟩ := hold1 f2.2 rv2.hd (Mi.R.data_w hd)
            have f3 := h3.fin f2
            obtain ⟨vs, k1, k2⟩ := h3.c.cell n _ b e3 hb2
            refine ⟨b, vs, v2, rfl, rfl, k1, by rw [k2.length]; exact Nat.lt_of_lt_of_le hlen (line_le (Nat.le_refl _)), ?_⟩
            have f4 : Fin m2 F3 H2 (hs2.set n (.lst (xs ++ [d]))) m2 F3 (upd H2 b (.lst (vs ++ [v2]))) := ⟨ext_write (List.mem_of_getElem? hb2) k1 (fun _ _ z => nomatch z), h3.c.write hb2 (h3.c.apl e3 hb2) fun G hG => ⟨_, hG, k2.append (.cons r3 (RpL.nil_iff.mpr rfl))⟩⟩
            exact q2 m2 F3 _ σ (f3.trans f4) (s.e.ext (f3.trans f4).1)
          · exact q2.elim
    · exact q1.elim
end
section
variable {G : Ctx} {X : Cx} {N : List Str} {sc : Scope} {C : Cf} {cm : Bool} {er : Nat → V → Prop} {W : WX}
/-- what a changing method's statement asks, its list being known -/
theorem mut_red {mm : Mm} {i : Nat} {a : E} {D : Ends} {σ : L2.St} {H : Hp} {r : V → List V → Hp → VK → Prop} {t : TA} (hm : ∀ x y h, mutA mm x [y] h = mutR mm x y h) (ht : ∀ σ H Q, tE X.K er G W C a σ H (fun v H1 => Q [v] H1) → t σ H Q)
    (h : tS X.K er G W C (.mut mm (.var i) (.cons a .nil)) D σ H)
    (k : ∀ m F env n b m2 F2 H2 hs2 r2 v2 xs vs, Fin m F H hs2 m2 F2 H2 → EnvR X.K er m F env σ → m2[n]? = some b → hs2[n]? = some (.lst xs) → H2 b = some (.lst vs) → RpL F2 xs vs → RelR X.K er m2 F2 H H2 r2 v2 →
      PostS X.K er G W ((mutR mm (.v (.r n)) r2 hs2).then env fun _ h => .nx env h) m F H D → r (.ref b) [v2] H2 fun _ H' => D.nx σ H') : tBM X.K "list" r (tE X.K er G W C (.var i)) t σ H fun _ H' => D.nx σ H' := by
  obtain ⟨m, F, env, hs, s, q⟩ := h
  simp only [evalS] at q
  refine sub_S2 (.refl s.c) s q fun r1 m1 F1 H1 hs1 v1 f1 g1 s1 rv1 q1 => ?_
  split at q1
  · rename_i hat
    obtain ⟨n, xs0, e1, e2⟩ := lstAt_i hat
    subst e1
    obtain ⟨b, hb, rfl⟩ := rv1
    obtain ⟨vs0, h1, _⟩ := f1.2.cell n _ b e2 hb
    refine ⟨.inl ⟨rfl, vs0, SqL.of h1⟩, ht _ _ _ ?_⟩
    simp only [evalL] at q1
    have q1' : PostS X.K er G W ((evalE C a env hs1).then env fun y h => (mutR mm (.v (.r n)) y h).then env fun _ h => .nx env h) m F H D := by
      cases e : evalE C a env hs1 with
      | ok y h => rw [e] at q1; simpa only [Res.bind_ok, Res.then_ok, hm] using q1
      | ex c h => rw [e] at q1; exact q1
      | bad => rw [e] at q1; exact q1
    refine sub_S2 f1 s1 q1' fun r2 m2 F2 H2 hs2 v2 f2 g2 s2 rv2 q2 => ?_
    have hb2 := g2.1.get hb
    have q2' := q2
    unfold mutR at q2'
    cases hl1 : lstR1 (.v (.r n)) hs2 with
    | none => rw [hl1] at q2'; exact q2'.elim
    | some p =>
      obtain ⟨n', xs⟩ := p
      obtain ⟨e0, e3⟩ := lstR1_i hl1
      obtain ⟨vs, k1, k2⟩ := f2.2.cell n _ b e3 hb2
      exact k m F env n b m2 F2 H2 hs2 r2 v2 xs vs f2 s.e hb2 e3 k1 k2 rv2 q2
  · exact q1.elim
theorem mutR_at {mm : Mm} {n : Nat} {y : R} {h : Hs} {xs : List PyData} (e : h[n]? = some (.lst xs)) : lstR1 (.v (.r n)) h = some (n, xs) := by
  simp [lstR1, e]
theorem tL_one {a : E} {σ : L2.St} {H : Hp} {Q : List V → Hp → Prop} {ta : TE} (h : ta σ H fun v H1 => Q [v] H1) : tCons ta tNil σ H Q := h
/-- x.extend(e) -/
theorem t_ext {i : Nat} {a : E} {x : Str} {y : Expr} {p px pa pc : Pos} (hl : (pa.endLine == pc.line) = true) (ns : noStar y = true) (ho : PE X (.Name x px) (tE X.K er G W C (.var i))) (ha : PE X y (tE X.K er G W C a)) :
    PS X (.Expr (.Call (.Attribute (.Name x px) (Str.ofString "extend") pa) [y] [] pc) p) (tS X.K er G W C (.mut .extend (.var i) (.cons a .nil))) :=
  ps_imp (ps_expr (pe_bm PySem.F.plainAttrs_list PySem.F.slot_list_extend PySem.F.type_list_extend mt_extendA ho (pa_cons ha pa_nil (starE ns)) (by rfl) (by rw [starE ns]; rfl) hl (starE ns) (by rfl)) (noSwap (by rfl) _ _ _)) fun D σ H h => by
    refine mut_red (fun _ _ _ => rfl) (fun _ _ _ h => h) h fun m F env n b m2 F2 H2 hs2 r2 v2 xs vs f2 ev hb2 e3 k1 k2 rv2 q2 => ?_
    unfold mutR at q2
    rw [mutR_at (mm := .extend) (y := r2) e3] at q2
    dsimp only at q2
    unfold extR at q2
    cases hd : (look hs2 r2).bind items with
    | none => rw [hd] at q2; exact q2.elim
    | some ys =>
      rw [hd] at q2
      dsimp only at q2
      split at q2
      · rename_i hlen
        obtain ⟨c, us, rfl, k3, k4⟩ := look_items f2.2 rv2 hd
        refine ⟨b, c, vs, us, rfl, rfl, k1, k3, by rw [k2.length, k4.length]; exact line_le hlen, ?_⟩
        have f4 := write_fin f2 hb2 (f2.2.apl e3 hb2) k1 (fun _ _ z => nomatch z) (c := .lst (xs ++ ys)) (o := .lst (vs ++ us)) fun G hG => ⟨_, hG, k2.append k4⟩
        exact q2 m2 F2 _ σ f4 (ev.ext f4.1)
      · exact q2.elim
/-- x.remove(e) -/
theorem t_rem (hx : XOk G X N sc C cm er W) {i : Nat} {a : E} {x : Str} {y : Expr} {p px pa pc : Pos} (hl : (pa.endLine == pc.line) = true) (ns : noStar y = true) (ho : PE X (.Name x px) (tE X.K er G W C (.var i))) (ha : PE X y (tE X.K er G W C a)) :
    PS X (.Expr (.Call (.Attribute (.Name x px) (Str.ofString "remove") pa) [y] [] pc) p) (tS X.K er G W C (.mut .remove (.var i) (.cons a .nil))) :=
  ps_imp (ps_expr (pe_bm PySem.F.plainAttrs_list PySem.F.slot_list_remove PySem.F.type_list_remove (mt_removeM (er := er) hx.hu) ho (pa_cons ha pa_nil (starE ns)) (by rfl) (by rw [starE ns]; rfl) hl (starE ns) (by rfl)) (noSwap (by rfl) _ _ _)) fun D σ H h => by
    refine mut_red (fun _ _ _ => rfl) (fun _ _ _ h => h) h fun m F env n b m2 F2 H2 hs2 r2 v2 xs vs f2 ev hb2 e3 k1 k2 rv2 q2 => ?_
    unfold mutR at q2
    rw [mutR_at (mm := .remove) (y := r2) e3] at q2
    dsimp only at q2
    unfold remR at q2
    split at q2
    · rename_i d
      split at q2
      · rename_i io
        split at q2
        · rename_i k hk
          refine ⟨F2, b, xs, vs, d, v2, k, rfl, rfl, f2.2.frz, k1, k2, rv2, io, hk, ?_⟩
          have f4 := write_fin f2 hb2 (f2.2.apl e3 hb2) k1 (fun _ _ z => nomatch z) (c := .lst (xs.eraseIdx k)) (o := .lst (vs.eraseIdx k)) fun G hG => ⟨_, hG, k2.eraseIdx k⟩
          exact q2 m2 F2 _ σ f4 (ev.ext f4.1)
        · exact q2.elim
      · exact q2.elim
    · exact q2.elim
theorem augG_i {o i : R} {h : Hs} {z : Int} (e : augG o i h = some z) : ∃ n k xs, o = .v (.r n) ∧ i = .v (.d (.int k)) ∧ h[n]? = some (.lst xs) ∧ 0 ≤ k ∧ k < 9223372036854775808 ∧ xs[k.toNat]? = some (.int z) := by
  unfold augG at e
  split at e
  · rename_i n k
    split at e
    · rename_i xs hn
      split at e
      · rename_i hk
        split at e
        · rename_i x hx
          cases e
          exact ⟨n, k, xs, rfl, rfl, hn, hk.1, hk.2, hx⟩
        · cases e
      · cases e
    · cases e
  · cases e
/-- o[i] += e -/
theorem t_aug (hx : XOk G X N sc C cm er W) {o i e : E} {x y v : Expr} {p py : Pos} (ny : notSlice y = true) (ho : PE X x (tE X.K er G W C o)) (hi : PE X y (tE X.K er G W C i)) (he : PE X v (tE X.K er G W C e)) :
    PS X (.AugAssign (.Subscript x y py) .Add v p) (tS X.K er G W C (.aug o i e)) :=
  ps_imp (ps_augS ho hi get_list he ip_add (set_rule (Nat.lt_of_le_of_lt (by omega) hx.hu)) (fun ov iv new => by cases y <;> first | rfl | cases ny)) fun D σ H ⟨m, F, env, hs, s, q⟩ => by
    simp only [evalS] at q
    refine sub_S s q fun r1 m1 F1 H1 hs1 v1 f1 s1 rv1 q1 => ?_
    refine sub_S2 f1 s1 q1 fun r2 m2 F2 H2 hs2 v2 f2 g2 s2 rv2 q2 => ?_
    cases eg : augG r1 r2 hs2 with
    | none => rw [eg] at q2; exact q2.elim
    | some z =>
      rw [eg] at q2
      have rv1' := rv1.ext g2.1
      obtain ⟨n, k, xs, rfl, rfl, hn, k0, k1, hz⟩ := augG_i eg
      obtain ⟨b, hb, rfl⟩ := rv1'
      obtain ⟨ws, h1, h2⟩ := f2.2.cell n _ b hn hb
      obtain ⟨u, hu, ru⟩ := h2.get' hz
      have eu := Rp.int_of (F := F2) ru
      subst eu
      refine ⟨b, ws, k, .int z, rfl, by rw [Rp.int_of (F := F2) rv2], SqL.of h1, k0, k1, hu, ?_⟩
      refine sub_S2 f2 s2 q2 fun r3 m3 F3 H3 hs3 v3 f3 g3 s3 rv3 q3 => ?_
      unfold augS at q3
      split at q3
      · rename_i j
        obtain ⟨hs', e4, d, hd⟩ := sto_ok q3
        rw [e4] at q3
        refine ⟨z, j, rfl, by rw [Rp.int_of (F := F3) rv3], ?_⟩
        exact sto_gives (H0 := H) f3.2 (RelR.hd ((show RelR X.K er m2 F2 H H2 (.v (.r n)) (.ref b) from ⟨b, hb, rfl⟩).ext g3.1)) (RelR.hd (rv2.ext g3.1)) (d := .int (z + j)) rfl rp_int e4 fun H' f5 => q3 m3 F3 H' σ (f3.trans f5) (s.e.ext (f3.trans f5).1)
      · exact q3.elim
end
/-- what statements ask of the block -/
structure SOk (X : Cx) (sc : Scope) : Prop where
  eq : X.env.scope = sc
  kind : sc.kind = .function
  stk : X.stack = X.env :: X.outer
  frm : X.env.frame = some X.env.locals
section
variable {G : Ctx} {N : List Str} {sc : Scope} {C : Cf} {cm : Bool} {er : Nat → V → Prop}
theorem t_setLc (hn : ∀ c v, er c v → v ≠ .non) {X : Cx} {W : WX} (hx : XOk G X N sc C cm er W) (hs : SOk X sc) {i : Nat} {e : E} {s : S} {x : Str} {p py : Pos} {v : Expr} (hi : ownOk N sc i x = true) (hl : isLc e = true) (hv : lcOk sc x py v = true) (he : chkE G N cm e sc v = true)
    (red : ∀ D σ H, tS X.K er G W C s D σ H → tE X.K er G W C e σ H (fun v H1 => gName i v σ H1 D.nx)) : PS X (.Assign [.Name x py] v p) (tS X.K er G W C s) := by
  obtain ⟨o1, o2, o3⟩ := ownOk_i hx hi
  cases e with
  | lc elt t k ie cond =>
    simp only [chkE, Bool.and_eq_true] at he
    obtain ⟨⟨hc, tf⟩, h⟩ := he
    obtain ⟨a, tg, i', cs, sp, p', rfl, h0⟩ := onLc_i h
    simp only [Bool.and_eq_true, decide_eq_true_eq] at h0
    obtain ⟨⟨⟨⟨⟨⟨⟨⟨h1, h2⟩, h3⟩, h4⟩, h5⟩, h6⟩, h7⟩, h8⟩, h9⟩ := h0
    unfold lcOk at hv
    simp only [Bool.and_eq_true, Bool.not_eq_true'] at hv
    obtain ⟨⟨v1, v2⟩, v3⟩ := hv
    have hloc : X.env.scope.names.lookup x = some .local := by
      rw [hs.eq]
      split at v1
      · assumption
      · cases v1
    refine ps_imp (ps_setLc (hx.calm hc) hx.nd o1 hloc (sw_true (by rw [hs.eq]; exact hs.kind) hloc v2 v3) (stepI (fun a _ => sndE hn a) hx tf (chkTg_tup h3) (chkTg_nm h3) h2) (blk_of hx h5) (fun s' H C' cl fp => s_tg (xok_blk hx hc sp s' H C' cl fp) hc h3) (fun s' H C' cl fp => ?_)
      (fun s' H C' cl fp => sndE hn elt _ sp _ a (xok_blk hx hc sp s' H C' cl fp) h6) (noFold h1 _)) fun D σ H h => lc_red (own_snd (chkTg_mem h3)) (red D σ H h)
    match cs, h7, h8 with
    | [], h7, _ =>
      obtain rfl := chkL_nil h7
      exact s_c0
    | [c], h7, _ =>
      obtain ⟨b, r, rfl, h10, h11⟩ := chkL_cons h7
      obtain rfl := chkL_nil h11
      simp only [tst, Bool.and_eq_true] at h9
      exact s_c1 (sndT hn b _ sp _ c (xok_blk hx hc sp s' H C' cl fp) h9.1 h10)
    | c :: d :: cs, _, h8 => simp at h8
  | _ => cases hl
theorem assign1 {t : Expr} {is : List Nat} {env : PySem.Env} (h : chkTg N sc (.tp is) t = true) : (assignEach [t] env).map (·.2) = [assign t env] := by
  obtain ⟨x, k, p, rfl, _⟩ := onTup_i h
  rfl
theorem chk1_mut {m : Mm} {o a : E} {s : Stmt} (h : chk1 G N sc cm (.mut m o a) s = true) : ∃ i b, o = .var i ∧ a = .cons b .nil ∧ onExpr s (fun v => onCall v fun g xs p => onAttr g fun o nm p2 => (match mmN m with
    | some t => nm == Str.ofString t
    | none => false) && posOk p2 p && chkE G N cm (.var i) sc o && (match xs with
    | [x] => chkE G N cm b sc x
    | _ => false)) = true := by
  unfold chk1 at h
  split at h
  all_goals first
    | (rename_i z; cases z; exact ⟨_, _, rfl, rfl, h⟩)
    | (rename_i z; cases z; done)
    | (rename_i z _; cases z; done)
    | (cases h; done)
theorem chk1_tri {b : S} {n i : Nat} {hd : S} {s : Stmt} (h : chk1 G N sc cm (.tri b n i hd) s = true) : ∃ f j, hd = .seq (.ret (.call f (.cons (.var j) .nil))) .skip ∧ (cm && decide (i = j) && ((List.range n).all fun c => (G.cls c).isSome) && G.hot.contains f && onTry s fun u e x su => onName e (fun z => decide (G.cls 0 = some z) && glOk sc z) && ownOk N sc i x && isLoc sc x && chkS G N sc cm b u && (match su with
    | [st] => onRet st fun r => (match r with
      | some v => onCall v fun g xs _ => onName g (fun z => decide (G.fn f = some z) && glOk sc z) && (match xs with
        | [y] => onName y (varOk N sc i)
        | _ => false)
      | none => false)
    | _ => false)) = true := by
  unfold chk1 at h
  split at h
  all_goals first
    | (rename_i z; cases z; exact ⟨_, _, rfl, h⟩)
    | (rename_i z; cases z; done)
    | (rename_i z _; cases z; done)
    | (cases h; done)
theorem asg_red (hn : ∀ c v, er c v → v ≠ .non) {X : Cx} {W : WX} (hx : XOk G X N sc C cm er W) (hs : SOk X sc) {i : Nat} {e : E} {s : S} {st : Stmt} (h : onAsg st (fun t v p => (onName t fun x => ownOk N sc i x && (notComp v || isCell sc x || (isLc e && (match t with | .Name _ py => lcOk sc x py v | _ => false)))) && chkE G N cm e sc v) = true)
    (red : ∀ D σ H, tS X.K er G W C s D σ H → tE X.K er G W C e σ H (fun v H1 => gName i v σ H1 D.nx)) : PS X st (tS X.K er G W C s) := by
  obtain ⟨t, v, p, rfl, h0⟩ := onAsg_i h
  simp only [Bool.and_eq_true] at h0
  obtain ⟨h1, h2⟩ := h0
  obtain ⟨x, py, rfl, h3⟩ := onName_i h1
  simp only [Bool.and_eq_true, Bool.or_eq_true] at h3
  obtain ⟨h4, h5⟩ := h3
  rcases h5 with (h5 | h5) | ⟨h5, h6⟩
  · exact t_asg hx h4 (fun l => noSwap h5 _ _ _) (sndE hn e X sc W v hx h2) red
  · exact t_asg hx h4 (fun l => noSwapC (show X.env.scope.names.lookup x = some .cell by rw [hs.eq]; exact isCell_i h5) l) (sndE hn e X sc W v hx h2) red
  · exact t_setLc hn hx hs h4 h5 h6 h2 red
theorem isLoc_i {sc : Scope} {x : Str} (h : isLoc sc x = true) : sc.names.lookup x = some .local := by
  unfold isLoc at h
  split at h
  · assumption
  · cases h
theorem swapped2 {env : PySem.Env} {x y : Str} {px py : Pos} {kt k2 : Nat} {pt pt2 : Pos} {a b : Expr} (hk : env.blockKind = .function) (h1 : env.kindOf x = some .local) (h2 : env.kindOf y = some .local) (hne : x ≠ y) (hl : (py.line == px.line) = true) (na : noStar a = true) (nb : noStar b = true)
    (f1 : ([a, b].all (foldedForSure 8)) = false) (f2 : ([a, b].all (constantsAlone 8)) = false) : swappedStores [.Tuple [.Name x px, .Name y py] kt pt] (.Tuple [a, b] k2 pt2) env = pure (some [x, y]) := by
  have s1 : ([a, b].any fun | .Starred .. => true | _ => false) = false := by
    cases a <;> first | (cases na; done) | (cases b <;> first | rfl | (cases nb; done))
  have hl' : py.line = px.line := by simpa using hl
  unfold swappedStores
  simp [hk, h1, h2, s1, f1, f2, hl', hne, Expr.pos, List.eraseDups_cons]
  have e1 : List.filter (fun b => !b == x) [y] = [y] := by
    have : (y == x) = false := by simpa using fun z => hne z.symm
    simp [List.filter_cons, this]
  rw [if_neg (by
    rintro (z | z)
    · cases a <;> first | (cases na; done) | (cases z; done)
    · cases b <;> first | (cases nb; done) | (cases z; done)), e1, if_pos (by simp [List.eraseDups_cons])]
theorem notStarred (e : Expr) : noStar e = true → (match e with | Expr.Starred .. => true | _ => false) = false := by
  cases e <;> intro h <;> first | rfl | cases h
theorem swapped3 {env : PySem.Env} {x y z : Str} {px py pz : Pos} {kt k2 : Nat} {pt pt2 : Pos} {a b c : Expr} (hk : env.blockKind = .function) (h1 : env.kindOf x = some .local) (h2 : env.kindOf y = some .local) (h3 : env.kindOf z = some .local) (hxy : x ≠ y) (hxz : x ≠ z) (hyz : y ≠ z) (l1 : (py.line == px.line) = true) (l2 : (pz.line == px.line) = true) (na : noStar a = true) (nb : noStar b = true) (nc : noStar c = true)
    (f1 : ([a, b, c].all (foldedForSure 8)) = false) (f2 : ([a, b, c].all (constantsAlone 8)) = false) : swappedStores [.Tuple [.Name x px, .Name y py, .Name z pz] kt pt] (.Tuple [a, b, c] k2 pt2) env = pure (some [x, y, z]) := by
  have s1 : ([a, b, c].any fun | .Starred .. => true | _ => false) = false := by
    simp only [List.any_cons, List.any_nil, Bool.or_false]
    rw [notStarred a na, notStarred b nb, notStarred c nc]
    rfl
  have l1' : py.line = px.line := by simpa using l1
  have l2' : pz.line = px.line := by simpa using l2
  have e1 : (y == x) = false := by simpa using fun w => hxy w.symm
  have e2 : (z == x) = false := by simpa using fun w => hxz w.symm
  have e3 : (z == y) = false := by simpa using fun w => hyz w.symm
  have ed : [x, y, z].eraseDups = [x, y, z] := by
    simp only [List.eraseDups_cons, List.filter_cons, List.filter_nil, e1, e2, e3, Bool.not_false, if_true, List.eraseDups_nil]
  have fm : ([Expr.Name x px, .Name y py, .Name z pz].filterMap fun
    | .Name id pos => if env.kindOf id == some .local && pos.line == px.line then some id else none
    | _ => none) = [x, y, z] := by
    simp [h1, h2, h3, l1', l2']
  unfold swappedStores
  dsimp only
  have hd : (([Expr.Name x px, .Name y py, .Name z pz].head?.map (·.pos.line)).getD 0) = px.line := rfl
  simp only [List.length_cons, List.length_nil, hk, s1, hd]
  simp [f1, f2, h1, h2, h3, l1', l2', ed, Expr.pos]
  rintro (w | w | w)
  · cases a <;> first | (cases na; done) | (cases w; done)
  · cases b <;> first | (cases nb; done) | (cases w; done)
  · cases c <;> first | (cases nc; done) | (cases w; done)
theorem sub_SL {K : PySem.W.Frag} {m : List Addr} {F H : Hp} {hs : Hs} {env : Env} {σ : L2.St} {W : WX} {D : Ends} {a : E} {g : List R → Hs → SRes} {Q' : List V → Hp → Prop} (s : Sm K er m F env hs σ H) (h : PostS K er G W ((evalL C a env hs).then env g) m F H D)
    (k : ∀ r m1 F1 H1 hs1 v, Fin m F H hs1 m1 F1 H1 → Sm K er m1 F1 env hs1 σ H1 → RelRs K er m1 F1 H H1 r v → PostS K er G W (g r hs1) m F H D → Q' v H1) : tL K er G W C a σ H Q' := by
  refine ⟨m, F, env, hs, s, ?_⟩
  cases e : evalL C a env hs with
  | ok r hs1 =>
    rw [e] at h
    exact fun m' F' H' f v rv => k r m' F' H' hs1 v f (s.fin f) rv h
  | ex c hs1 =>
    rw [e] at h
    exact fun m' F' H' f => h m' F' H' σ f (s.fin f).e
  | bad =>
    rw [e] at h
    exact h
theorem t_par {X : Cx} {W : WX} (hx : XOk G X N sc C cm er W) (hs : SOk X sc) (hc : cm = true) {is : List Nat} {es : E} {t v : Expr} {p : Pos} (h1 : parOk sc t v = true) (h2 : parNm N t is = true) (h3 : onTup v (chkL G N cm es sc) = true)
    (ih : ∀ a, sizeOf a < sizeOf es → SE G N C cm er a) : PS X (.Assign [t] v p) (tS X.K er G W C (.par is es)) := by
  unfold parOk at h1
  split at h1
  · rename_i x px y py kt pt a b k2 pt2
    simp only [Bool.and_eq_true, decide_eq_true_eq, Bool.not_eq_true'] at h1
    obtain ⟨⟨⟨⟨⟨⟨⟨l1, l2⟩, l3⟩, l4⟩, l5⟩, l6⟩, l7⟩, l8⟩ := h1
    unfold parNm at h2
    split at h2
    · rename_i x' px' y' py' kt' pt' i j e
      cases e
      simp only [Bool.and_eq_true, decide_eq_true_eq] at h2
      obtain ⟨⟨n1, n2⟩, n3⟩ := h2
      have e1 : X.env.scope.names.lookup x = some .local := by rw [hs.eq]; exact isLoc_i l1
      have e2 : X.env.scope.names.lookup y = some .local := by rw [hs.eq]; exact isLoc_i l2
      have hk : X.env.blockKind = .function := by unfold PySem.Env.blockKind; rw [hs.eq, hs.kind]; rfl
      obtain ⟨g1, g2⟩ := stepL [a, b] es ih X sc W hx h3
      refine ps_imp (ps_par (hx.calm hc) hx.nd (by rw [hx.hN]; exact n2) (by rw [hx.hN]; exact n3) n1 e1 e2 g1 (swapped2 hk e1 e2 l3 l4 l5 l6 l7 l8) (by rfl)) fun D σ H ⟨m, F, env, hs0, s, q⟩ => ?_
      simp only [evalS] at q
      refine sub_SL s q fun rs m1 F1 H1 hs1 vs f1 s1 rv q1 => ?_
      cases hw : allW rs with
      | none => rw [hw] at q1; exact q1.elim
      | some ws =>
        rw [hw] at q1
        dsimp only at q1
        obtain ⟨F2, h5, r2⟩ := holdW f1.2 rv.hd hw
        match ws, r2 with
        | [w1, w2], .cons a1 (.cons a2 .nil) =>
          exact ⟨_, _, rfl, q1 m1 F2 H1 _ (h5.fin f1) (EnvR.set j (EnvR.set i (s.e.ext (h5.fin f1).1) a1) a2)⟩
        | [], _ => exact q1.elim
        | [_], _ => exact q1.elim
        | _ :: _ :: _ :: _, _ => exact q1.elim
    · rename_i e
      exact absurd e (by simp)
    · cases h2
  · rename_i x px y py z pz kt pt a b c k2 pt2
    simp only [Bool.and_eq_true, decide_eq_true_eq, Bool.not_eq_true'] at h1
    obtain ⟨⟨⟨⟨⟨⟨⟨⟨⟨⟨⟨⟨l1, l2⟩, l3⟩, l4⟩, l5⟩, l6⟩, l7⟩, l8⟩, l9⟩, l10⟩, l11⟩, l12⟩, l13⟩ := h1
    unfold parNm at h2
    split at h2
    · rename_i e
      exact absurd e (by simp)
    · rename_i x' px' y' py' z' pz' kt' pt' i j l e
      cases e
      simp only [Bool.and_eq_true, decide_eq_true_eq] at h2
      obtain ⟨⟨⟨⟨⟨n1, n2⟩, n3⟩, n4⟩, n5⟩, n6⟩ := h2
      have e1 : X.env.scope.names.lookup x = some .local := by rw [hs.eq]; exact isLoc_i l1
      have e2 : X.env.scope.names.lookup y = some .local := by rw [hs.eq]; exact isLoc_i l2
      have e3 : X.env.scope.names.lookup z = some .local := by rw [hs.eq]; exact isLoc_i l3
      have hk : X.env.blockKind = .function := by unfold PySem.Env.blockKind; rw [hs.eq, hs.kind]; rfl
      obtain ⟨g1, g2⟩ := stepL [a, b, c] es ih X sc W hx h3
      refine ps_imp (ps_par3 (hx.calm hc) hx.nd (by rw [hx.hN]; exact n4) (by rw [hx.hN]; exact n5) (by rw [hx.hN]; exact n6) n1 n2 n3 e1 e2 e3 g1 (swapped3 hk e1 e2 e3 l4 l5 l6 l7 l8 l9 l10 l11 l12 l13) (by rfl)) fun D σ H ⟨m, F, env, hs0, s, q⟩ => ?_
      simp only [evalS] at q
      refine sub_SL s q fun rs m1 F1 H1 hs1 vs f1 s1 rv q1 => ?_
      cases hw : allW rs with
      | none => rw [hw] at q1; exact q1.elim
      | some ws =>
        rw [hw] at q1
        dsimp only at q1
        obtain ⟨F2, h5, r2⟩ := holdW f1.2 rv.hd hw
        match ws, r2 with
        | [w1, w2, w3], .cons a1 (.cons a2 (.cons a3 .nil)) =>
          exact ⟨_, _, _, rfl, q1 m1 F2 H1 _ (h5.fin f1) (EnvR.set l (EnvR.set j (EnvR.set i (s.e.ext (h5.fin f1).1) a1) a2) a3)⟩
        | [], _ => exact q1.elim
        | [_], _ => exact q1.elim
        | [_, _], _ => exact q1.elim
        | _ :: _ :: _ :: _ :: _, _ => exact q1.elim
    · cases h2
  · cases h1
theorem relWs_get {K : PySem.W.Frag} {m : List Addr} {F : Hp} : ∀ {ws : List Mi.W} {vs : List V}, RelWs K er m F ws vs → ∀ {n : Nat} {w : Mi.W}, ws[n]? = some w → ∃ v, vs[n]? = some v ∧ RelW K er m F w v
  | _, _, .nil, n, w, h => by simp at h
  | _, _, .cons a b, 0, w, h => by
    simp only [List.getElem?_cons_zero, Option.some.injEq] at h
    subst h
    exact ⟨_, rfl, a⟩
  | _, _, .cons a b, n + 1, w, h => relWs_get b (n := n) h
theorem relWs_len {K : PySem.W.Frag} {m : List Addr} {F : Hp} : ∀ {ws : List Mi.W} {vs : List V}, RelWs K er m F ws vs → vs.length = ws.length
  | _, _, .nil => rfl
  | _, _, .cons a b => by rw [List.length_cons, List.length_cons, relWs_len b]
/-- for x in [a, b] -/
theorem t_forw {X : Cx} {W : WX} (hx : XOk G X N sc C cm er W) (hc : cm = true) {i : Nat} {es : E} {b : S} {tg : Expr} {l : List Expr} {u : List Stmt} {pl p : Pos} (hl : PA X l (tL X.K er G W C es)) (hg : PG X tg (gName i)) (hb : PSs X u (tS X.K er G W C b)) (hs : ∀ v, foldedSetIterable (.List l pl) X.env v = pure v) :
    PS X (.For tg (.List l pl) u [] p) (tS X.K er G W C (.forw i es b)) :=
  ps_imp (ps_for hx.po (hx.calm hc) (pi_list (pe_lst hl)) hg hb hs) fun D σ H ⟨m, F, env, hs0, s, q⟩ => by
    simp only [evalS] at q
    refine sub_SL s q fun rs m1 F1 H1 hs1 vs f1 s1 rv q1 => ?_
    cases hw : allW rs with
    | none => rw [hw] at q1; exact q1.elim
    | some ws =>
      rw [hw] at q1
      dsimp only at q1
      split at q1
      · rename_i hlen
        obtain ⟨F2, h5, r2⟩ := holdW f1.2 rv.hd hw
        have f2 := h5.fin f1
        refine ⟨by rw [rv.length]; exact line_le hlen, fun a na => ?_⟩
        obtain ⟨c3, x3⟩ := h5.c.new (o := .lst vs) na
        have nm : a ∉ m1 := h5.c.mnone na
        have q1 := PostS.on (f2.trans ⟨x3, c3⟩) q1
        have wl := relWs_len r2
        refine ⟨a, rfl, ⟨vs, SqL.of upd_same⟩, ?_⟩
        refine ⟨fun n mm σ' H' => mm = ws.length - n ∧ n ≤ ws.length ∧ ∃ m' F' env' hs', Fin m1 F2 (upd H1 a (.lst vs)) hs' m' F' H' ∧ Sm X.K er m' F' env' hs' σ' H' ∧ PostS X.K er G W (forW (fun w env h => evalS C b (env.set i (some w)) h) (ws.drop n) env' hs') m' F' H' D, ⟨ws.length, rfl, Nat.zero_le _, m1, F2, env, hs1, .refl c3, ⟨c3, (s.e.ext f2.1).ext x3⟩, q1⟩, ?_⟩
        rintro n mm σ' H' ⟨rfl, hn, m', F', env', hs', f4, s4, q4⟩
        have hA : H' a = some (.lst vs) := f4.1.old a _ upd_same nm
        by_cases hlt : n < ws.length
        · rw [List.drop_eq_getElem_cons hlt] at q4
          unfold forW at q4
          have hlt' : n < vs.length := by rw [wl]; exact hlt
          refine .inr ⟨⟨vs, vs[n], SqL.of hA, List.getElem?_eq_getElem hlt'⟩, fun σ3 H3 => n + 1 ≤ ws.length ∧ ∃ m' F' env' hs', Fin m1 F2 (upd H1 a (.lst vs)) hs' m' F' H3 ∧ Sm X.K er m' F' env' hs' σ3 H3 ∧ PostS X.K er G W (forW (fun w env h => evalS C b (env.set i (some w)) h) (ws.drop (n + 1)) env' hs') m' F' H3 D, fun σ3 H3 h => ⟨ws.length - (n + 1), by omega, rfl, h⟩, fun v H2 hy => ?_⟩
          obtain ⟨rfl, hv⟩ := hy
          have hv := hv vs (SqL.of hA)
          obtain ⟨v', e1, rw1⟩ := relWs_get r2 (List.getElem?_eq_getElem hlt)
          rw [hv] at e1
          cases e1
          refine ⟨m', F', _, hs', ⟨s4.c, EnvR.set i s4.e (RelW.ext f4.1 rw1)⟩, (q4.next2).mono (fun σ5 H5 h => ?_) fun v H h => h⟩
          obtain ⟨m6, F6, env6, hs6, f6, s6, q6⟩ := h
          exact ⟨Nat.succ_le_of_lt hlt, m6, F6, env6, hs6, f4.trans f6, s6, q6⟩
        · have en : n = ws.length := by omega
          subst en
          rw [List.drop_length] at q4
          unfold forW at q4
          exact .inl ⟨⟨vs, SqL.of hA, by rw [wl]; exact Nat.le_refl _⟩, q4 m' F' H' σ' (.refl f4.2) s4.e⟩
      · exact q1.elim
/-- what the suite is told, and what it tells -/
def tsH (G : Ctx) (C : Cf) (f i : Nat) (a : Addr) (cls : Value) (d : Option Addr) : TS := fun D σ H => ∃ (c : Nat) (m : List Addr) (F : Hp) (hs : Hs) (x : Str) (hs' : Hs), cls = .ref (G.ca c) ∧ d = none ∧ (G.cls c).isSome = true ∧ Cells m F hs H ∧ σ[i]? = some (some (.ref a)) ∧ C f [.e c] hs = .ok (.v (.d (.str x))) hs' ∧
  ∀ F' H' u, Fin m F H hs' m F' H' → Rp F' (.str x) u → D.rt u H'
theorem xok_tr {X : Cx} {W W' : WX} (hx : XOk G X N sc C cm er W) (hc : cm = true) {pn : List (Addr × Obj)} {xe : Value → Shared → Prop} (tk : Takes (X.tr pn xe) W') (po : PassesOwn (model X.prog X.w) X.A X.env xe) : XOk G (X.tr pn xe) N sc C cm er W' where
  hN := hx.hN
  nd := hx.nd
  calm := hx.calm
  noer := hx.noer
  hu := hx.hu
  bt := hx.bt
  tk := tk
  po := po
  cv := hx.cv
  cls := hx.cls
  fn := hx.fn
  ero := fun c v h => (hx.noer hc c v h).elim
  clm := hx.clm
  exc := hx.exc
  hot := hx.hot
  vis := hx.vis
  own := hx.own
  gl := hx.gl
  cell := hx.cell
theorem tri_i {n i f : Nat} {b : S} {env : Env} {hs : Hs} {c : Nat} {env' : Env} {h' : Hs} (e : evalS C b env hs = .ex c env' h') {m : List Addr} {F H : Hp} {D : Ends} {K : PySem.W.Frag} {W : WX}
    (q : PostS K er G W (evalS C (.tri b n i (.seq (.ret (.call f (.cons (.var i) .nil))) .skip)) env hs) m F H D) : c < n ∧ i < env'.length ∧ ∃ x h2, C f [.e c] h' = .ok (.v (.d (.str x))) h2 ∧ PostS K er G W (.rt (.v (.d (.str x))) h2) m F H D := by
  simp only [evalS] at q
  rw [e] at q
  dsimp only at q
  by_cases hc : c < n
  · rw [if_pos hc] at q
    by_cases hi : i < env'.length
    · have e1 : (env'.set i (some (.e c)))[i]? = some (some (.e c)) := by
        rw [List.getElem?_set_self hi]
      simp only [evalE, evalL, e1, Res.bind_ok, allW, R.w] at q
      cases ec : C f [.e c] h' with
      | ok r h2 =>
        rw [ec] at q
        simp only [Res.then_ok, SRes.next] at q
        cases r with
        | v w =>
          cases w with
          | d x =>
            cases x with
            | str x => exact ⟨hc, hi, x, h2, rfl, q⟩
            | _ => exact q.elim
          | _ => exact q.elim
        | _ => exact q.elim
      | ex k h2 => rw [ec] at q; exact q.elim
      | bad => rw [ec] at q; exact q.elim
    · have e1 : (env'.set i (some (.e c)))[i]? = none := List.getElem?_eq_none (by rw [List.length_set]; omega)
      simp only [evalE, evalL, e1] at q
      exact q.elim
  · rw [if_neg hc] at q
    exact q.elim
theorem t_tri {X : Cx} {W : WX} (hx : XOk G X N sc C cm er W) (hs : SOk X sc) (hc : cm = true) {b : S} {n i f : Nat} {u : List Stmt} {z x g y : Str} {np q q2 q3 q4 p p' : Pos}
    (h0 : G.cls 0 = some z) (hz : glOk sc z = true) (hall : ∀ c, c < n → (G.cls c).isSome = true) (hf : f ∈ G.hot) (ho : ownOk N sc i x = true) (hl : isLoc sc x = true) (hg : G.fn f = some g) (hgg : glOk sc g = true) (hy : varOk N sc i y = true)
    (hb : ∀ (W' : WX) (pn : List (Addr × Obj)) (xe : Value → Shared → Prop), Takes (X.tr pn xe) W' → PassesOwn (model X.prog X.w) X.A X.env xe → PSs (X.tr pn xe) u (tS X.K er G W' C b)) :
    PS X (.Try u [.ExceptHandler (some (.Name z np)) (some x) [.Return (some (.Call (.Name g q) [.Name y q2] [] q3)) q4] p'] [] [] p) (tS X.K er G W C (.tri b n i (.seq (.ret (.call f (.cons (.var i) .nil))) .skip))) := by
  obtain ⟨o1, o2, o3⟩ := ownOk_i hx ho
  obtain ⟨z1, z2, z3⟩ := glOk_i hx hz
  obtain ⟨g1, g2, g3⟩ := glOk_i hx hgg
  obtain ⟨k, fa, fd, ps, FS, room, m1, kp, bnd⟩ := hx.hot hc f g hg hf
  have ex := hx.exc hc (fun e => by rw [e] at hf; cases hf)
  have hloc : X.env.kindOf x = some .local := by
    show X.env.scope.names.lookup x = some .local
    rw [hs.eq]
    exact isLoc_i hl
  have hv : PE X (.Name y q2) (tVar i) := by
    unfold varOk at hy
    simp only [Bool.and_eq_true, decide_eq_true_eq] at hy
    obtain ⟨y1, y2, _⟩ := plainN_i hy.2
    exact pe_var (by rw [hx.hN]; exact hy.1.1) (hx.vis y hy.1.2) y1 y2
  refine ps_imp (ps_try_as (i := i) (c := .ref (G.ca 0)) (tb := fun W' => tS X.K er G W' C b) (ts := tsH G C f i) hs.stk hs.frm hx.nd o1 hloc ⟨z1, z2, .inl (hx.clm 0 z h0)⟩ hx.tk hb fun a oe cls d pn zc fl => ?_) fun D σ H ⟨m, F, env, hs', s, q'⟩ => ?_
  · have hv' : PE (X.suite a ((a, oe) :: pn)) (.Name y q2) (tVar i) := by
      unfold varOk at hy
      simp only [Bool.and_eq_true, decide_eq_true_eq] at hy
      obtain ⟨y1, y2, _⟩ := plainN_i hy.2
      exact pe_var (X := X.suite a ((a, oe) :: pn)) (by show X.N[i]? = _; rw [hx.hN]; exact hy.1.1) (hx.vis y hy.1.2) y1 y2
    refine pss_imp (pss_cons (ps_ret (pe_held (X := X.suite a ((a, oe) :: pn)) (p := (a, oe)) FS ⟨room.dp, room.un⟩ List.mem_cons_self g1 m1 kp bnd (pa_cons hv' pa_nil (by rfl)) g2 (by rfl) (by rfl))) pss_nil) ?_
    rintro D σ H ⟨c, m, F, hs, x, hs2, rfl, rfl, hcs, cc, hσ, hC, hq⟩
    exact ⟨.ref a, hσ, m, F, hs, c, .ref a, x, hs2, rfl, cc, ⟨rfl, hcs, zc, fl⟩, hC, hq⟩
  · refine ⟨m, F, env, hs', s, ?_⟩
    cases e : evalS C b env hs' with
    | nx env' h' =>
      simp only [evalS] at q'
      rw [e] at q'
      exact q'
    | rt r h' =>
      simp only [evalS] at q'
      rw [e] at q'
      exact q'
    | bad =>
      simp only [evalS] at q'
      rw [e] at q'
      exact q'
    | ex c env' h' =>
      obtain ⟨hcn, hi, x, h2, hC, hq⟩ := tri_i e q'
      intro m' F' H' σ' fin ev
      have hcs := hall c hcn
      obtain ⟨cx, hcx⟩ := Option.isSome_iff_exists.mp hcs
      refine ⟨true, (ex c cx hcx).2.2.1, fun _ a na => ⟨c, m', F', h', x, h2, rfl, rfl, hcs, fin.2, ?_, hC, fun F2 H2 v f2 r2 => hq m' F2 H2 v (fin.trans f2) r2⟩, fun z => nomatch z⟩
      rw [List.getElem?_set_self (by rw [← ev.1]; exact hi)]
/-- a name's list is held as data from now on -/
theorem t_gift {X : Cx} {W : WX} {i : Nat} {r : S} {sts : List Stmt} (hr : PSs X sts (tS X.K er G W C r)) : PSs X sts (tS X.K er G W C (.gift i r)) :=
  pss_imp hr fun D σ H ⟨m, F, env, hs, s, q⟩ => by
    simp only [evalS] at q
    cases e : lstAtI i env hs with
    | none => rw [e] at q; exact q.elim
    | some o =>
      obtain ⟨n, xs⟩ := o
      rw [e] at q
      dsimp only at q
      obtain ⟨g1, g2⟩ := lstAtI_i e
      obtain ⟨v, e1, a, ha, rfl⟩ := s.e.2 i _ g1
      obtain ⟨vs, k1, k2⟩ := s.c.cell n _ a g2 ha
      obtain ⟨c2, x2, r2⟩ := s.c.give ha g2 k1 k2
      have es : σ.set i (some (.ref a)) = σ := by
        refine List.ext_getElem? fun j => ?_
        by_cases hj : j = i
        · subst hj
          rw [List.getElem?_set_self (List.getElem?_eq_some_iff.mp e1).1, e1]
        · rw [List.getElem?_set_ne (Ne.symm hj)]
      have ev := EnvR.set i (EnvR.ext x2 s.e) (w := .d (.list xs)) r2
      rw [es] at ev
      have f0 : Fin m F H (hs.set n .gone) m (L2.upd F a (.lst vs)) H := ⟨x2, c2⟩
      refine ⟨m, _, _, _, ⟨c2, ev⟩, ?_⟩
      generalize evalS C r (env.set i (some (.d (.list xs)))) (hs.set n .gone) = XX at q
      cases XX with
      | nx env' h' => exact fun m' F' H' σ' f ev => q m' F' H' σ' (f0.trans f) ev
      | rt y h' => exact fun m' F' H' v f rv => q m' F' H' v (f0.trans f) rv
      | ex c env' h' => exact fun m' F' H' σ' f ev => q m' F' H' σ' (f0.trans f) ev
      | bad => exact q.elim
theorem sndS (hn : ∀ c v, er c v → v ≠ .non) (a : S) : ∀ (X : Cx) (W : WX), XOk G X N sc C cm er W → SOk X sc →
    (∀ st, chk1 G N sc cm a st = true → PS X st (tS X.K er G W C a)) ∧ (∀ sts, chkS G N sc cm a sts = true → PSs X sts (tS X.K er G W C a)) := by
  induction a with
  | skip =>
    refine fun X W hx hs => ⟨fun st h => ?_, fun sts h => ?_⟩
    · simp only [chk1] at h
      exact t_skip h
    · cases sts with
      | nil => exact t_nil
      | cons _ _ => simp [chkS] at h
  | seq a r iha ihr =>
    refine fun X W hx hs => ⟨fun st h => ?_, fun sts h => ?_⟩
    · simp [chk1] at h
    · cases sts with
      | nil => simp [chkS] at h
      | cons st rest =>
        simp only [chkS, Bool.and_eq_true] at h
        exact t_seq ((iha X W hx hs).1 st h.1) ((ihr X W hx hs).2 rest h.2)
  | set i e =>
    refine fun X W hx hs => ⟨fun st h => ?_, fun sts h => by cases sts <;> simp [chkS] at h⟩
    simp only [chk1] at h
    exact asg_red hn hx hs h fun D σ H => red_set
  | alc i e =>
    refine fun X W hx hs => ⟨fun st h => ?_, fun sts h => by cases sts <;> simp [chkS] at h⟩
    simp only [chk1] at h
    exact asg_red hn hx hs h fun D σ H => red_alc
  | untup is e =>
    refine fun X W hx hs => ⟨fun st h => ?_, fun sts h => by cases sts <;> simp [chkS] at h⟩
    simp only [chk1, Bool.and_eq_true] at h
    obtain ⟨hc, h⟩ := h
    obtain ⟨t, v, p, rfl, h0⟩ := onAsg_i h
    simp only [Bool.and_eq_true] at h0
    obtain ⟨⟨⟨h1, h2⟩, h3⟩, h4⟩ := h0
    exact t_untup h2 h3 (s_tg hx hc h1) (assign1 h1) (sndE hn e X sc W v hx h4)
  | par is es =>
    refine fun X W hx hs => ⟨fun st h => ?_, fun sts h => by cases sts <;> simp [chkS] at h⟩
    simp only [chk1, Bool.and_eq_true] at h
    obtain ⟨hc, h⟩ := h
    obtain ⟨t, v, p, rfl, h0⟩ := onAsg_i h
    simp only [Bool.and_eq_true] at h0
    obtain ⟨⟨h1, h2⟩, h3⟩ := h0
    exact t_par hx hs hc h1 h2 h3 (fun a _ => sndE hn a)
  | sto o i e =>
    refine fun X W hx hs => ⟨fun st h => ?_, fun sts h => by cases sts <;> simp [chkS] at h⟩
    simp only [chk1] at h
    obtain ⟨t, v, p, rfl, h0⟩ := onAsg_i h
    simp only [Bool.and_eq_true] at h0
    obtain ⟨⟨h1, h2⟩, h3⟩ := h0
    obtain ⟨x, y, py, rfl, h4⟩ := onSub_i h3
    simp only [Bool.and_eq_true] at h4
    have hy := (plainX_i (chkX i h4.2)).2.2
    refine t_sto hx h1 (by cases v <;> rfl) (fun u => ?_) (sndE hn o X sc W x hx h4.1) (sndE hn i X sc W y hx h4.2) (sndE hn e X sc W v hx h2)
    cases y <;> first | rfl | cases hy
  | sts o1 i1 o2 i2 e =>
    refine fun X W hx hs => ⟨fun st h => ?_, fun sts h => by cases sts <;> simp [chkS] at h⟩
    simp only [chk1, Bool.and_eq_true] at h
    obtain ⟨hcm, h⟩ := h
    obtain ⟨t, v, p, rfl, h0⟩ := onAsg_i h
    simp only [Bool.and_eq_true] at h0
    obtain ⟨⟨h1, h2⟩, h3⟩ := h0
    obtain ⟨ts, k, pt, rfl, h4⟩ := onTup_i h3
    split at h4
    · simp only [Bool.and_eq_true] at h4
      obtain ⟨x1, y1, p1, rfl, h5⟩ := onSub_i h4.1
      obtain ⟨x2, y2, p2, rfl, h6⟩ := onSub_i h4.2
      simp only [Bool.and_eq_true] at h5 h6
      exact t_sts hx hcm h1 (plainX_i (chkX i1 h5.2)).2.2 (plainX_i (chkX i2 h6.2)).2.2 (sndE hn o1 X sc W x1 hx h5.1) (sndE hn i1 X sc W y1 hx h5.2) (sndE hn o2 X sc W x2 hx h6.1) (sndE hn i2 X sc W y2 hx h6.2) (sndE hn e X sc W v hx h2)
    · cases h4
  | aug o i e =>
    refine fun X W hx hs => ⟨fun st h => ?_, fun sts h => by cases sts <;> simp [chkS] at h⟩
    simp only [chk1] at h
    obtain ⟨t, op, v, p, rfl, h0⟩ := onAug_i h
    simp only [Bool.and_eq_true, decide_eq_true_eq] at h0
    obtain ⟨⟨rfl, h1⟩, h2⟩ := h0
    obtain ⟨x, y, py, rfl, h3⟩ := onSub_i h2
    simp only [Bool.and_eq_true] at h3
    exact t_aug hx (plainX_i (chkX i h3.2)).2.2 (sndE hn o X sc W x hx h3.1) (sndE hn i X sc W y hx h3.2) (sndE hn e X sc W v hx h1)
  | ex e =>
    refine fun X W hx hs => ⟨fun st h => ?_, fun sts h => by cases sts <;> simp [chkS] at h⟩
    simp only [chk1] at h
    obtain ⟨v, p, rfl, h0⟩ := onExpr_i h
    simp only [Bool.and_eq_true] at h0
    exact t_ex h0.1 (sndE hn e X sc W v hx h0.2)
  | «mut» m o a =>
    refine fun X W hx hs => ⟨fun st h => ?_, fun sts h => by cases sts <;> simp [chkS] at h⟩
    obtain ⟨i, b, rfl, rfl, h1⟩ := chk1_mut h
    obtain ⟨v, p, rfl, h2⟩ := onExpr_i h1
    obtain ⟨g, xs, pc, rfl, h3⟩ := onCall_i h2
    obtain ⟨o, nm, pa, rfl, h4⟩ := onAttr_i h3
    simp only [Bool.and_eq_true] at h4
    obtain ⟨⟨⟨h8, h5⟩, h6⟩, h7⟩ := h4
    split at h7
    · rename_i y
      have ho := sndE hn (.var i) X sc W o hx h6
      simp only [chkE] at h6
      obtain ⟨x, px, rfl, _⟩ := onName_i h6
      split at h8
      · rename_i t hm
        have hn' : nm = Str.ofString t := by simpa using h8
        subst hn'
        have ns := (plainX_i (chkX b h7)).1
        have ha := sndE hn b X sc W y hx h7
        cases m <;> (unfold mmN at hm) <;> first | (cases hm; done) | skip
        · cases hm
          exact t_app h5 ns ho ha
        · cases hm
          exact t_ext h5 ns ho ha
        · cases hm
          exact t_rem hx h5 ns ho ha
      · cases h8
    · cases h7
  | ifs c a b iha ihb =>
    refine fun X W hx hs => ⟨fun st h => ?_, fun sts h => by cases sts <;> simp [chkS] at h⟩
    simp only [chk1] at h
    obtain ⟨x, u, v, p, rfl, h0⟩ := onIfS_i h
    simp only [Bool.and_eq_true] at h0
    obtain ⟨⟨⟨t, h1⟩, h2⟩, h3⟩ := h0
    exact t_ifs (sndT hn c X sc W x hx t h1) ((iha X W hx hs).2 u h2) ((ihb X W hx hs).2 v h3)
  | for_ t k ie b ihb =>
    refine fun X W hx hs => ⟨fun st h => ?_, fun sts h => by cases sts <;> simp [chkS] at h⟩
    simp only [chk1, Bool.and_eq_true] at h
    obtain ⟨⟨hc, tf⟩, h⟩ := h
    obtain ⟨tg, i, u, p, rfl, h0⟩ := onFor_i h
    simp only [Bool.and_eq_true] at h0
    obtain ⟨⟨⟨h1, h2⟩, h3⟩, h4⟩ := h0
    exact t_for hx hc (stepI (fun a _ => sndE hn a) hx tf (chkTg_tup h3) (chkTg_nm h3) h2) (s_tg hx hc h3) ((ihb X W hx hs).2 u h4) (noFold h1 _)
  | fdk i t b ihb =>
    refine fun X W hx hs => ⟨fun st h => ?_, fun sts h => by cases sts <;> simp [chkS] at h⟩
    simp only [chk1, Bool.and_eq_true] at h
    obtain ⟨hc, h⟩ := h
    obtain ⟨tg, e, u, p, rfl, h0⟩ := onFor_i h
    simp only [Bool.and_eq_true] at h0
    obtain ⟨⟨⟨h1, h2⟩, h3⟩, h4⟩ := h0
    obtain ⟨x, q, rfl, h5⟩ := onName_i h2
    obtain ⟨y, q2, rfl, h6⟩ := onName_i h3
    unfold varOk at h5
    simp only [Bool.and_eq_true, decide_eq_true_eq] at h5
    obtain ⟨y1, y2, _⟩ := plainN_i h5.2
    exact t_fdk hx hc (pe_var (by rw [hx.hN]; exact h5.1.1) (hx.vis x h5.1.2) y1 y2) (s_name hx h6) ((ihb X W hx hs).2 u h4) (noFold h1 _)
  | gift i r ihr =>
    refine fun X W hx hs => ⟨fun st h => by simp [chk1] at h, fun sts h => ?_⟩
    simp only [chkS] at h
    exact t_gift ((ihr X W hx hs).2 sts h)
  | tdk i j => exact fun X W hx hs => ⟨fun st h => by simp [chk1] at h, fun sts h => by cases sts <;> simp [chkS] at h⟩
  | tdc i k => exact fun X W hx hs => ⟨fun st h => by simp [chk1] at h, fun sts h => by cases sts <;> simp [chkS] at h⟩
  | fdt i t b ihb => exact fun X W hx hs => ⟨fun st h => by simp [chk1] at h, fun sts h => by cases sts <;> simp [chkS] at h⟩
  | forw i es b ihb =>
    refine fun X W hx hs => ⟨fun st h => ?_, fun sts h => by cases sts <;> simp [chkS] at h⟩
    simp only [chk1, Bool.and_eq_true] at h
    obtain ⟨hc, h⟩ := h
    obtain ⟨tg, e, u, p, rfl, h0⟩ := onFor_i h
    simp only [Bool.and_eq_true] at h0
    obtain ⟨⟨h1, h2⟩, h3⟩ := h0
    obtain ⟨l, pl, rfl, h4⟩ := onLst_i h1
    obtain ⟨y, q2, rfl, h5⟩ := onName_i h2
    obtain ⟨g1, g2⟩ := stepL l es (fun a _ => sndE hn a) X sc W hx h4
    exact t_forw hx hc g1 (s_name hx h5) ((ihb X W hx hs).2 u h3) (noFold rfl _)
  | whl c b ihb =>
    refine fun X W hx hs => ⟨fun st h => ?_, fun sts h => by cases sts <;> simp [chkS] at h⟩
    simp only [chk1] at h
    obtain ⟨x, u, p, rfl, h0⟩ := onWhl_i h
    simp only [Bool.and_eq_true] at h0
    obtain ⟨⟨t, h1⟩, h2⟩ := h0
    exact t_whl hx (sndT hn c X sc W x hx t h1) ((ihb X W hx hs).2 u h2)
  | ret e =>
    refine fun X W hx hs => ⟨fun st h => ?_, fun sts h => by cases sts <;> simp [chkS] at h⟩
    simp only [chk1] at h
    obtain ⟨x, p, rfl, h0⟩ := onRet_i h
    cases x with
    | some v => exact t_ret (sndE hn e X sc W v hx h0)
    | none =>
      dsimp only at h0
      split at h0
      · exact t_retN
      · cases h0
  | raise c =>
    refine fun X W hx hs => ⟨fun st h => ?_, fun sts h => by cases sts <;> simp [chkS] at h⟩
    simp only [chk1, Bool.and_eq_true] at h
    obtain ⟨hc, h⟩ := h
    obtain ⟨e, p, rfl, h0⟩ := onRaise_i h
    obtain ⟨g, xs, p2, rfl, h1⟩ := onCall_i h0
    simp only [Bool.and_eq_true] at h1
    obtain ⟨h2, h3⟩ := h1
    obtain ⟨x, p3, rfl, h4⟩ := onName_i h2
    simp only [Bool.and_eq_true, decide_eq_true_eq] at h4
    split at h3
    · obtain ⟨k, j, p5, rfl, h6⟩ := onConst_i h3
      split at h6
      · exact t_raise hx hc h4.1 h4.2
      · cases h6
    · cases h3
  | tri b n i hs' ihb ihh =>
    refine fun X W hx hs => ⟨fun st h => ?_, fun sts h => by cases sts <;> simp [chkS] at h⟩
    obtain ⟨f, j, rfl, h1⟩ := chk1_tri h
    simp only [Bool.and_eq_true, decide_eq_true_eq, List.all_eq_true, List.contains_iff_mem] at h1
    obtain ⟨⟨⟨⟨hc, rfl⟩, hall⟩, hf⟩, h2⟩ := h1
    obtain ⟨u, e, x, su, p, p', rfl, h3⟩ := onTry_i h2
    simp only [Bool.and_eq_true] at h3
    obtain ⟨⟨⟨⟨h4, h5⟩, h6⟩, h7⟩, h8⟩ := h3
    obtain ⟨z, np, rfl, h9⟩ := onName_i h4
    simp only [Bool.and_eq_true, decide_eq_true_eq] at h9
    split at h8
    · rename_i st
      obtain ⟨r, q4, rfl, h10⟩ := onRet_i h8
      split at h10
      · rename_i v
        obtain ⟨g, xs, q3, rfl, h11⟩ := onCall_i h10
        simp only [Bool.and_eq_true] at h11
        obtain ⟨h12, h13⟩ := h11
        obtain ⟨g', q, rfl, h14⟩ := onName_i h12
        simp only [Bool.and_eq_true, decide_eq_true_eq] at h14
        split at h13
        · rename_i y
          obtain ⟨y', q2, rfl, h15⟩ := onName_i h13
          exact t_tri hx hs hc h9.1 h9.2 (fun c hcn => hall c (List.mem_range.mpr hcn)) hf h5 h6 h14.1 h14.2 h15 fun W' pn xe tk po => (ihb _ W' (xok_tr hx hc tk po) ⟨hs.eq, hs.kind, hs.stk, hs.frm⟩).2 u h7
        · cases h13
      · cases h10
    · cases h8
end
end Mi

/-! Mi: defs, and the whole. -/
namespace Mi
open PySem PySem.Spec PyProof.Rows L2

/-- a def: its name, its text, its names (the parameters first), its body -/
structure Dd where
  name : Str
  st : Stmt
  N : List Str
  np : Nat
  body : S
  own : Str
def Dd.ps (d : Dd) : List Str := d.N.take d.np
def Dd.df (d : Dd) : Def := ⟨d.np, d.N.length, d.body⟩
def tabT (tab : List Dd) : Tb := fun f => (tab[f]?).map Dd.df
def scpOk (N ps : List Str) (sc : Scope) : Bool := (match sc.kind with | .function => true | _ => false) && !sc.isCoroutine && !sc.isGenerator && decide N.Nodup && decide (N.take ps.length = ps) && (ps.all fun x => match sc.names.lookup x with
  | some .local => true
  | some .cell => true
  | _ => false) && sc.names.all fun y => match y.2 with
  | .free => false
  | _ => true
theorem scp_i {N ps : List Str} {sc : Scope} (h : scpOk N ps sc = true) : FnScope N ps sc := by
  unfold scpOk at h
  simp only [Bool.and_eq_true, Bool.not_eq_true', decide_eq_true_eq, List.all_eq_true] at h
  obtain ⟨⟨⟨⟨⟨⟨h1, h2⟩, h3⟩, h4⟩, h5⟩, h6⟩, h7⟩ := h
  refine ⟨?_, h2, h3, h4, h5, fun x hx => ?_, fun y hy e => ?_⟩
  · split at h1
    · assumption
    · cases h1
  · have := h6 x hx
    split at this
    · exact .inl (by assumption)
    · exact .inr (by assumption)
    · cases this
  · have := h7 y hy
    rw [e] at this
    cases this
def chkD (G : Ctx) (d : Dd) : Bool := scpOk d.N d.ps (defScope d.st) && decide (d.np ≤ d.N.length) && chkS G d.N (defScope d.st) true d.body (defBody d.st)
/-- a def that may be asked within a suite, of what the suite holds -/
def chkDh (G : Ctx) (d : Dd) : Bool := scpOk d.N d.ps (defScope d.st) && decide (d.np ≤ d.N.length) && decide (d.np = 1) && chkS G d.N (defScope d.st) false d.body (defBody d.st)
/-- what the law's own head tells -/
structure Facts (K : PySem.W.Frag) (mg : Str → Option Value) (tab : List Dd) (G : Ctx) : Prop where
  fn : ∀ (f : Nat) (d : Dd), tab[f]? = some d → ∃ fa fd, Fun K d.own d.own d.st fa fd ∧ mg d.name = some (.ref fa) ∧ ∀ us : List Value, us.length = d.ps.length → bindArgs fd ⟨us, []⟩ = pure (d.ps.zip us)
  gfn : ∀ f x, G.fn f = some x → ∃ d, tab[f]? = some d ∧ x = d.name
  bt : ∀ x ∈ G.bt, mg x = none
  cls : ∀ c x, G.cls c = some x → PySem.W.excIn K (G.ca c) [.type "ValueError", .type "Exception", .type "BaseException", .type "object"] "ValueError.__new__" = true ∧ mg x = some (.ref (G.ca c)) ∧ PySem.W.keepIn K (.ref (G.ca c)) = true ∧
    PySem.W.subIn K (.ref (G.ca c)) (.type "BaseException") = some true ∧ PySem.W.typeIn K (.ref (G.ca c)) = some (.type "type")
  cv : ∀ x d, G.cv x = some d → ∃ v u, mg x = some u ∧ RelV v u ∧ ∀ F, Rp F d v
  chk : ∀ d ∈ tab, chkD G d = true
  exc : G.hot ≠ [] → ExcF K G
  hot : ∀ f ∈ G.hot, ∀ d, tab[f]? = some d → chkDh G d = true

/-! ### back from a call -/
section
variable {K : PySem.W.Frag} {m m' : List Addr} {F F' H H' : Hp} {hs hs' : Hs}
theorem Fin.cut (c : Cells m F hs H) (f : Fin m F H hs' m' F' H') : Fin m F H (hs'.take hs.length) m F' H' := by
  obtain ⟨t, et⟩ := f.1.pre
  have hlen : m.length ≤ m'.length := by rw [et]; simp
  refine ⟨⟨⟨[], by simp⟩, f.1.frz, f.1.old, f.1.trk, fun a h => .inl h, f.1.nfz, f.1.lck⟩, f.2.frz, ?_, fun k x a h1 h2 => ?_, fun k x a h1 h2 h3 => ?_, c.nd⟩
  · rw [List.length_take, c.len, ← f.2.len, ← c.len]
    omega
  · have hk : k < hs.length := by
      rw [← c.len]
      exact (List.getElem?_eq_some_iff.mp h2).1
    rw [List.getElem?_take, if_pos hk] at h1
    exact f.2.cell k x a h1 (f.1.get h2)
  · have hk : k < hs.length := by
      rw [← c.len]
      exact (List.getElem?_eq_some_iff.mp h2).1
    rw [List.getElem?_take, if_pos hk] at h1
    exact f.2.ap k x a h1 (f.1.get h2) h3
/-- places of the call's own, told of -/
theorem own_place (c : Cells m F hs H) (f : Fin m F H hs' m' F' H') {k : Nat} {a : Addr} (hk : ¬ k < hs.length) (h : m'[k]? = some a) : (F' a = none ∨ F' a = H' a) ∧ a ∉ m ∧ H a = none := by
  have hm := List.mem_of_getElem? h
  have hn : a ∉ m := fun z => by
    obtain ⟨j, hj⟩ := List.getElem?_of_mem z
    have hj' := f.1.get hj
    have hlt : j < hs.length := by
      rw [← c.len]
      exact (List.getElem?_eq_some_iff.mp hj).1
    have : j = k := by
      obtain ⟨g1, e1⟩ := List.getElem?_eq_some_iff.mp hj'
      obtain ⟨g2, e2⟩ := List.getElem?_eq_some_iff.mp h
      exact (List.getElem_inj f.2.nd).mp (e1.trans e2.symm)
    exact hk (by omega)
  refine ⟨?_, hn, ?_⟩
  · have hl : k < hs'.length := by
      rw [← f.2.len]
      exact (List.getElem?_eq_some_iff.mp h).1
    have hc := List.getElem?_eq_getElem hl
    generalize hs'[k] = y at hc
    by_cases z : y = .gone
    · subst z
      obtain ⟨vs, g1, g2⟩ := f.2.cell k _ a hc h
      exact .inr (g2.trans g1.symm)
    · exact .inl (f.2.ap k y a hc h z)
  rcases f.1.new a hm with z | z
  · exact absurd z hn
  · exact z
/-- one place is held, if it is not yet -/
theorem out_hold (c : Cells m F hs H) (g : Fin m F H hs' m' F' H') {F1 : Hp} (f : Fin m F H (hs'.take hs.length) m F1 H') (sb : Sub F' F1) (ho : ∀ (k : Nat) a, ¬ k < hs.length → m'[k]? = some a → a ∉ m ∧ H a = none ∧ (F1 a = none ∨ F1 a = H' a)) {w : W} {v : V} {x : PyData}
    (e : w.out hs.length hs' = some x) (r : RelW K er0 m' F' w v) : ∃ F2, Fin m F H (hs'.take hs.length) m F2 H' ∧ Sub F1 F2 ∧ (∀ (k : Nat) a, ¬ k < hs.length → m'[k]? = some a → a ∉ m ∧ H a = none ∧ (F2 a = none ∨ F2 a = H' a)) ∧ Rp F2 x v := by
  cases w with
  | d y =>
    simp only [W.out, Option.some.injEq] at e
    subst e
    exact ⟨F1, f, Sub.refl _, ho, Rp.sub sb _ _ r⟩
  | r k =>
    simp only [W.out] at e
    split at e
    · cases e
    · rename_i hk
      split at e
      · rename_i xs hx
        cases e
        obtain ⟨a, ha, rfl⟩ := r
        obtain ⟨vs, h1, h2⟩ := g.2.cell k _ a hx ha
        obtain ⟨n1, n2, n3⟩ := ho k a hk ha
        rcases n3 with n3 | n3
        · refine ⟨upd F1 a (.lst vs), ⟨ext_hold f.1 n3 n2, f.2.hold (dn_lst h1) n3 n1⟩, sub_upd n3, fun j b hj hb => ?_, Rp.list_iff.mpr ⟨a, vs, rfl, upd_same, RpL.sub (sb.trans (sub_upd n3)) _ _ h2⟩⟩
          obtain ⟨p1, p2, p3⟩ := ho j b hj hb
          refine ⟨p1, p2, ?_⟩
          by_cases hba : b = a
          · rw [hba, upd_same, h1]
            exact .inr rfl
          · rw [upd_ne hba]
            exact p3
        · exact ⟨F1, f, Sub.refl _, ho, Rp.list_iff.mpr ⟨a, vs, rfl, n3.trans h1, RpL.sub sb _ _ h2⟩⟩
      · cases e
  | e c => simp [W.out] at e
  | s ns => simp [W.out] at e
theorem outs_hold (c : Cells m F hs H) (g : Fin m F H hs' m' F' H') : ∀ {ws : List W} {vs : List V} {ds : List PyData} {F1 : Hp}, outs hs.length hs' ws = some ds → Fin m F H (hs'.take hs.length) m F1 H' → Sub F' F1 →
    (∀ (k : Nat) a, ¬ k < hs.length → m'[k]? = some a → a ∉ m ∧ H a = none ∧ (F1 a = none ∨ F1 a = H' a)) → RelWs K er0 m' F' ws vs → ∃ F2, Fin m F H (hs'.take hs.length) m F2 H' ∧ Sub F1 F2 ∧ RpL F2 ds vs
  | [], _, ds, F1, e, f, sb, ho, .nil => by
    simp only [outs, Option.some.injEq] at e
    subst e
    exact ⟨F1, f, Sub.refl _, RpL.nil_iff.mpr rfl⟩
  | w :: ws, _, ds, F1, e, f, sb, ho, .cons r rs => by
    simp only [outs] at e
    split at e
    · rename_i x xs e1 e2
      cases e
      obtain ⟨F2, f2, s2, ho2, r2⟩ := out_hold c g f sb ho e1 r
      obtain ⟨F3, f3, s3, r3⟩ := outs_hold c g e2 f2 (sb.trans s2) ho2 rs
      exact ⟨F3, f3, s2.trans s3, .cons (Rp.sub s3 _ _ r2) r3⟩
    · cases e
/-- what a call's caller sees -/
theorem back_rel (c : Cells m F hs H) (f : Fin m F H hs' m' F' H') {r r' : R} {hs2 : Hs} {v : V} (e : back hs.length r hs' = .ok r' hs2) (rv : RelR K er0 m' F' H H' r v) : ∃ F2, Fin m F H hs2 m F2 H' ∧ RelR K er0 m F2 H H' r' v := by
  have f0 := f.cut c
  have fl : ∀ {xs : List PyData} {v : V}, RelR K er0 m' F' H H' (.fl xs) v → RelR K er0 m F' H H' (.fl xs) v := fun {xs v} h => by
    obtain ⟨a, vs, e, h1, h2, h3, h4, h5⟩ := h
    exact ⟨a, vs, e, h1, h2, h3, fun z => h4 (f.1.mem z), h5⟩
  cases r with
  | v w =>
    cases w with
    | d x =>
      cases e
      exact ⟨F', f0, rv⟩
    | e c => exact rv.elim
    | s ns =>
      cases e
      exact ⟨F', f0, rv⟩
    | r k =>
      simp only [back] at e
      obtain ⟨a, ha, rfl⟩ := rv
      split at e
      · rename_i hk
        cases e
        refine ⟨F', f0, a, ?_, rfl⟩
        have hk' : k < m.length := by rw [c.len]; exact hk
        have := f.1.get (List.getElem?_eq_getElem hk')
        rw [ha] at this
        cases this
        exact List.getElem?_eq_getElem hk'
      · rename_i hk
        obtain ⟨n1, n2, n3⟩ := own_place c f hk ha
        split at e
        · rename_i xs hx
          cases e
          obtain ⟨vs, h1, h2⟩ := f.2.cell k _ a hx ha
          exact ⟨F', f0, a, vs, rfl, h1, h2, f.2.apl hx ha, n2, n3⟩
        · rename_i kvs hx
          cases e
          exact ⟨F', f0, a, rfl, f.2.cell k _ a hx ha, f.2.apd hx ha, n2, n3⟩
        all_goals cases e
  | fl xs =>
    cases e
    exact ⟨F', f0, fl rv⟩
  | fd kvs =>
    cases e
    obtain ⟨a, e, h1, h3, h4, h5⟩ := rv
    exact ⟨F', f0, a, e, h1, h3, fun z => h4 (f.1.mem z), h5⟩
  | ft ws =>
    simp only [back] at e
    obtain ⟨a, vs, rfl, h1, h2⟩ := rv
    split at e
    · rename_i xs hx
      cases e
      obtain ⟨F2, f2, s2, r2⟩ := outs_hold c f hx f0 (Sub.refl _) (fun k b hk hb => by
        obtain ⟨n1, n2, n3⟩ := own_place c f hk hb
        exact ⟨n2, n3, n1⟩) h2
      exact ⟨F2, f2, Rp.tuple_iff.mpr ⟨a, vs, rfl, s2 _ _ h1, r2⟩⟩
    · cases e
end
theorem back_ex {n k : Nat} {r : R} {hs hs2 : Hs} (e : back n r hs = .ex k hs2) : False := by
  unfold back at e
  split at e
  · split at e
    · cases e
    · split at e <;> cases e
  · split at e <;> cases e
  · cases e
/-- a body's end is the call's -/
theorem post_run {K : PySem.W.Frag} {G : Ctx} {m : List Addr} {F H : Hp} {hs : Hs} {x : SRes} {Q : VK} {E : XK} (c : Cells m F hs H) (h : Post (runS hs.length x) m F H (fun r m' F' H' _ => ∀ v, RelR K er0 m' F' H H' r v → Q v H') (fun c H' => E (.ref (G.ca c)) none H')) :
    PostS K er0 G (fun cls d _ H => E cls d H) x m F H { nx := fun _ H' => Q .non H', rt := Q } := by
  cases x with
  | nx env hs' => exact fun m' F' H' σ' f e => h m F' H' (f.cut c) .non rel_none
  | ex k env hs' => exact fun m' F' H' σ' f e => h m F' H' (f.cut c)
  | bad => exact h
  | rt r hs' =>
    intro m' F' H' v f rv
    change Post (back hs.length r hs') m F H _ _ at h
    cases e : back hs.length r hs' with
    | ok r' hs2 =>
      rw [e] at h
      obtain ⟨F2, f2, r2⟩ := back_rel c f e rv
      exact h m F2 H' f2 v r2
    | ex k hs2 =>
      exfalso
      unfold back at e
      split at e
      · split at e
        · cases e
        · split at e <;> cases e
      · split at e <;> cases e
      · cases e
    | bad => rw [e] at h; exact h.elim
theorem RelWs.length {K : PySem.W.Frag} {er : Nat → V → Prop} {m : List Addr} {F : Hp} : ∀ {ws : List W} {vs : List V}, RelWs K er m F ws vs → vs.length = ws.length
  | _, _, .nil => rfl
  | _, _, .cons a b => by rw [List.length_cons, List.length_cons, RelWs.length b]
theorem RelWs.get {K : PySem.W.Frag} {er : Nat → V → Prop} {m : List Addr} {F : Hp} : ∀ {ws : List W} {vs : List V} {i : Nat} {w : W}, RelWs K er m F ws vs → ws[i]? = some w → ∃ v, vs[i]? = some v ∧ RelW K er m F w v
  | _, _, i, w, .nil, e => by simp at e
  | _, _, 0, w, .cons a b, e => by
    simp at e
    subst e
    exact ⟨_, rfl, a⟩
  | _, _, i + 1, w, .cons a b, e => by
    simp at e
    obtain ⟨v, h1, h2⟩ := RelWs.get b e
    exact ⟨v, by simpa using h1, h2⟩
theorem env_start {K : PySem.W.Frag} {er : Nat → V → Prop} {m : List Addr} {F : Hp} {N : List Str} {ws : List W} {vs : List V} (r : RelWs K er m F ws vs) {k : Nat} (hk : k = N.length - ws.length) : EnvR K er m F (ws.map some ++ List.replicate k none) (start N vs) := by
  have hl := r.length
  refine ⟨by unfold L2.start; simp [hl, hk], fun i w e => ?_⟩
  by_cases hi : i < ws.length
  · rw [List.getElem?_append_left (by simpa using hi), List.getElem?_map] at e
    cases hw : ws[i]? with
    | none => rw [hw] at e; cases e
    | some w' =>
      rw [hw] at e
      cases e
      obtain ⟨v, h1, h2⟩ := r.get hw
      refine ⟨v, ?_, h2⟩
      unfold L2.start
      rw [List.getElem?_append_left (by simpa [hl] using hi), List.getElem?_map, h1]
      rfl
  · rw [List.getElem?_append_right (by simpa using hi)] at e
    rw [List.getElem?_replicate] at e
    split at e <;> cases e
theorem callF_some {T : Tb} {k f : Nat} {ws : List W} {hs : Hs} (h : callF T k f ws hs ≠ .bad) : ∃ j df, k = j + 1 ∧ T f = some df ∧ ws.length = df.np ∧
    ((still ws = true ∧ callF T k f ws hs = (runS 0 (evalS (callF T j) df.body (entry df ws) [])).put hs) ∨ callF T k f ws hs = runS hs.length (evalS (callF T j) df.body (entry df ws) hs)) := by
  cases k with
  | zero => exact absurd rfl h
  | succ j =>
    rw [callF] at h ⊢
    cases e : T f with
    | none => rw [e] at h; exact absurd rfl h
    | some df =>
      rw [e] at h
      dsimp only at h ⊢
      by_cases hl : ws.length = df.np
      · refine ⟨j, df, rfl, rfl, hl, ?_⟩
        rw [if_pos hl]
        by_cases hst : still ws = true
        · exact .inl ⟨hst, by rw [if_pos hst]⟩
        · exact .inr (by rw [if_neg hst])
      · rw [if_neg hl] at h
        exact absurd rfl h
section
variable {K : PySem.W.Frag} {m : List Addr} {F F2 H H' : Hp} {hs hs2 : Hs}
theorem RelWs.still : ∀ {ws : List W} {vs : List V}, still ws = true → RelWs K er0 m F ws vs → RelWs K er0 [] F ws vs
  | _, _, _, .nil => .nil
  | w :: ws, _, h, .cons a b => by
    cases w with
    | r n => cases h
    | d x => exact .cons a (RelWs.still h b)
    | e c => exact .cons a (RelWs.still h b)
    | s ns => exact .cons a (RelWs.still h b)
theorem still_cells (c : Cells m F hs H) : Cells [] F [] H := ⟨c.frz, rfl, (fun k x a h => by simp at h), (fun k x a h => by simp at h), List.nodup_nil⟩
theorem cells_tup (c : Cells m F hs H) {a : Addr} {vs : List V} (h : dn H a = some (HO.tup vs)) : a ∉ m := fun ha => by
  obtain ⟨k, hk⟩ := List.getElem?_of_mem ha
  have hl : k < hs.length := by
    rw [← c.len]
    exact (List.getElem?_eq_some_iff.mp hk).1
  obtain ⟨o, e, _⟩ := dn_tup h
  have z := c.cell k _ a (List.getElem?_eq_getElem hl) hk
  generalize hs[k] = y at z
  cases y with
  | lst xs =>
    obtain ⟨vs, h1, _⟩ := z
    rw [h1] at e
    cases e
  | dct kvs =>
    obtain ⟨ks, h1, _⟩ := z
    rw [h1] at e
    cases e
  | lck kvs =>
    obtain ⟨o, ks, h1, _⟩ := z
    rw [h1] at e
    cases e
  | gone =>
    obtain ⟨vs, h1, _⟩ := z
    rw [h1] at e
    cases e
theorem sql_up {K : PySem.W.Frag} {a : Addr} {vs : List V} (h : SqL K H a vs) : SqL K (dn H) a vs := by
  rcases h with (h | ⟨o, h⟩) | h
  · exact .inl (.inl (dn_lst h))
  · exact .inl (.inr ⟨o, by simp only [dn, h]⟩)
  · exact .inr h
theorem still_fin (c : Cells m F hs H) (f : Fin [] F H hs2 [] F2 H') : Fin m F H hs m F2 H' := by
  refine ⟨⟨⟨[], by simp⟩, f.1.frz, fun a o e _ => f.1.old a o e (by simp), f.1.trk, fun a h => .inl h, fun a e g => ?_, f.1.lck⟩, f.2.frz, c.len, fun k x a h1 h2 => ?_, fun k x a h1 h2 h3 => ?_, c.nd⟩
  · rcases f.1.nfz a e g with z | ⟨_, vs, u⟩ | ⟨z, _⟩
    · exact .inl z
    · exact .inr (.inl ⟨cells_tup c u, vs, u⟩)
    · exact nomatch z
  · have h3 := c.cell k x a h1 h2
    obtain ⟨o, ho⟩ := h3.some
    exact h3.step f.1.frz ((f.1.old a o ho (by simp)).trans ho.symm)
  · cases q : F2 a with
    | none => rfl
    | some o =>
      have := f.1.nfz a (c.ap k x a h1 h2 h3) (by rw [q]; simp)
      have ha := List.mem_of_getElem? h2
      obtain ⟨o', ho⟩ := (c.cell k _ a h1 h2).some
      rcases this with this | ⟨_, vs, this⟩ | ⟨z, _⟩
      · rw [this] at ho
        cases ho
      · exact absurd ha (cells_tup c this)
      · exact nomatch z
theorem still_relW {w : W} {v : V} (h : RelW K er0 [] F w v) : RelW K er0 m F w v := by
  cases w with
  | r n =>
    obtain ⟨a, h1, _⟩ := h
    simp at h1
  | d x => exact h
  | e c => exact h
  | s ns => exact h
theorem still_relWs : ∀ {ws : List W} {vs : List V}, RelWs K er0 [] F ws vs → RelWs K er0 m F ws vs
  | _, _, .nil => .nil
  | _, _, .cons a b => .cons (still_relW a) (still_relWs b)
theorem still_rel (c : Cells m F hs H) {r : R} {v : V} (h : RelR K er0 [] F2 H H' r v) : RelR K er0 m F2 H H' r v := by
  have nm : ∀ a, H a = none → a ∉ m := fun a e => c.mnone e
  cases r with
  | v w => exact still_relW h
  | fl xs =>
    obtain ⟨a, vs, e, h1, h2, h3, h4, h5⟩ := h
    exact ⟨a, vs, e, h1, h2, h3, nm a h5, h5⟩
  | fd kvs =>
    obtain ⟨a, e, h1, h3, h4, h5⟩ := h
    exact ⟨a, e, h1, h3, nm a h5, h5⟩
  | ft ws =>
    obtain ⟨a, vs, e, h1, h2⟩ := h
    exact ⟨a, vs, e, h1, still_relWs h2⟩
end
theorem Post.nbad {α : Type} {x : Res α} {m : List Addr} {F H : Hp} {P : α → List Addr → Hp → Hp → Hs → Prop} {W : Nat → Hp → Prop} (h : Post x m F H P W) : x ≠ .bad := fun z => by
  rw [z] at h
  exact h
theorem post_run0 {K : PySem.W.Frag} {G : Ctx} {m : List Addr} {F H : Hp} {hs : Hs} {x : SRes} {Q : VK} {E : XK} (c : Cells m F hs H) (h : Post ((runS 0 x).put hs) m F H (fun r m' F' H' _ => ∀ v, RelR K er0 m' F' H H' r v → Q v H') (fun c H' => E (.ref (G.ca c)) none H')) :
    PostS K er0 G (fun cls d _ H => E cls d H) x [] F H { nx := fun _ H' => Q .non H', rt := Q } := by
  have c0 := still_cells c
  cases x with
  | nx env hs' => exact fun m' F' H' σ' f e => h m F' H' (still_fin c (f.cut c0)) .non rel_none
  | ex k env hs' => exact fun m' F' H' σ' f e => h m F' H' (still_fin c (f.cut c0))
  | bad => exact h
  | rt r hs' =>
    intro m' F' H' v f rv
    change Post ((back ([] : Hs).length r hs').put hs) m F H _ _ at h
    cases e : back ([] : Hs).length r hs' with
    | ok r' hs2 =>
      rw [e] at h
      obtain ⟨F2, f2, r2⟩ := back_rel c0 f e rv
      exact h m F2 H' (still_fin c f2) v (still_rel c r2)
    | ex k hs2 => exact (back_ex e).elim
    | bad => rw [e] at h; exact h.elim
/-! ### every def keeps what the evaluator says -/
section
variable {P : Program} {w : World} {K : PySem.W.Frag} {mg : Str → Option Value} {base : Heap} {tab : List Dd} {G : Ctx}
theorem erP_non {p : Addr × Obj} : ∀ c v, erP G p c v → v ≠ .non := fun c v h e => by
  rw [e] at h
  cases h.1
theorem xok_hot (fx : Facts K mg tab G) {N : List Str} {qual : Str} {st : Stmt} {ps : List Str} {fa : Addr} {cdv : Value} {A : Around} {outer : List PySem.Env} {s : Shared} {H : Hp} {p : Addr × Obj} {C : Cf} {k : Nat} (nd : N.Nodup) (room : L2H.RoomH k (A.deeper (envOfC qual (defScope st) s.heap.objs.size fa cdv))) (hn : G.hot ≠ []) :
    XOk G (L2H.cxH (L2.CX P w) P w K mg base N qual (defScope st) fa cdv A outer s H E0 p) N (defScope st) C false (erP G p) (fun _ _ _ _ => False) where
  hN := rfl
  nd := nd
  calm := fun z => nomatch z
  noer := fun z => nomatch z
  hu := by
    have := room.un
    show (A.deeper _).units + 200 < cLine
    omega
  bt := fx.bt
  tk := takes0
  po := passes_of rfl
  cv := fx.cv
  cls := fun z => nomatch z
  fn := fun z => nomatch z
  ero := fun c v ⟨h1, h2, h3, h4⟩ => by
    obtain ⟨x, hx⟩ := Option.isSome_iff_exists.mp h2
    obtain ⟨g1, g2, _, g4⟩ := fx.exc hn c x hx
    exact ⟨p.1, p.2, h1, List.mem_singleton.mpr rfl, h3, h4, g1, g2, g4⟩
  clm := fun k y h => (fx.cls k y h).2.1
  exc := fun z => nomatch z
  hot := fun z => nomatch z
  vis := fun x h => isVis_i h
  own := fun x h => ⟨isOwn_i h, .inl rfl⟩
  gl := fun x h => isGl_i h
  cell := fun x h => h
theorem hot_ok (fx : Facts K mg tab G) : ∀ (k f : Nat) (d : Dd) (fa : Addr) (fd : FuncData), tab[f]? = some d → f ∈ G.hot → Fun K d.own d.own d.st fa fd → FnS P w K mg base k fa fd d.ps (spS K G (callF (tabT tab) k) f) := by
  intro k f d fa fd hd hf F
  cases k with
  | zero =>
    refine ⟨fun p vs H Q E h => ?_, fun A outer s H args us vs Q p _ _ _ _ _ h => ?_⟩
    · obtain ⟨_, _, _, _, _, _, _, _, _, _, z, _⟩ := h
      cases z
    · obtain ⟨_, _, _, _, _, _, _, _, _, _, z, _⟩ := h
      cases z
  | succ k =>
    have hT : tabT tab f = some d.df := by
      unfold tabT
      rw [hd]
      rfl
    have hchk := fx.hot f hf d hd
    unfold chkDh at hchk
    simp only [Bool.and_eq_true, decide_eq_true_eq] at hchk
    obtain ⟨⟨⟨c1, c2⟩, c0⟩, c3⟩ := hchk
    have S := scp_i c1
    have hps : d.ps.length = d.np := by
      unfold Dd.ps
      rw [List.length_take]
      omega
    have hne : G.hot ≠ [] := fun z => by
      rw [z] at hf
      cases hf
    obtain ⟨oc, od, kV, doc, pm, an, cdv, ct, osl, rfl, lk, hcd⟩ := F.ex
    refine fnS_of lk hcd S (fun p vs H Q E h => ?_) fun A outer s H vs Q p room h => ?_
    · obtain ⟨_, _, _, _, _, _, _, rfl, _⟩ := h
      rw [hps, c0]
      rfl
    · obtain ⟨m, F0, hs, c, v, x, hs', rfl, cc, er, hC, hq⟩ := h
      have hl : [W.e c].length = d.df.np := c0.symm
      have hr : callF (tabT tab) (k + 1) f [.e c] hs = (runS 0 (evalS (callF (tabT tab) k) d.df.body (entry d.df [.e c]) [])).put hs := by
        rw [callF, hT]
        dsimp only
        rw [if_pos hl, if_pos (show still [W.e c] = true from rfl)]
      rw [hr] at hC
      have hx := xok_hot (P := P) (w := w) (base := base) (outer := outer) (H := H) (p := p) (C := callF (tabT tab) k) fx (ps := d.ps) S.nd room hne
      have c0' := still_cells cc
      refine ⟨_, (sndS erP_non d.body _ _ hx ⟨rfl, S.kind, rfl, rfl⟩).2 _ c3, [], F0, entry d.df [.e c], [], ⟨c0', ?_⟩, ?_⟩
      · exact env_start (ws := [.e c]) (vs := [v]) (show RelWs K (erP G p) [] F0 [.e c] [v] from .cons (show RelW K (erP G p) [] F0 (.e c) v from er) .nil) (by show d.N.length - d.np = _; rw [c0]; rfl)
      · change PostS K (erP G p) G _ (evalS (callF (tabT tab) k) d.df.body (entry d.df [.e c]) []) [] F0 H _
        cases e : evalS (callF (tabT tab) k) d.df.body (entry d.df [.e c]) [] with
        | nx env' h' => rw [e] at hC; cases hC
        | rt r h' =>
          rw [e] at hC
          change (back 0 r h').put hs = _ at hC
          have hr : r = .v (.d (.str x)) ∧ hs' = hs := by
            cases r with
            | v w =>
              cases w with
              | d y => cases hC; exact ⟨rfl, rfl⟩
              | r k' =>
                simp only [back, Nat.not_lt_zero, if_false] at hC
                split at hC <;> cases hC
              | e c' => cases hC
              | s ns => cases hC
            | fl xs => cases hC
            | fd kvs => cases hC
            | ft ws =>
              simp only [back] at hC
              split at hC <;> cases hC
          obtain ⟨rfl, rfl⟩ := hr
          intro m' F' H' u f rv
          exact hq F' H' u (still_fin cc (f.cut c0')) rv
        | ex k' env' h' => rw [e] at hC; cases hC
        | bad => rw [e] at hC; cases hC
theorem all_ok (fx : Facts K mg tab G) : ∀ (k f : Nat) (d : Dd) (fa : Addr) (fd : FuncData), tab[f]? = some d → Fun K d.own d.own d.st fa fd → FnOk P w K mg base (L2.CX P w) k fa fd d.ps (spOf K G (callF (tabT tab) k) f) := by
  intro k
  induction k with
  | zero =>
    intro f d fa fd hd F
    refine ⟨fun vs H Q E h => ?_, fun A outer s H args us vs Q E hr he hb hv h => ?_⟩
    · obtain ⟨_, _, _, _, _, _, q⟩ := h
      exact q.elim
    · obtain ⟨_, _, _, _, _, _, q⟩ := h
      exact q.elim
  | succ k ih =>
    intro f d fa fd hd F
    have hT : tabT tab f = some d.df := by
      unfold tabT
      rw [hd]
      rfl
    have hchk := fx.chk d (List.mem_of_getElem? hd)
    unfold chkD at hchk
    simp only [Bool.and_eq_true, decide_eq_true_eq] at hchk
    obtain ⟨⟨c1, c2⟩, c3⟩ := hchk
    have S := scp_i c1
    have hps : d.ps.length = d.np := by
      unfold Dd.ps
      rw [List.length_take]
      omega
    refine F.okX S (fun vs H Q E h => ?_) (fun cdv A outer s H vs Q E hr h => ?_)
    · obtain ⟨m, F, hs, ws, _, r, q⟩ := h
      obtain ⟨j, df, _, e1, e2, _⟩ := callF_some q.nbad
      rw [hT] at e1
      cases e1
      rw [r.length, hps]
      exact e2
    · obtain ⟨m, F0, hs, ws, c, r, q⟩ := h
      obtain ⟨j, df, ej, e1, e2, e3⟩ := callF_some q.nbad
      cases ej
      rw [hT] at e1
      cases e1
      have hx : XOk G (cxOf (L2.CX P w) P w K mg base d.N d.own (defScope d.st) fa cdv A outer s H E) d.N (defScope d.st) (callF (tabT tab) k) true er0 (fun cls d _ H => E cls d H) := {
        hN := rfl
        nd := S.nd
        calm := fun _ => rfl
        noer := fun _ _ _ z => z
        hu := by
          have := hr.un
          show (A.deeper _).units + 200 < cLine
          omega
        bt := fx.bt
        tk := takes_of rfl rfl rfl rfl
        po := passes_of rfl
        cv := fx.cv
        cls := fun _ c x hc => by
          obtain ⟨h1, h2, h3, h4, h5⟩ := fx.cls c x hc
          exact ⟨h1, h2, h3, raises_own h4 h5⟩
        ero := fun _ _ z => z.elim
        clm := fun k y h => (fx.cls k y h).2.1
        exc := fun _ => fx.exc
        hot := fun _ f' x hf hh => by
          obtain ⟨d', h1, rfl⟩ := fx.gfn f' x hf
          obtain ⟨fa', fd', g1, g2, g3⟩ := fx.fn f' d' h1
          exact ⟨k, fa', fd', d'.ps, hot_ok fx k f' d' fa' fd' h1 hh g1, ⟨hr.dp, hr.un⟩, g2, g1.kp, .all g3⟩
        fn := fun _ f' x hf => by
          obtain ⟨d', h1, rfl⟩ := fx.gfn f' x hf
          obtain ⟨fa', fd', g1, g2, g3⟩ := fx.fn f' d' h1
          exact ⟨k, fa', fd', d'.ps, ih f' d' fa' fd' h1 g1, hr, g2, g1.kp, .all g3⟩
        vis := fun x h => isVis_i h
        own := fun x h => ⟨isOwn_i h, .inl rfl⟩
        gl := fun x h => isGl_i h
        cell := fun x h => h }
      have hn : d.N.length - d.np = d.N.length - ws.length := by
        rw [e2]
        rfl
      refine ⟨_, (sndS (fun _ _ z => z.elim) d.body _ _ hx ⟨rfl, S.kind, rfl, rfl⟩).2 _ c3, ?_⟩
      rcases e3 with ⟨hst, e3⟩ | e3
      · rw [e3] at q
        exact ⟨[], F0, _, [], ⟨still_cells c, env_start (r.still hst) hn⟩, post_run0 c q⟩
      · rw [e3] at q
        exact ⟨m, F0, _, hs, ⟨c, env_start r hn⟩, post_run c q⟩
end
/-! ### the law -/
def spLaw (K : PySem.W.Frag) : Sp := fun vs H Q _ => ∃ (a : Addr) (ns : List Int), vs = [.ref a] ∧ SqL K H a (ns.map V.int) ∧ ns.length ≤ 63 ∧ ∀ H', Q (.bl true) H'
theorem law_of {P : Program} {w : World} {K : PySem.W.Frag} {mg : Str → Option Value} {fa : Addr} {h : Heap} {x nm : Str} {tab : List Dd} {g : (Nat → Addr) → Ctx} {k f : Nat} {d : Dd} (hd : tab[f]? = some d) (hx : d.ps = [x]) (hn : d.name = nm)
    (ht : ∀ ns : List Int, ns.length ≤ 63 → ∃ h, callF (tabT tab) k f [.s ns] [] = .ok (.v (.d (.bool true))) h) (hmg : mg nm = some (.ref fa)) (fx : ∃ ca, Facts K mg tab (g ca)) :
    ∃ fd : FuncData, (∀ (s : Shared) (u : Value), BindsTo s fd ⟨[u], []⟩ [(x, u)]) ∧ ∀ base : Heap, K.In base → base.Ns mainGlobals mg → FnOk P w K mg base (L2.CX P w) k fa fd [x] (spLaw K) := by
  obtain ⟨ca, fx⟩ := fx
  obtain ⟨fa', fd, F, h1, h2⟩ := fx.fn f d hd
  rw [hn] at h1
  cases hmg.symm.trans h1
  rw [hx] at h2
  refine ⟨fd, fun s u => .of_eq (h2 [u] rfl), fun base _ _ => ?_⟩
  have := all_ok (P := P) (w := w) (base := base) fx k f d fa fd hd F
  rw [hx] at this
  refine this.imp fun vs H Q E hs => ?_
  obtain ⟨a, ns, rfl, hS, hl, q⟩ := hs
  obtain ⟨h', e⟩ := ht ns hl
  refine ⟨[], dn H, [], [.s ns], ⟨Sub.refl (dn H), rfl, (fun k x a z => by simp at z), (fun k x a z => by simp at z), List.nodup_nil⟩, .cons ⟨a, rfl, sql_up hS⟩ .nil, ?_⟩
  rw [e]
  intro m' F' H' f v rv
  cases (Rp.bool_of (F := F') rv)
  exact q H'
theorem noCX {P : Program} {w : World} {H : Hp} {s : Shared} {e : Value} {s' : Shared} (h : L2.CX P w [] H s (fun _ _ _ => False) e s') : False := by
  obtain ⟨_, _, _, _, _, _, _, _, _, _, _, _, z⟩ := h
  exact z.elim
theorem atom_int {i : Int} {t : Tok} : ∃ v, RelV v (.int i t) ∧ ∀ F, Rp F (.int i) v := ⟨.int i, ⟨t, rfl⟩, fun _ => rp_int⟩
theorem atom_str {i : Str} {t : Tok} : ∃ v, RelV v (.str i t) ∧ ∀ F, Rp F (.str i) v := ⟨.str i, ⟨t, rfl⟩, fun _ => rp_str⟩
theorem mem_lookup {α : Type} {l : List (Str × α)} {x : Str} {d : α} (h : l.lookup x = some d) : (x, d) ∈ l := by
  induction l with
  | nil => cases h
  | cons p r ih =>
    rw [List.lookup_cons] at h
    split at h
    · rename_i hx
      cases h
      have : x = p.1 := by simpa using hx
      rw [this]
      exact List.mem_cons_self
    · exact List.mem_cons_of_mem _ (ih h)
end Mi
namespace Mi
open PySem PySem.Spec PyProof.Rows L2
/-! ### the classes of errors, looked at at once -/
def exOne (K : PySem.W.Frag) (a : Addr) : Bool := (PySem.W.findIn K (.ref a) "__getattribute__" == some (some (.builtin "BaseException.__getattribute__"))) && (PySem.W.findIn K (.ref a) "__getattr__" == some none) && (PySem.W.subIn K (.ref a) (.type "BaseException") == some true) &&
  PySem.W.hasDictIn K a && (PySem.W.findIn K (.ref a) "__class__" == some (some (.builtin "object.__class__"))) && (PySem.W.specialIn K (.builtin "object.__class__") "__get__" == some (some (.builtin "getset_descriptor.__get__"))) &&
  (PySem.W.takesIn K (.builtin "object.__class__") == some true) && (PySem.W.mroIn K a (.type "object") == some true)
theorem exOne_i {K : PySem.W.Frag} {a : Addr} (h : exOne K a = true) : ExcC K a := by
  unfold exOne at h
  simp only [Bool.and_eq_true, beq_iff_eq] at h
  obtain ⟨⟨⟨⟨⟨⟨⟨h1, h2⟩, h3⟩, h4⟩, h5⟩, h6⟩, h7⟩, h8⟩ := h
  exact ⟨h1, h2, h3, h4, h5, h6, h7, h8⟩
def exAll (K : PySem.W.Frag) (qs : List Addr) : Bool := (List.range qs.length).all fun c => exOne K (qs.getD c 0) && (PySem.W.kitOne K (.ref (qs.getD c 0)) (.type "ValueError") == some true) && (PySem.W.exmOne K (.ref (qs.getD c 0)) (.ref (qs.getD 0 0)) == some true) &&
  (List.range qs.length).all fun k => k == 0 || (PySem.W.kitOne K (.ref (qs.getD c 0)) (.ref (qs.getD k 0)) == some (decide (k = c)))
theorem exF_of {K : PySem.W.Frag} {G : Ctx} {qs : List Addr} (h : exAll K qs = true) (hc : ∀ c x, G.cls c = some x → c < qs.length) (ha : ∀ c, G.ca c = qs.getD c 0) : ExcF K G := by
  intro c x hx
  have h1 := List.all_eq_true.mp h c (List.mem_range.mpr (hc c x hx))
  simp only [Bool.and_eq_true, beq_iff_eq] at h1
  obtain ⟨⟨⟨h2, h3⟩, h4⟩, h5⟩ := h1
  rw [ha c, ha 0]
  refine ⟨exOne_i h2, h3, h4, fun k y hk hy => ?_⟩
  have h6 := List.all_eq_true.mp h5 k (List.mem_range.mpr (hc k y hy))
  simp only [Bool.or_eq_true, beq_iff_eq] at h6
  rw [ha k]
  exact h6.resolve_left hk
theorem addr_all (qs : List Addr) (c : Nat) : (((qs.map some)[c]?).join).getD 0 = qs.getD c 0 := by
  rw [List.getElem?_map, List.getD_eq_getElem?_getD]
  cases qs[c]? <;> rfl
theorem bound_of {l : List (Option Str)} {c : Nat} {x : Str} (h : (l[c]?).join = some x) : c < l.length := by
  cases e : l[c]? with
  | none => rw [e] at h; cases h
  | some o => exact (List.getElem?_eq_some_iff.mp e).1
end Mi

/-! Mi: equations of the evaluator that fire on shapes alone. -/
namespace Mi
open PySem

section
variable {h : Hs} {x y : PyData} {xs ys : List PyData} {α : Type} {f : PyData → PyData → Option α} {i j : Int} {n : Nat}
@[simp] theorem look2_dd : look2 h (.v (.d x)) (.v (.d y)) f = f x y := rfl
@[simp] theorem look2_df : look2 h (.v (.d x)) (.fl ys) f = f x (.list ys) := rfl
@[simp] theorem look2_fd : look2 h (.fl xs) (.v (.d y)) f = f (.list xs) y := rfl
@[simp] theorem look2_ff : look2 h (.fl xs) (.fl ys) f = f (.list xs) (.list ys) := rfl
@[simp] theorem binD_ii {o : BOp} : binD o (.int i) (.int j) = (binI o i j).map fun k => .v (.d (.int k)) := by cases o <;> rfl
@[simp] theorem binI_add : binI .add i j = some (i + j) := rfl
@[simp] theorem binI_sub : binI .sub i j = some (i - j) := rfl
@[simp] theorem binI_mul : binI .mul i j = if mulOk i j then some (i * j) else none := rfl
@[simp] theorem binI_fdiv : binI .fdiv i j = if divOk j then some (i / j) else none := rfl
@[simp] theorem binI_mod : binI .mod i j = if decide (0 < j) then some (i % j) else none := rfl
@[simp] theorem binD_addL : binD .add (.list xs) (.list ys) = if xs.length + ys.length ≤ line then some (.fl (xs ++ ys)) else none := rfl
@[simp] theorem binD_addT : binD .add (.tuple xs) (.tuple ys) = if xs.length + ys.length ≤ line then some (.v (.d (.tuple (xs ++ ys)))) else none := rfl
@[simp] theorem cmpO_d {o : COp} {a : R} : cmpO o a (.v (.d y)) h = look2 h a (.v (.d y)) (cmpD o) := rfl
@[simp] theorem cmpO_fl {o : COp} {a : R} : cmpO o a (.fl ys) h = look2 h a (.fl ys) (cmpD o) := rfl
@[simp] theorem cmpD_eq : cmpD .eq (.int i) (.int j) = some (decide (i = j)) := rfl
@[simp] theorem cmpD_ne : cmpD .ne (.int i) (.int j) = some (!decide (i = j)) := rfl
@[simp] theorem cmpD_lt : cmpD .lt (.int i) (.int j) = some (decide (i < j)) := rfl
@[simp] theorem cmpD_le : cmpD .le (.int i) (.int j) = some (decide (i ≤ j)) := rfl
@[simp] theorem cmpD_gt : cmpD .gt (.int i) (.int j) = some (decide (j < i)) := rfl
@[simp] theorem cmpD_ge : cmpD .ge (.int i) (.int j) = some (decide (j ≤ i)) := rfl
@[simp] theorem biO_1 {b : Bi} {r : R} : biO b [r] h = oneO b r h := rfl
@[simp] theorem biO_2 {b : Bi} {r q : R} : biO b [r, q] h = twoO b r q := rfl
@[simp] theorem twoO_ii {b : Bi} : twoO b (.v (.d (.int i))) (.v (.d (.int j))) = two b i j := rfl
@[simp] theorem two_min : two .min2 i j = some (rInt (if j < i then j else i)) := rfl
@[simp] theorem two_max : two .max2 i j = some (rInt (if j > i then j else i)) := rfl
@[simp] theorem oneO_lenS {ns : List Int} : oneO .len (.v (.s ns)) h = some (rInt ns.length) := rfl
@[simp] theorem oneO_lenL : oneO .len (.v (.d (.list xs))) h = some (rInt xs.length) := rfl
@[simp] theorem oneO_lenT : oneO .len (.v (.d (.tuple xs))) h = some (rInt xs.length) := rfl
@[simp] theorem oneO_lenF : oneO .len (.fl xs) h = some (rInt xs.length) := rfl
@[simp] theorem asB_b {b : Bool} : asB (.v (.d (.bool b))) = some b := rfl
@[simp] theorem asB_r {b : Bool} : asB (rBool b) = some b := rfl
@[simp] theorem w_v {w : W} : R.w (.v w) = some w := rfl
@[simp] theorem w_fl : R.w (.fl xs) = some (.d (.list xs)) := rfl
@[simp] theorem w_i : R.w (rInt i) = some (.d (.int i)) := rfl
@[simp] theorem w_b {b : Bool} : R.w (rBool b) = some (.d (.bool b)) := rfl
@[simp] theorem data_d : R.data (.v (.d x)) = some x := rfl
@[simp] theorem data_fl : R.data (.fl xs) = some (.list xs) := rfl
@[simp] theorem data_i : R.data (rInt i) = some (.int i) := rfl
@[simp] theorem allD_nil : allD [] = some [] := rfl
theorem allD_cons {r : R} {rs : List R} (e : r.data = some x) : allD (r :: rs) = (allD rs).map (x :: ·) := by
  rw [allD, e]
  cases allD rs <;> rfl
@[simp] theorem allD_d {rs : List R} : allD (.v (.d x) :: rs) = (allD rs).map (x :: ·) := allD_cons rfl
@[simp] theorem allD_f {rs : List R} : allD (.fl xs :: rs) = (allD rs).map (.list xs :: ·) := allD_cons rfl
@[simp] theorem allD_i {rs : List R} : allD (rInt i :: rs) = (allD rs).map (.int i :: ·) := allD_cons rfl
@[simp] theorem allW_nil : allW [] = some [] := rfl
theorem allW_cons {r : R} {rs : List R} {w : W} (e : r.w = some w) : allW (r :: rs) = (allW rs).map (w :: ·) := by
  rw [allW, e]
  cases allW rs <;> rfl
@[simp] theorem allW_v {w : W} {rs : List R} : allW (.v w :: rs) = (allW rs).map (w :: ·) := allW_cons rfl
@[simp] theorem allW_f {rs : List R} : allW (.fl xs :: rs) = (allW rs).map (.d (.list xs) :: ·) := allW_cons rfl
@[simp] theorem allW_i {rs : List R} : allW (rInt i :: rs) = (allW rs).map (.d (.int i) :: ·) := allW_cons rfl
@[simp] theorem ixO_s {ns : List Int} : ixO (.v (.s ns)) (.v (.d (.int i))) h = (ixD ns i).map rInt := rfl
@[simp] theorem ixO_l : ixO (.v (.d (.list xs))) (.v (.d (.int i))) h = (ixD xs i).map fun x => .v (.d x) := rfl
@[simp] theorem ixO_t : ixO (.v (.d (.tuple xs))) (.v (.d (.int i))) h = (ixD xs i).map fun x => .v (.d x) := rfl
theorem ixO_r (e : h[n]? = some (.lst xs)) : ixO (.v (.r n)) (.v (.d (.int i))) h = (ixD xs i).map fun x => .v (.d x) := by
  simp [ixO, lookD, look, e]
@[simp] theorem runS_rt_d : runS n (.rt (.v (.d x)) h) = .ok (.v (.d x)) (h.take n) := rfl
@[simp] theorem runS_rt_fl : runS n (.rt (.fl xs) h) = .ok (.fl xs) (h.take n) := rfl
@[simp] theorem runS_nx {env : Env} : runS n (.nx env h) = .ok (.v (.d .none)) (h.take n) := rfl
@[simp] theorem runS_ex {env : Env} {c : Nat} : runS n (.ex c env h) = .ex c (h.take n) := rfl
@[simp] theorem put_ok {β : Type} {a : β} {h' : Hs} : (Res.ok a h').put h = .ok a h := rfl
@[simp] theorem rInt_eq : rInt i = .v (.d (.int i)) := rfl
@[simp] theorem rBool_eq {b : Bool} : rBool b = .v (.d (.bool b)) := rfl
end
/-- what is common to all evaluations of a def's text -/
theorem callF_still {T : Tb} {k f : Nat} {df : Def} {ws : List W} {h : Hs} (hf : T f = some df) (hl : ws.length = df.np) (hs : still ws = true) : callF T (k + 1) f ws h = (runS 0 (evalS (callF T k) df.body (entry df ws) [])).put h := by
  rw [callF, hf]
  dsimp only
  rw [if_pos hl, if_pos hs]
theorem callF_move {T : Tb} {k f : Nat} {df : Def} {ws : List W} {h : Hs} (hf : T f = some df) (hl : ws.length = df.np) (hs : still ws = false) : callF T (k + 1) f ws h = runS h.length (evalS (callF T k) df.body (entry df ws) h) := by
  rw [callF, hf]
  dsimp only
  rw [if_pos hl, if_neg (by rw [hs]; decide)]
end Mi

/-! Mi: rules of the evaluator: loops, comprehensions, places. -/
namespace Mi
open PySem

theorem callF_put {T : Tb} {k f : Nat} {ws : List W} (s : still ws = true) (h : Hs) : callF T k f ws h = (callF T k f ws []).put h := by
  cases k with
  | zero => rfl
  | succ k =>
    rw [callF, callF]
    cases T f with
    | none => rfl
    | some df =>
      dsimp only
      split
      · cases runS 0 (evalS (callF T k) df.body (entry df ws) []) <;> rfl
      · rfl
/-- a still call's answer, from the body's in an empty heap -/
theorem call_rt {T : Tb} {k f : Nat} {df : Def} {ws : List W} {x : PyData} {h' : Hs} (hf : T f = some df) (hl : ws.length = df.np) (hs : still ws = true) (e : evalS (callF T k) df.body (entry df ws) [] = .rt (.v (.d x)) h') (h : Hs) : callF T (k + 1) f ws h = .ok (.v (.d x)) h := by
  rw [callF_still hf hl hs, e]
  rfl
theorem call_fl {T : Tb} {k f : Nat} {df : Def} {ws : List W} {xs : List PyData} {h' : Hs} (hf : T f = some df) (hl : ws.length = df.np) (hs : still ws = true) (e : evalS (callF T k) df.body (entry df ws) [] = .rt (.fl xs) h') (h : Hs) : callF T (k + 1) f ws h = .ok (.fl xs) h := by
  rw [callF_still hf hl hs, e]
  rfl
theorem call_nx {T : Tb} {k f : Nat} {df : Def} {ws : List W} {env' : Env} {h' : Hs} (hf : T f = some df) (hl : ws.length = df.np) (hs : still ws = true) (e : evalS (callF T k) df.body (entry df ws) [] = .nx env' h') (h : Hs) : callF T (k + 1) f ws h = .ok (.v (.d .none)) h := by
  rw [callF_still hf hl hs, e]
  rfl
theorem call_ex {T : Tb} {k f : Nat} {df : Def} {ws : List W} {c : Nat} {env' : Env} {h' : Hs} (hf : T f = some df) (hl : ws.length = df.np) (hs : still ws = true) (e : evalS (callF T k) df.body (entry df ws) [] = .ex c env' h') (h : Hs) : callF T (k + 1) f ws h = .ex c h := by
  rw [callF_still hf hl hs, e]
  rfl
/-- .. that tells a list of its own -/
theorem call_own {T : Tb} {k f n : Nat} {df : Def} {ws : List W} {xs : List PyData} {h' : Hs} (hf : T f = some df) (hl : ws.length = df.np) (hs : still ws = true) (e : evalS (callF T k) df.body (entry df ws) [] = .rt (.v (.r n)) h') (hn : h'[n]? = some (.lst xs)) (h : Hs) : callF T (k + 1) f ws h = .ok (.fl xs) h := by
  rw [callF_still hf hl hs, e]
  show (back 0 (.v (.r n)) h').put h = _
  unfold back
  dsimp only
  rw [if_neg (Nat.not_lt_zero n), hn]
  rfl
/-- for: an invariant over what is behind -/
theorem forS_ind {body : PyData → Env → Hs → SRes} {st : Hs → Bool} (I : List PyData → Env → Hs → Prop) {xs : List PyData} (hst : ∀ pre env h, I pre env h → st h = true) (hb : ∀ pre x post env h, xs = pre ++ x :: post → I pre env h → ∃ env' h', body x env h = .nx env' h' ∧ I (pre ++ [x]) env' h') {env : Env} {h : Hs} (h0 : I [] env h) :
    ∃ env' h', forS body st xs env h = .nx env' h' ∧ I xs env' h' := by
  suffices H : ∀ (post pre : List PyData) (env : Env) (h : Hs), xs = pre ++ post → I pre env h → ∃ env' h', forS body st post env h = .nx env' h' ∧ I xs env' h' from H xs [] env h rfl h0
  intro post
  induction post with
  | nil =>
    intro pre env h e i
    rw [List.append_nil] at e
    subst e
    exact ⟨env, h, by simp [forS, hst _ _ _ i], i⟩
  | cons x post ih =>
    intro pre env h e i
    obtain ⟨e1, h1, q1, i1⟩ := hb pre x post env h e i
    obtain ⟨e2, h2, q2, i2⟩ := ih (pre ++ [x]) e1 h1 (by rw [e]; simp) i1
    exact ⟨e2, h2, by simp [forS, hst _ _ _ i, q1, q2], i2⟩
/-- for: an invariant, nothing counted -/
theorem forS_inv {body : PyData → Env → Hs → SRes} (I : Env → Hs → Prop) (xs : List PyData) (env : Env) (h : Hs) (hb : ∀ x ∈ xs, ∀ env h, I env h → ∃ env' h', body x env h = .nx env' h' ∧ I env' h') (i : I env h) : ∃ env' h', forS body yes xs env h = .nx env' h' ∧ I env' h' :=
  forS_ind (fun _ => I) (fun _ _ _ _ => rfl) (fun pre x post env h e i => hb x (by rw [e]; simp) env h i) i
/-- for that may come back from within: with I all the way, or with Q -/
theorem forS_ret {body : PyData → Env → Hs → SRes} {st : Hs → Bool} (I : List PyData → Env → Hs → Prop) (Q : R → Hs → Prop) {xs : List PyData} (hst : ∀ pre env h, I pre env h → st h = true)
    (hb : ∀ pre x post env h, xs = pre ++ x :: post → I pre env h → (∃ env' h', body x env h = .nx env' h' ∧ I (pre ++ [x]) env' h') ∨ ∃ r h', body x env h = .rt r h' ∧ Q r h') {env : Env} {h : Hs} (h0 : I [] env h) :
    (∃ env' h', forS body st xs env h = .nx env' h' ∧ I xs env' h') ∨ ∃ r h', forS body st xs env h = .rt r h' ∧ Q r h' := by
  suffices H : ∀ (post pre : List PyData) (env : Env) (h : Hs), xs = pre ++ post → I pre env h → (∃ env' h', forS body st post env h = .nx env' h' ∧ I xs env' h') ∨ ∃ r h', forS body st post env h = .rt r h' ∧ Q r h' from H xs [] env h rfl h0
  intro post
  induction post with
  | nil =>
    intro pre env h e i
    rw [List.append_nil] at e
    subst e
    exact .inl ⟨env, h, by simp [forS, hst _ _ _ i], i⟩
  | cons x post ih =>
    intro pre env h e i
    rcases hb pre x post env h e i with ⟨e1, h1, q1, i1⟩ | ⟨r, h1, q1, i1⟩
    · rcases ih (pre ++ [x]) e1 h1 (by rw [e]; simp) i1 with ⟨e2, h2, q2, i2⟩ | ⟨r, h2, q2, i2⟩
      · exact .inl ⟨e2, h2, by simp [forS, hst _ _ _ i, q1, q2], i2⟩
      · exact .inr ⟨r, h2, by simp [forS, hst _ _ _ i, q1, q2], i2⟩
    · exact .inr ⟨r, h1, by simp [forS, hst _ _ _ i, q1], i1⟩
/-- a comprehension whose steps leave the heap alone -/
theorem lcS_pure {body : PyData → Hs → Res (Option PyData)} {g : PyData → Option PyData} {h : Hs} {st : Hs → Bool} (hs : st h = true) : ∀ {xs : List PyData}, (∀ x ∈ xs, body x h = .ok (g x) h) → lcS body st xs h = .ok (xs.filterMap g) h
  | [], _ => by simp [lcS, hs]
  | x :: xs, hb => by
    have ih := lcS_pure hs (xs := xs) fun y hy => hb y (List.mem_cons_of_mem _ hy)
    simp only [lcS, hs, if_true, hb x List.mem_cons_self, ih, List.filterMap_cons]
    cases g x <;> rfl
theorem lcS_map {body : PyData → Hs → Res (Option PyData)} {g : PyData → PyData} {h : Hs} {st : Hs → Bool} (hs : st h = true) {xs : List PyData} (hb : ∀ x ∈ xs, body x h = .ok (some (g x)) h) : lcS body st xs h = .ok (xs.map g) h := by
  rw [lcS_pure (g := fun x => some (g x)) hs hb, List.filterMap_eq_map']
/-- .. over things that are written so -/
theorem lcS_mapE {α : Type} {body : PyData → Hs → Res (Option PyData)} (enc : α → PyData) (g : α → PyData) {h : Hs} {st : Hs → Bool} (hs : st h = true) {xs : List α} (hb : ∀ x ∈ xs, body (enc x) h = .ok (some (g x)) h) : lcS body st (xs.map enc) h = .ok (xs.map g) h := by
  induction xs with
  | nil => simp [lcS, hs]
  | cons x xs ih =>
    simp only [List.map_cons, lcS, hs, if_true, hb x List.mem_cons_self, ih fun y hy => hb y (List.mem_cons_of_mem _ hy)]
    rfl
theorem lcS_filterE {α : Type} {body : PyData → Hs → Res (Option PyData)} (enc : α → PyData) (p : α → Bool) (g : α → PyData) {h : Hs} {st : Hs → Bool} (hs : st h = true) {xs : List α} (hb : ∀ x ∈ xs, body (enc x) h = .ok (if p x then some (g x) else none) h) : lcS body st (xs.map enc) h = .ok ((xs.filter p).map g) h := by
  induction xs with
  | nil => simp [lcS, hs]
  | cons x xs ih =>
    simp only [List.map_cons, lcS, hs, if_true, hb x List.mem_cons_self, ih fun y hy => hb y (List.mem_cons_of_mem _ hy), List.filter_cons]
    cases p x <;> rfl
/-- a comprehension that draws: an invariant over what is behind and what is made -/
theorem lcS_ind {body : PyData → Hs → Res (Option PyData)} {st : Hs → Bool} (I : List PyData → List PyData → Hs → Prop) {xs : List PyData} (hst : ∀ pre acc h, I pre acc h → st h = true)
    (hb : ∀ pre x post acc h, xs = pre ++ x :: post → I pre acc h → ∃ o h', body x h = .ok o h' ∧ I (pre ++ [x]) (acc ++ o.toList) h') {h : Hs} (h0 : I [] [] h) : ∃ ys h', lcS body st xs h = .ok ys h' ∧ I xs ys h' := by
  suffices H : ∀ (post pre acc : List PyData) (h : Hs), xs = pre ++ post → I pre acc h → ∃ ys h', lcS body st post h = .ok ys h' ∧ I xs (acc ++ ys) h' by
    obtain ⟨ys, h', e, i⟩ := H xs [] [] h rfl h0
    exact ⟨ys, h', e, by simpa using i⟩
  intro post
  induction post with
  | nil =>
    intro pre acc h e i
    rw [List.append_nil] at e
    subst e
    exact ⟨[], h, by simp [lcS, hst _ _ _ i], by simpa using i⟩
  | cons x post ih =>
    intro pre acc h e i
    obtain ⟨o, h1, q1, i1⟩ := hb pre x post acc h e i
    obtain ⟨ys, h2, q2, i2⟩ := ih (pre ++ [x]) (acc ++ o.toList) h1 (by rw [e]; simp) i1
    refine ⟨o.toList ++ ys, h2, ?_, by simpa using i2⟩
    simp only [lcS, hst _ _ _ i, if_true, q1, q2]
theorem boolsD_map : ∀ bs : List Bool, boolsD (bs.map .bool) = some bs
  | [] => rfl
  | b :: bs => by simp [boolsD, boolsD_map bs]
theorem boolsD_mapP {α : Type} (p : α → Bool) (xs : List α) : boolsD (xs.map fun x => .bool (p x)) = some (xs.map p) := by
  rw [← boolsD_map, List.map_map]
  rfl
@[simp] theorem allO_map {α : Type} (p : α → Bool) (xs : List α) (h : Hs) : allO (.fl (xs.map fun x => .bool (p x))) h = some (.v (.d (.bool (xs.all p)))) := by
  simp [allO, look, boolsD_mapP, List.all_map, Function.comp_def]
theorem intsD_map : ∀ bs : List Int, intsD (bs.map .int) = some bs
  | [] => rfl
  | b :: bs => by simp [intsD, intsD_map bs]
theorem upto_mem : ∀ {n : Nat} {lo : Int} {x : PyData}, x ∈ upto lo n → ∃ i : Int, x = .int i ∧ lo ≤ i ∧ i < lo + n
  | 0, lo, x, h => by simp [upto] at h
  | n + 1, lo, x, h => by
    simp only [upto, List.mem_cons] at h
    rcases h with rfl | h
    · exact ⟨lo, rfl, by omega, by omega⟩
    · obtain ⟨i, h1, h2, h3⟩ := upto_mem h
      exact ⟨i, h1, by omega, by omega⟩
theorem upto_eq : ∀ (n : Nat) (lo : Int), upto lo n = (List.range n).map fun i => PyData.int (lo + (i : Nat))
  | 0, _ => rfl
  | n + 1, lo => by
    rw [upto, upto_eq n (lo + 1), List.range_succ_eq_map, List.map_cons, List.map_map]
    congr 1
    · simp
    · refine List.map_congr_left fun i _ => ?_
      show PyData.int _ = PyData.int _
      congr 1
      simp only [Nat.succ_eq_add_one]
      omega
theorem walk_rng1 {n : Int} {h : Hs} (hf : far n = true) : walk .rng1 [.v (.d (.int n))] h = some (upto 0 n.toNat, yes) := by
  simp [walk, rng1W, hf]
theorem walk_rng2 {a b : Int} {h : Hs} (hf : far a = true) (hg : far b = true) : walk .rng2 [.v (.d (.int a)), .v (.d (.int b))] h = some (upto a (b - a).toNat, yes) := by
  simp [walk, rng2W, hf, hg]
@[simp] theorem walk_l {xs : List PyData} {h : Hs} : walk .plain [.v (.d (.list xs))] h = some (xs, yes) := rfl
@[simp] theorem walk_t {xs : List PyData} {h : Hs} : walk .plain [.v (.d (.tuple xs))] h = some (xs, yes) := rfl
@[simp] theorem walk_f {xs : List PyData} {h : Hs} : walk .plain [.fl xs] h = some (xs, yes) := rfl
@[simp] theorem walk_el {xs : List PyData} {h : Hs} : walk .enum [.v (.d (.list xs))] h = some (enumD xs 0, yes) := rfl
@[simp] theorem walk_et {xs : List PyData} {h : Hs} : walk .enum [.v (.d (.tuple xs))] h = some (enumD xs 0, yes) := rfl
@[simp] theorem walk_ef {xs : List PyData} {h : Hs} : walk .enum [.fl xs] h = some (enumD xs 0, yes) := rfl
@[simp] theorem walk_ztt {xs ys : List PyData} {h : Hs} : walk .zip [.v (.d (.tuple xs)), .v (.d (.tuple ys))] h = some (zipD xs ys, yes) := rfl
@[simp] theorem yes_t (h : Hs) : yes h = true := rfl
/-- an index within -/
theorem ixD_in {α : Type} {xs : List α} {i : Int} (h0 : 0 ≤ i) (h1 : i < xs.length) : ∃ x, ixD xs i = some x ∧ x ∈ xs := by
  obtain ⟨n, rfl⟩ := Int.eq_ofNat_of_zero_le h0
  have hn : n < xs.length := by omega
  exact ⟨xs[n], L2.atI_nat (List.getElem?_eq_getElem hn), List.getElem_mem hn⟩
theorem ixD_nat {α : Type} {xs : List α} {n : Nat} {x : α} (h : xs[n]? = some x) : ixD xs (n : Int) = some x := L2.atI_nat h
/-- an index drawn -/
theorem ixD_mod {α : Type} {xs : List α} {n f : Int} (hf : f = xs.length) (h0 : 0 < f) : ∃ x, ixD xs (n % f) = some x ∧ x ∈ xs :=
  ixD_in (Int.emod_nonneg _ (by omega)) (by rw [← hf]; exact Int.emod_lt_of_pos _ h0)
end Mi
namespace Mi
open PySem
/-! ### parts of a text -/
def S.nth : S → Nat → S
  | .seq a _, 0 => a
  | .seq _ r, n + 1 => r.nth n
  | s, _ => s
def S.forB : S → S
  | .for_ _ _ _ b => b
  | s => s
def S.forI : S → E
  | .for_ _ _ ie _ => ie
  | _ => .nil
/-- a loop's step -/
def loopB (C : Cf) (tg : Tg) (b : S) : PyData → Env → Hs → SRes := fun x env h => match aim tg x env with
  | some env => evalS C b env h
  | none => .bad
@[simp ↓] theorem evalS_for {C : Cf} {tg : Tg} {k : IK} {ie : E} {b : S} {env : Env} {h : Hs} : evalS C (.for_ tg k ie b) env h = ((evalL C ie env h).bind fun rs h => Res.of (walk k rs h) h).then env fun p h => forS (loopB C tg b) p.2 p.1 env h := by
  rw [evalS]
  rfl
@[simp ↓] theorem evalS_whl {C : Cf} {c : E} {b : S} {env : Env} {h : Hs} : evalS C (.whl c b) env h = whlS (evalT C c) (evalS C b) laps env h := by
  rw [evalS]
@[simp ↓] theorem evalE_lcB {C : Cf} {elt : E} {tg : Tg} {k : IK} {ie cond : E} {env : Env} {hs : Hs} : evalE C (.lc elt tg k ie cond) env hs = ((evalL C ie env hs).bind fun rs h => Res.of (walk k rs h) h).bind fun p h => (lcS (lcB C elt tg cond env) p.2 p.1 h).bind fun ys h => .ok (.fl ys) h := evalE_lc
@[simp] theorem alcR_v {i : Nat} {w : W} {env : Env} {h : Hs} : alcR i (.v w) env h = .nx (env.set i (some w)) h := rfl
@[simp] theorem alcR_fl {i : Nat} {xs : List PyData} {env : Env} {h : Hs} : alcR i (.fl xs) env h = .nx (env.set i (some (.r h.length))) (h ++ [.lst xs]) := rfl
@[simp] theorem putW_n {env : Env} : putW [] [] env = some env := rfl
@[simp] theorem putW_c {i : Nat} {is : List Nat} {w : W} {ws : List W} {env : Env} : putW (i :: is) (w :: ws) env = putW is ws (env.set i (some w)) := rfl
@[simp] theorem putAll_n {env : Env} : putAll [] [] env = some env := rfl
@[simp] theorem putAll_c {i : Nat} {is : List Nat} {x : PyData} {xs : List PyData} {env : Env} : putAll (i :: is) (x :: xs) env = putAll is xs (env.set i (some (.d x))) := rfl
theorem lstAt_r {n : Nat} {xs : List PyData} {h : Hs} (e : h[n]? = some (.lst xs)) : lstAt (.v (.r n)) h = true := by
  simp [lstAt, e]
theorem mut_app {n : Nat} {xs : List PyData} {x : PyData} {h : Hs} (e : h[n]? = some (.lst xs)) (hl : xs.length < line) : mutA .append (.v (.r n)) [.v (.d x)] h = .ok () (h.set n (.lst (xs ++ [x]))) := by
  have : xs.length < 16777216 := hl
  simp [mutA, mutR, lstR1, e, appR, this, R.data, setCell, look, line]
theorem loopB_nm {C : Cf} {i : Nat} {b : S} {x : PyData} {env : Env} {h : Hs} : loopB C (.nm i) b x env h = evalS C b (env.set i (some (.d x))) h := rfl
end Mi

namespace Rk
open PySem PySem.Spec PyProof.Rows L2 Mi
def topS (i : Nat) : Stmt := PySem.Challenge.pw_rooklands_k84_whole_partings.main.body.getD i (.Pass ⟨0, 0, 0, 0⟩)
abbrev c_RookError : Nat := 0
abbrev c_NoLines : Nat := 1
abbrev c_TooFew : Nat := 2
abbrev c_NoSize : Nat := 3
abbrev c_TooMany : Nat := 4
abbrev c_NoNumber : Nat := 5
abbrev c_NoStand : Nat := 6
abbrev c_NoParting : Nat := 7
abbrev c_all : Nat := 8
abbrev i_is_whole : Nat := 0
abbrev i_is_upto : Nat := 1
abbrev i_is_rising : Nat := 2
abbrev i_board_by : Nat := 3
abbrev i_is_some : Nat := 4
abbrev i_are_lines : Nat := 5
abbrev i_left_by : Nat := 6
abbrev i_without_lines : Nat := 7
abbrev i_are_apart : Nat := 8
abbrev i_are_cells : Nat := 9
abbrev i_is_stand : Nat := 10
abbrev i_greatest_size : Nat := 11
abbrev i_check_size : Nat := 12
abbrev i_counts : Nat := 13
abbrev i_bin_count : Nat := 14
abbrev i_all_from : Nat := 15
abbrev i_all_of : Nat := 16
abbrev i_stands_of : Nat := 17
abbrev i_check_things : Nat := 18
abbrev i_is_lot : Nat := 19
abbrev i_parts : Nat := 20
abbrev i_is_parting : Nat := 21
abbrev i_steps_of : Nat := 22
abbrev i_steps : Nat := 23
abbrev i_lot_from : Nat := 24
abbrev i_parting_of : Nat := 25
abbrev i_stand_of : Nat := 26
abbrev i_all_partings : Nat := 27
abbrev i_partings : Nat := 28
abbrev i_law_cell_at : Nat := 29
abbrev i_law_k84 : Nat := 30
def b_is_whole : S := (.seq (.ret (.and_ (.cons (.bi (.isi [.int]) (.cons (.var 0) .nil)) (.cons (.not_ (.bi (.isi [.bool]) (.cons (.var 0) .nil))) .nil)))) .skip)
def d_is_whole : Dd := ⟨"is_whole", topS 10, ["thing"], 1, b_is_whole, "is_whole"⟩
def b_is_upto : S := (.seq (.ret (.and_ (.cons (.call i_is_whole (.cons (.var 0) .nil)) (.cons (.chain .le .le (.var 1) (.var 0) (.var 2)) .nil)))) .skip)
def d_is_upto : Dd := ⟨"is_upto", topS 11, ["thing", "least", "most"], 3, b_is_upto, "is_upto"⟩
def b_is_rising : S := (.seq (.ret (.bi .all (.cons (.lc (.cmp .lt (.var 1) (.var 2)) (.tp [1, 2]) .zip (.cons (.var 0) (.cons (.slc (.var 0) (.cons (.cst (.int 1)) .nil) .nil) .nil)) .nil) .nil))) .skip)
def d_is_rising : Dd := ⟨"is_rising", topS 12, ["things", "one", "other"], 1, b_is_rising, "is_rising"⟩
def b_board_by : S := (.seq (.ret (.tup (.cons (.var 0) (.cons (.var 1) (.cons (.bi .tuple (.cons (.bi .sorted (.cons (.var 2) .nil)) .nil)) .nil))))) .skip)
def d_board_by : Dd := ⟨"board_by", topS 13, ["high", "wide", "cells"], 3, b_board_by, "board_by"⟩
def b_is_some : S := (.seq (.ret (.and_ (.cons (.bi (.isi [.tuple]) (.cons (.var 0) .nil)) (.cons (.bi .all (.cons (.lc (.call i_is_upto (.cons (.var 2) (.cons (.cst (.int 0)) (.cons (.bin .sub (.var 1) (.cst (.int 1))) .nil)))) (.nm 2) .plain (.cons (.var 0) .nil) .nil) .nil)) (.cons (.call i_is_rising (.cons (.var 0) .nil)) .nil))))) .skip)
def d_is_some : Dd := ⟨"is_some", topS 14, ["thing", "many", "one"], 2, b_is_some, "is_some"⟩
def b_are_lines : S := (.seq (.ifs (.or_ (.cons (.not_ (.bi (.isi [.tuple]) (.cons (.var 1) .nil))) (.cons (.cmp .ne (.bi .len (.cons (.var 1) .nil)) (.cst (.int 2))) .nil))) (.seq (.ret (.cst (.bool false))) .skip) .skip) (.seq (.ret (.and_ (.cons (.call i_is_some (.cons (.ix (.var 1) (.cst (.int 0))) (.cons (.ix (.var 0) (.cst (.int 0))) .nil))) (.cons (.call i_is_some (.cons (.ix (.var 1) (.cst (.int 1))) (.cons (.ix (.var 0) (.cst (.int 1))) .nil))) .nil)))) .skip))
def d_are_lines : Dd := ⟨"are_lines", topS 15, ["board", "thing"], 2, b_are_lines, "are_lines"⟩
def b_left_by : S := (.seq (.set 2 (.lc (.var 5) (.nm 5) .rng1 (.cons (.ix (.var 0) (.cst (.int 0))) .nil) (.cons (.cmp .nin (.var 5) (.ix (.var 1) (.cst (.int 0)))) .nil))) (.seq (.set 3 (.lc (.var 6) (.nm 6) .rng1 (.cons (.ix (.var 0) (.cst (.int 1))) .nil) (.cons (.cmp .nin (.var 6) (.ix (.var 1) (.cst (.int 1)))) .nil))) (.seq (.set 4 (.lc (.tup (.cons (.mt .index (.var 2) (.cons (.var 5) .nil)) (.cons (.mt .index (.var 3) (.cons (.var 6) .nil)) .nil))) (.tp [5, 6]) .plain (.cons (.ix (.var 0) (.cst (.int 2))) .nil) (.cons (.and_ (.cons (.cmp .inn (.var 5) (.var 2)) (.cons (.cmp .inn (.var 6) (.var 3)) .nil))) .nil))) (.seq (.ret (.call i_board_by (.cons (.bi .len (.cons (.var 2) .nil)) (.cons (.bi .len (.cons (.var 3) .nil)) (.cons (.var 4) .nil))))) .skip))))
def d_left_by : Dd := ⟨"left_by", topS 16, ["board", "lines", "rows", "columns", "cells", "row", "column"], 2, b_left_by, "left_by"⟩
def b_without_lines : S := (.seq (.ifs (.not_ (.call i_are_lines (.cons (.var 0) (.cons (.var 1) .nil)))) (.seq (.raise c_NoLines) .skip) .skip) (.seq (.ifs (.or_ (.cons (.cmp .eq (.bi .len (.cons (.ix (.var 1) (.cst (.int 0))) .nil)) (.ix (.var 0) (.cst (.int 0)))) (.cons (.cmp .eq (.bi .len (.cons (.ix (.var 1) (.cst (.int 1))) .nil)) (.ix (.var 0) (.cst (.int 1)))) .nil))) (.seq (.raise c_TooFew) .skip) .skip) (.seq (.ret (.call i_left_by (.cons (.var 0) (.cons (.var 1) .nil)))) .skip)))
def d_without_lines : Dd := ⟨"without_lines", topS 17, ["board", "lines"], 2, b_without_lines, "without_lines"⟩
def b_are_apart : S := (.seq (.set 1 (.lc (.var 3) (.tp [3, 4]) .plain (.cons (.var 0) .nil) .nil)) (.seq (.set 2 (.lc (.var 4) (.tp [3, 4]) .plain (.cons (.var 0) .nil) .nil)) (.seq (.ret (.and_ (.cons (.cmp .eq (.bi .lenSet (.cons (.var 1) .nil)) (.bi .len (.cons (.var 1) .nil))) (.cons (.cmp .eq (.bi .lenSet (.cons (.var 2) .nil)) (.bi .len (.cons (.var 2) .nil))) .nil)))) .skip)))
def d_are_apart : Dd := ⟨"are_apart", topS 20, ["cells", "rows", "columns", "row", "column"], 1, b_are_apart, "are_apart"⟩
def f0_are_cells : S := (.seq (.ifs (.or_ (.cons (.not_ (.bi (.isi [.tuple]) (.cons (.var 2) .nil))) (.cons (.not_ (.bi .all (.cons (.lc (.call i_is_whole (.cons (.var 3) .nil)) (.nm 3) .plain (.cons (.var 2) .nil) .nil) .nil))) (.cons (.cmp .nin (.var 2) (.ix (.var 0) (.cst (.int 2)))) .nil)))) (.seq (.ret (.cst (.bool false))) .skip) .skip) .skip)
def b_are_cells : S := (.seq (.ifs (.not_ (.bi (.isi [.tuple]) (.cons (.var 1) .nil))) (.seq (.ret (.cst (.bool false))) .skip) .skip) (.seq (.for_ (.nm 2) .plain (.cons (.var 1) .nil) f0_are_cells) (.seq (.ret (.call i_is_rising (.cons (.var 1) .nil))) .skip)))
def d_are_cells : Dd := ⟨"are_cells", topS 21, ["board", "thing", "cell", "one"], 2, b_are_cells, "are_cells"⟩
def b_is_stand : S := (.seq (.ret (.and_ (.cons (.call i_are_cells (.cons (.var 0) (.cons (.var 1) .nil))) (.cons (.call i_are_apart (.cons (.var 1) .nil)) .nil)))) .skip)
def d_is_stand : Dd := ⟨"is_stand", topS 22, ["board", "thing"], 2, b_is_stand, "is_stand"⟩
def b_greatest_size : S := (.seq (.ret (.bi .min2 (.cons (.ix (.var 0) (.cst (.int 0))) (.cons (.ix (.var 0) (.cst (.int 1))) .nil)))) .skip)
def d_greatest_size : Dd := ⟨"greatest_size", topS 23, ["board"], 1, b_greatest_size, "greatest_size"⟩
def b_check_size : S := (.seq (.ifs (.not_ (.call i_is_upto (.cons (.var 1) (.cons (.cst (.int 0)) (.cons (.call i_greatest_size (.cons (.var 0) .nil)) .nil))))) (.seq (.raise c_NoSize) .skip) .skip) .skip)
def d_check_size : Dd := ⟨"check_size", topS 24, ["board", "size"], 2, b_check_size, "check_size"⟩
def f3_counts : S := (.seq (.aug (.var 3) (.call i_bin_count (.cons (.var 4) .nil)) (.ix (.var 1) (.var 4))) .skip)
def f2_counts : S := (.seq (.ifs (.cmp .eq (.bin .band (.bin .shr (.var 4) (.var 7)) (.cst (.int 1))) (.cst (.int 0))) (.seq (.set 9 (.bin .bor (.var 4) (.bin .shl (.cst (.int 1)) (.var 7)))) (.seq (.sto (.var 6) (.var 9) (.bin .add (.mt .get (.var 6) (.cons (.var 9) (.cons (.cst (.int 0)) .nil))) (.ix (.var 1) (.var 4)))) .skip)) .skip) .skip)
def f1_counts : S := (.seq (.for_ (.nm 7) .plain (.cons (.var 5) .nil) f2_counts) .skip)
def f0_counts : S := (.seq (.set 5 (.lc (.var 7) (.tp [8, 7]) .plain (.cons (.ix (.var 0) (.cst (.int 2))) .nil) (.cons (.cmp .eq (.var 8) (.var 2)) .nil))) (.seq (.alc 6 (.bi .dict (.cons (.var 1) .nil))) (.seq (.fdk 1 4 f1_counts) (.seq (.set 1 (.var 6)) .skip))))
def b_counts : S := (.seq (.alc 1 (.dct (.cons (.cst (.int 0)) .nil) (.cons (.cst (.int 1)) .nil))) (.seq (.for_ (.nm 2) .rng1 (.cons (.ix (.var 0) (.cst (.int 0))) .nil) f0_counts) (.seq (.alc 3 (.bin .mul (.lst (.cons (.cst (.int 0)) .nil)) (.bin .add (.call i_greatest_size (.cons (.var 0) .nil)) (.cst (.int 1))))) (.seq (.fdk 1 4 f3_counts) (.seq (.ret (.var 3)) .skip)))))
def d_counts : Dd := ⟨"counts", topS 25, ["board", "ways", "row", "found", "taken", "columns", "later", "column", "line", "more"], 1, b_counts, "counts"⟩
def f0_bin_count : S := (.seq (.set 1 (.bin .add (.var 1) (.bin .mod (.var 0) (.cst (.int 2))))) (.seq (.set 0 (.bin .fdiv (.var 0) (.cst (.int 2)))) .skip))
def b_bin_count : S := (.seq (.set 1 (.cst (.int 0))) (.seq (.whl (.cmp .gt (.var 0) (.cst (.int 0))) f0_bin_count) (.seq (.ret (.var 1)) .skip)))
def d_bin_count : Dd := ⟨"bin_count", topS 26, ["number", "found"], 1, b_bin_count, "bin_count"⟩
def f0_all_from : S := (.seq (.set 6 (.lc (.var 7) (.nm 7) .plain (.cons (.slc (.var 0) (.cons (.bin .add (.var 4) (.cst (.int 1))) .nil) .nil) .nil) (.cons (.and_ (.cons (.cmp .ne (.ix (.var 7) (.cst (.int 0))) (.ix (.var 5) (.cst (.int 0)))) (.cons (.cmp .ne (.ix (.var 7) (.cst (.int 1))) (.ix (.var 5) (.cst (.int 1)))) .nil))) .nil))) (.seq (.ifs (.cmp .ge (.bi .len (.cons (.var 6) .nil)) (.bin .sub (.var 1) (.cst (.int 1)))) (.seq (.mut .extend (.var 3) (.cons (.call i_all_from (.cons (.var 6) (.cons (.bin .sub (.var 1) (.cst (.int 1))) (.cons (.bin .add (.var 2) (.tup (.cons (.var 5) .nil))) .nil)))) .nil)) .skip) .skip) .skip))
def b_all_from : S := (.seq (.ifs (.cmp .eq (.var 1) (.cst (.int 0))) (.seq (.ret (.lst (.cons (.var 2) .nil))) .skip) .skip) (.seq (.alc 3 (.lst .nil)) (.seq (.for_ (.tp [4, 5]) .enum (.cons (.var 0) .nil) f0_all_from) (.seq (.ret (.var 3)) .skip))))
def d_all_from : Dd := ⟨"all_from", topS 27, ["cells", "size", "begun", "found", "at", "cell", "later", "other"], 3, b_all_from, "all_from"⟩
def b_all_of : S := (.seq (.ret (.call i_all_from (.cons (.bi .list (.cons (.ix (.var 0) (.cst (.int 2))) .nil)) (.cons (.var 1) (.cons (.tup .nil) .nil))))) .skip)
def d_all_of : Dd := ⟨"all_of", topS 28, ["board", "size"], 2, b_all_of, "all_of"⟩
def b_stands_of : S := (.seq (.ex (.call i_check_size (.cons (.var 0) (.cons (.var 1) .nil)))) (.seq (.ifs (.cmp .gt (.ix (.call i_counts (.cons (.var 0) .nil)) (.var 1)) (.gc "MOST_LISTED" (.int 300))) (.seq (.raise c_TooMany) .skip) .skip) (.seq (.ret (.call i_all_of (.cons (.var 0) (.cons (.var 1) .nil)))) .skip)))
def d_stands_of : Dd := ⟨"stands_of", topS 29, ["board", "size"], 2, b_stands_of, "stands_of"⟩
def b_check_things : S := (.seq (.ifs (.not_ (.call i_is_upto (.cons (.var 0) (.cons (.cst (.int 1)) (.cons (.gc "MOST_THINGS" (.int 6)) .nil))))) (.seq (.raise c_NoNumber) .skip) .skip) .skip)
def d_check_things : Dd := ⟨"check_things", topS 32, ["n"], 1, b_check_things, "check_things"⟩
def b_is_lot : S := (.seq (.ifs (.or_ (.cons (.not_ (.bi (.isi [.tuple]) (.cons (.var 0) .nil))) (.cons (.cmp .eq (.var 0) (.tup .nil)) .nil))) (.seq (.ret (.cst (.bool false))) .skip) .skip) (.seq (.ret (.and_ (.cons (.bi .all (.cons (.lc (.call i_is_upto (.cons (.var 2) (.cons (.cst (.int 0)) (.cons (.bin .sub (.var 1) (.cst (.int 1))) .nil)))) (.nm 2) .plain (.cons (.var 0) .nil) .nil) .nil)) (.cons (.call i_is_rising (.cons (.var 0) .nil)) .nil)))) .skip))
def d_is_lot : Dd := ⟨"is_lot", topS 33, ["thing", "n", "one"], 2, b_is_lot, "is_lot"⟩
def f0_parts : S := (.seq (.mut .extend (.var 2) (.cons (.var 3) .nil)) .skip)
def b_parts : S := (.seq (.ifs (.or_ (.cons (.not_ (.bi (.isi [.tuple]) (.cons (.var 1) .nil))) (.cons (.not_ (.bi .all (.cons (.lc (.call i_is_lot (.cons (.var 3) (.cons (.var 0) .nil))) (.nm 3) .plain (.cons (.var 1) .nil) .nil) .nil))) .nil))) (.seq (.ret (.cst (.bool false))) .skip) .skip) (.seq (.alc 2 (.lst .nil)) (.seq (.for_ (.nm 3) .plain (.cons (.var 1) .nil) f0_parts) (.seq (.ret (.and_ (.cons (.cmp .eq (.bi .sorted (.cons (.var 2) .nil)) (.bi .listRng (.cons (.var 0) .nil))) (.cons (.call i_is_rising (.cons (.lc (.ix (.var 3) (.cst (.int 0))) (.nm 3) .plain (.cons (.var 1) .nil) .nil) .nil)) .nil)))) .skip))))
def d_parts : Dd := ⟨"parts", topS 34, ["n", "thing", "found", "lot"], 2, b_parts, "parts"⟩
def b_is_parting : S := (.seq (.ex (.call i_check_things (.cons (.var 0) .nil))) (.seq (.ret (.call i_parts (.cons (.var 0) (.cons (.var 1) .nil)))) .skip))
def d_is_parting : Dd := ⟨"is_parting", topS 35, ["n", "thing"], 2, b_is_parting, "is_parting"⟩
def f0_steps_of : S := (.seq (.mut .extend (.var 1) (.cons (.lc (.tup (.cons (.var 2) (.cons (.var 3) .nil))) (.nm 3) .rng1 (.cons (.var 2) .nil) .nil) .nil)) .skip)
def b_steps_of : S := (.seq (.alc 1 (.lst .nil)) (.seq (.for_ (.nm 2) .rng1 (.cons (.var 0) .nil) f0_steps_of) (.seq (.ret (.call i_board_by (.cons (.var 0) (.cons (.var 0) (.cons (.var 1) .nil))))) .skip)))
def d_steps_of : Dd := ⟨"steps_of", topS 36, ["n", "cells", "row", "column"], 1, b_steps_of, "steps_of"⟩
def b_steps : S := (.seq (.ex (.call i_check_things (.cons (.var 0) .nil))) (.seq (.ret (.call i_steps_of (.cons (.var 0) .nil))) .skip))
def d_steps : Dd := ⟨"steps", topS 37, ["n"], 1, b_steps, "steps"⟩
def f0_lot_from : S := (.seq (.mut .append (.var 2) (.cons (.ix (.var 1) (.ix (.var 2) (.neg (.cst (.int 1))))) .nil)) .skip)
def b_lot_from : S := (.seq (.alc 2 (.lst (.cons (.var 0) .nil))) (.seq (.whl (.cmp .inn (.ix (.var 2) (.neg (.cst (.int 1)))) (.var 1)) f0_lot_from) (.seq (.ret (.bi .tuple (.cons (.var 2) .nil))) .skip)))
def d_lot_from : Dd := ⟨"lot_from", topS 38, ["first", "later", "found"], 2, b_lot_from, "lot_from"⟩
def b_parting_of : S := (.seq (.ex (.call i_check_things (.cons (.var 0) .nil))) (.seq (.ifs (.not_ (.call i_is_stand (.cons (.call i_steps_of (.cons (.var 0) .nil)) (.cons (.var 1) .nil)))) (.seq (.raise c_NoStand) .skip) .skip) (.seq (.alc 2 (.bi .dict (.cons (.lc (.tup (.cons (.var 5) (.cons (.var 4) .nil))) (.tp [4, 5]) .plain (.cons (.var 1) .nil) .nil) .nil))) (.seq (.set 3 (.lc (.var 4) (.tp [4, 5]) .plain (.cons (.var 1) .nil) .nil)) (.seq (.ret (.bi .tuple (.cons (.lc (.call i_lot_from (.cons (.var 6) (.cons (.var 2) .nil))) (.nm 6) .rng1 (.cons (.var 0) .nil) (.cons (.cmp .nin (.var 6) (.var 3)) .nil)) .nil))) .skip)))))
def d_parting_of : Dd := ⟨"parting_of", topS 39, ["n", "stand", "later", "rows", "row", "column", "thing"], 2, b_parting_of, "parting_of"⟩
def f0_stand_of : S := (.seq (.mut .extend (.var 2) (.cons (.lc (.tup (.cons (.var 5) (.cons (.var 4) .nil))) (.tp [4, 5]) .zip (.cons (.var 3) (.cons (.slc (.var 3) (.cons (.cst (.int 1)) .nil) .nil) .nil)) .nil) .nil)) .skip)
def b_stand_of : S := (.seq (.ex (.call i_check_things (.cons (.var 0) .nil))) (.seq (.ifs (.not_ (.call i_parts (.cons (.var 0) (.cons (.var 1) .nil)))) (.seq (.raise c_NoParting) .skip) .skip) (.seq (.alc 2 (.lst .nil)) (.seq (.for_ (.nm 3) .plain (.cons (.var 1) .nil) f0_stand_of) (.seq (.ret (.bi .tuple (.cons (.bi .sorted (.cons (.var 2) .nil)) .nil))) .skip)))))
def d_stand_of : Dd := ⟨"stand_of", topS 40, ["n", "parting", "found", "lot", "early", "later"], 2, b_stand_of, "stand_of"⟩
def f2_all_partings : S := (.seq (.mut .append (.var 3) (.cons (.bin .add (.bin .add (.slc (.var 4) .nil (.cons (.var 5) .nil)) (.tup (.cons (.bin .add (.ix (.var 4) (.var 5)) (.tup (.cons (.var 2) .nil))) .nil))) (.slc (.var 4) (.cons (.bin .add (.var 5) (.cst (.int 1))) .nil) .nil)) .nil)) .skip)
def f1_all_partings : S := (.seq (.mut .append (.var 3) (.cons (.bin .add (.var 4) (.tup (.cons (.tup (.cons (.var 2) .nil)) .nil))) .nil)) (.seq (.for_ (.nm 5) .rng1 (.cons (.bi .len (.cons (.var 4) .nil)) .nil) f2_all_partings) .skip))
def f0_all_partings : S := (.seq (.alc 3 (.lst .nil)) (.seq (.for_ (.nm 4) .plain (.cons (.var 1) .nil) f1_all_partings) (.seq (.set 1 (.var 3)) .skip)))
def b_all_partings : S := (.seq (.alc 1 (.lst (.cons (.tup .nil) .nil))) (.seq (.for_ (.nm 2) .rng1 (.cons (.var 0) .nil) f0_all_partings) (.seq (.ret (.bi .sorted (.cons (.var 1) .nil))) .skip)))
def d_all_partings : Dd := ⟨"all_partings", topS 41, ["n", "found", "thing", "longer", "parting", "at"], 1, b_all_partings, "all_partings"⟩
def b_partings : S := (.seq (.ex (.call i_check_things (.cons (.var 0) .nil))) (.seq (.ifs (.not_ (.call i_is_upto (.cons (.var 1) (.cons (.cst (.int 1)) (.cons (.var 0) .nil))))) (.seq (.raise c_NoSize) .skip) .skip) (.seq (.ret (.lc (.var 2) (.nm 2) .plain (.cons (.call i_all_partings (.cons (.var 0) .nil)) .nil) (.cons (.cmp .eq (.bi .len (.cons (.var 2) .nil)) (.var 1)) .nil))) .skip)))
def d_partings : Dd := ⟨"partings", topS 42, ["n", "many", "parting"], 2, b_partings, "partings"⟩
def b_law_cell_at : S := (.seq (.ifs (.cmp .lt (.var 1) (.bi .len (.cons (.var 0) .nil))) (.seq (.ret (.ix (.var 0) (.var 1))) .skip) .skip) (.seq (.ret (.cst (.int 0))) .skip))
def d_law_cell_at : Dd := ⟨"_law_cell_at", topS 44, ["_law_script", "_law_k"], 2, b_law_cell_at, "_law_cell_at"⟩
def f1_law_k84 : S := (.seq (.ifs (.or_ (.cons (.not_ (.call i_is_parting (.cons (.var 1) (.cons (.var 8) .nil)))) (.cons (.cmp .ne (.bi .len (.cons (.var 8) .nil)) (.bin .sub (.var 1) (.var 4))) (.cons (.cmp .ne (.bi .len (.cons (.var 9) .nil)) (.var 4)) .nil)))) (.seq (.ret (.cst (.bool false))) .skip) .skip) (.seq (.ifs (.or_ (.cons (.not_ (.call i_is_stand (.cons (.var 2) (.cons (.var 9) .nil)))) (.cons (.cmp .ne (.call i_parting_of (.cons (.var 1) (.cons (.var 9) .nil))) (.var 8)) .nil))) (.seq (.ret (.cst (.bool false))) .skip) .skip) .skip))
def f0_law_k84 : S := (.seq (.set 6 (.call i_partings (.cons (.var 1) (.cons (.bin .sub (.var 1) (.var 4)) .nil)))) (.seq (.set 7 (.lc (.call i_stand_of (.cons (.var 1) (.cons (.var 8) .nil))) (.nm 8) .plain (.cons (.var 6) .nil) .nil)) (.seq (.ifs (.or_ (.cons (.cmp .ne (.bi .len (.cons (.var 6) .nil)) (.ix (.var 3) (.var 4))) (.cons (.cmp .ne (.var 6) (.bi .sortedSet (.cons (.var 6) .nil))) .nil))) (.seq (.ret (.cst (.bool false))) .skip) .skip) (.seq (.for_ (.tp [8, 9]) .zip (.cons (.var 6) (.cons (.var 7) .nil)) f1_law_k84) (.seq (.ifs (.cmp .ne (.bi .sorted (.cons (.var 7) .nil)) (.call i_stands_of (.cons (.var 2) (.cons (.var 4) .nil)))) (.seq (.ret (.cst (.bool false))) .skip) .skip) .skip)))))
def b_law_k84 : S := (.seq (.set 1 (.bin .add (.cst (.int 1)) (.bin .mod (.call i_law_cell_at (.cons (.var 0) (.cons (.cst (.int 0)) .nil))) (.cst (.int 6))))) (.seq (.set 2 (.call i_steps (.cons (.var 1) .nil))) (.seq (.set 3 (.call i_counts (.cons (.var 2) .nil))) (.seq (.for_ (.nm 4) .rng1 (.cons (.var 1) .nil) f0_law_k84) (.seq (.ifs (.or_ (.cons (.cmp .ne (.ix (.var 3) (.var 1)) (.cst (.int 0))) (.cons (.cmp .eq (.var 1) (.cst (.int 1))) .nil))) (.seq (.ret (.cmp .eq (.ix (.var 3) (.var 1)) (.cst (.int 0)))) .skip) .skip) (.seq (.ifs (.cmp .ne (.call i_without_lines (.cons (.var 2) (.cons (.tup (.cons (.tup (.cons (.bin .sub (.var 1) (.cst (.int 1))) .nil)) (.cons (.tup (.cons (.bin .sub (.var 1) (.cst (.int 1))) .nil)) .nil))) .nil))) (.call i_steps (.cons (.bin .sub (.var 1) (.cst (.int 1))) .nil))) (.seq (.ret (.cst (.bool false))) .skip) .skip) (.seq (.set 5 (.call i_counts (.cons (.call i_steps (.cons (.bin .sub (.var 1) (.cst (.int 1))) .nil)) .nil))) (.seq (.ret (.bi .all (.cons (.lc (.cmp .eq (.ix (.var 3) (.var 4)) (.bin .add (.ix (.var 5) (.var 4)) (.bin .mul (.bin .sub (.var 1) (.var 4)) (.ix (.var 5) (.bin .sub (.var 4) (.cst (.int 1))))))) (.nm 4) .rng2 (.cons (.cst (.int 1)) (.cons (.var 1) .nil)) .nil) .nil))) .skip))))))))
def d_law_k84 : Dd := ⟨"law", topS 45, ["_law_script", "_law_n", "_law_board", "_law_many", "_law_size", "_law_less", "_law_some", "_law_stands", "_law_parting", "_law_stand"], 1, b_law_k84, "law"⟩
def tab : List Dd := [d_is_whole, d_is_upto, d_is_rising, d_board_by, d_is_some, d_are_lines, d_left_by, d_without_lines, d_are_apart, d_are_cells, d_is_stand, d_greatest_size, d_check_size, d_counts, d_bin_count, d_all_from, d_all_of, d_stands_of, d_check_things, d_is_lot, d_parts, d_is_parting, d_steps_of, d_steps, d_lot_from, d_parting_of, d_stand_of, d_all_partings, d_partings, d_law_cell_at, d_law_k84]
def T : Tb := tabT tab
theorem t_is_whole : T i_is_whole = some ⟨1, 1, b_is_whole⟩ := rfl
theorem t_is_upto : T i_is_upto = some ⟨3, 3, b_is_upto⟩ := rfl
theorem t_is_rising : T i_is_rising = some ⟨1, 3, b_is_rising⟩ := rfl
theorem t_board_by : T i_board_by = some ⟨3, 3, b_board_by⟩ := rfl
theorem t_is_some : T i_is_some = some ⟨2, 3, b_is_some⟩ := rfl
theorem t_are_lines : T i_are_lines = some ⟨2, 2, b_are_lines⟩ := rfl
theorem t_left_by : T i_left_by = some ⟨2, 7, b_left_by⟩ := rfl
theorem t_without_lines : T i_without_lines = some ⟨2, 2, b_without_lines⟩ := rfl
theorem t_are_apart : T i_are_apart = some ⟨1, 5, b_are_apart⟩ := rfl
theorem t_are_cells : T i_are_cells = some ⟨2, 4, b_are_cells⟩ := rfl
theorem t_is_stand : T i_is_stand = some ⟨2, 2, b_is_stand⟩ := rfl
theorem t_greatest_size : T i_greatest_size = some ⟨1, 1, b_greatest_size⟩ := rfl
theorem t_check_size : T i_check_size = some ⟨2, 2, b_check_size⟩ := rfl
theorem t_counts : T i_counts = some ⟨1, 10, b_counts⟩ := rfl
theorem t_bin_count : T i_bin_count = some ⟨1, 2, b_bin_count⟩ := rfl
theorem t_all_from : T i_all_from = some ⟨3, 8, b_all_from⟩ := rfl
theorem t_all_of : T i_all_of = some ⟨2, 2, b_all_of⟩ := rfl
theorem t_stands_of : T i_stands_of = some ⟨2, 2, b_stands_of⟩ := rfl
theorem t_check_things : T i_check_things = some ⟨1, 1, b_check_things⟩ := rfl
theorem t_is_lot : T i_is_lot = some ⟨2, 3, b_is_lot⟩ := rfl
theorem t_parts : T i_parts = some ⟨2, 4, b_parts⟩ := rfl
theorem t_is_parting : T i_is_parting = some ⟨2, 2, b_is_parting⟩ := rfl
theorem t_steps_of : T i_steps_of = some ⟨1, 4, b_steps_of⟩ := rfl
theorem t_steps : T i_steps = some ⟨1, 1, b_steps⟩ := rfl
theorem t_lot_from : T i_lot_from = some ⟨2, 3, b_lot_from⟩ := rfl
theorem t_parting_of : T i_parting_of = some ⟨2, 7, b_parting_of⟩ := rfl
theorem t_stand_of : T i_stand_of = some ⟨2, 6, b_stand_of⟩ := rfl
theorem t_all_partings : T i_all_partings = some ⟨1, 6, b_all_partings⟩ := rfl
theorem t_partings : T i_partings = some ⟨2, 3, b_partings⟩ := rfl
theorem t_law_cell_at : T i_law_cell_at = some ⟨2, 2, b_law_cell_at⟩ := rfl
theorem t_law_k84 : T i_law_k84 = some ⟨1, 10, b_law_k84⟩ := rfl
def cls : List (Option Str) := [none, some "NoLines", some "TooFew", some "NoSize", some "TooMany", some "NoNumber", some "NoStand", some "NoParting"]
def cvs : List (Str × PyData) := [("MOST_LISTED", (.int 300)), ("MOST_THINGS", (.int 6))]
def bts : List Str := ["all", "bool", "dict", "enumerate", "int", "isinstance", "len", "list", "min", "range", "set", "sorted", "tuple", "zip"]
def g (ca : Nat → Addr) : Mi.Ctx := { fn := fun f => (tab[f]?).map Dd.name, cls := fun c => (cls[c]?).join, cv := fun x => cvs.lookup x, bt := bts, ca := ca, hot := [] }
def addr (l : List (Option Addr)) (c : Nat) : Addr := ((l[c]?).join).getD 0
set_option maxHeartbeats 0 in
theorem chk (ca : Nat → Addr) : (tab.all fun d => chkD (g ca) d) = true := by kernel_rfl
section
variable {K : PySem.W.Frag} {h : Heap} {mg : Str → Option Value}
theorem facts (X : K.In h) (G : h.Ns mainGlobals mg)
    {f0 f1 f2 f3 f4 f5 f6 f7 f8 f9 f10 f11 f12 f13 f14 f15 f16 f17 f18 f19 f20 f21 f22 f23 f24 f25 f26 f27 f28 f29 f30 : Addr} {q1 q2 q3 q4 q5 q6 q7 : Addr}
    {od0 an0 od1 an1 od2 an2 od3 an3 od4 an4 od5 an5 od6 an6 od7 an7 od8 an8 od9 an9 od10 an10 od11 an11 od12 an12 od13 an13 od14 an14 od15 an15 od16 an16 od17 an17 od18 an18 od19 an19 od20 an20 od21 an21 od22 an22 od23 an23 od24 an24 od25 an25 od26 an26 od27 an27 od28 an28 od29 an29 od30 an30 : Option Addr}
    {sl0 sl1 sl2 sl3 sl4 sl5 sl6 sl7 sl8 sl9 sl10 sl11 sl12 sl13 sl14 sl15 sl16 sl17 sl18 sl19 sl20 sl21 sl22 sl23 sl24 sl25 sl26 sl27 sl28 sl29 sl30 : Array (Option Value)}
    {oc0 kV0 dc0 pm0 cd0 ct0 oc1 kV1 dc1 pm1 cd1 ct1 oc2 kV2 dc2 pm2 cd2 ct2 oc3 kV3 dc3 pm3 cd3 ct3 oc4 kV4 dc4 pm4 cd4 ct4 oc5 kV5 dc5 pm5 cd5 ct5 oc6 kV6 dc6 pm6 cd6 ct6 oc7 kV7 dc7 pm7 cd7 ct7 oc8 kV8 dc8 pm8 cd8 ct8 oc9 kV9 dc9 pm9 cd9 ct9 oc10 kV10 dc10 pm10 cd10 ct10 oc11 kV11 dc11 pm11 cd11 ct11 oc12 kV12 dc12 pm12 cd12 ct12 oc13 kV13 dc13 pm13 cd13 ct13 oc14 kV14 dc14 pm14 cd14 ct14 oc15 kV15 dc15 pm15 cd15 ct15 oc16 kV16 dc16 pm16 cd16 ct16 oc17 kV17 dc17 pm17 cd17 ct17 oc18 kV18 dc18 pm18 cd18 ct18 oc19 kV19 dc19 pm19 cd19 ct19 oc20 kV20 dc20 pm20 cd20 ct20 oc21 kV21 dc21 pm21 cd21 ct21 oc22 kV22 dc22 pm22 cd22 ct22 oc23 kV23 dc23 pm23 cd23 ct23 oc24 kV24 dc24 pm24 cd24 ct24 oc25 kV25 dc25 pm25 cd25 ct25 oc26 kV26 dc26 pm26 cd26 ct26 oc27 kV27 dc27 pm27 cd27 ct27 oc28 kV28 dc28 pm28 cd28 ct28 oc29 kV29 dc29 pm29 cd29 ct29 oc30 kV30 dc30 pm30 cd30 ct30 : Value}
    {u0 u1 : Value}
    (a0 : PySem.W.nsIn K mainGlobals "is_whole" = some (some (.ref f0))) (l0 : K.lookup f0 = some ⟨oc0, od0, .func (PySem.W.fnOf "is_whole" "is_whole" (defArgs (topS 10)) (defBody (topS 10)) (defScope (topS 10)) .none kV0 dc0 pm0 an0 cd0 ct0), sl0⟩) (c0 : PySem.W.codeIn K cd0 "is_whole" = true) (k0 : PySem.W.keepIn K (.ref f0) = true)
    (a1 : PySem.W.nsIn K mainGlobals "is_upto" = some (some (.ref f1))) (l1 : K.lookup f1 = some ⟨oc1, od1, .func (PySem.W.fnOf "is_upto" "is_upto" (defArgs (topS 11)) (defBody (topS 11)) (defScope (topS 11)) .none kV1 dc1 pm1 an1 cd1 ct1), sl1⟩) (c1 : PySem.W.codeIn K cd1 "is_upto" = true) (k1 : PySem.W.keepIn K (.ref f1) = true)
    (a2 : PySem.W.nsIn K mainGlobals "is_rising" = some (some (.ref f2))) (l2 : K.lookup f2 = some ⟨oc2, od2, .func (PySem.W.fnOf "is_rising" "is_rising" (defArgs (topS 12)) (defBody (topS 12)) (defScope (topS 12)) .none kV2 dc2 pm2 an2 cd2 ct2), sl2⟩) (c2 : PySem.W.codeIn K cd2 "is_rising" = true) (k2 : PySem.W.keepIn K (.ref f2) = true)
    (a3 : PySem.W.nsIn K mainGlobals "board_by" = some (some (.ref f3))) (l3 : K.lookup f3 = some ⟨oc3, od3, .func (PySem.W.fnOf "board_by" "board_by" (defArgs (topS 13)) (defBody (topS 13)) (defScope (topS 13)) .none kV3 dc3 pm3 an3 cd3 ct3), sl3⟩) (c3 : PySem.W.codeIn K cd3 "board_by" = true) (k3 : PySem.W.keepIn K (.ref f3) = true)
    (a4 : PySem.W.nsIn K mainGlobals "is_some" = some (some (.ref f4))) (l4 : K.lookup f4 = some ⟨oc4, od4, .func (PySem.W.fnOf "is_some" "is_some" (defArgs (topS 14)) (defBody (topS 14)) (defScope (topS 14)) .none kV4 dc4 pm4 an4 cd4 ct4), sl4⟩) (c4 : PySem.W.codeIn K cd4 "is_some" = true) (k4 : PySem.W.keepIn K (.ref f4) = true)
    (a5 : PySem.W.nsIn K mainGlobals "are_lines" = some (some (.ref f5))) (l5 : K.lookup f5 = some ⟨oc5, od5, .func (PySem.W.fnOf "are_lines" "are_lines" (defArgs (topS 15)) (defBody (topS 15)) (defScope (topS 15)) .none kV5 dc5 pm5 an5 cd5 ct5), sl5⟩) (c5 : PySem.W.codeIn K cd5 "are_lines" = true) (k5 : PySem.W.keepIn K (.ref f5) = true)
    (a6 : PySem.W.nsIn K mainGlobals "left_by" = some (some (.ref f6))) (l6 : K.lookup f6 = some ⟨oc6, od6, .func (PySem.W.fnOf "left_by" "left_by" (defArgs (topS 16)) (defBody (topS 16)) (defScope (topS 16)) .none kV6 dc6 pm6 an6 cd6 ct6), sl6⟩) (c6 : PySem.W.codeIn K cd6 "left_by" = true) (k6 : PySem.W.keepIn K (.ref f6) = true)
    (a7 : PySem.W.nsIn K mainGlobals "without_lines" = some (some (.ref f7))) (l7 : K.lookup f7 = some ⟨oc7, od7, .func (PySem.W.fnOf "without_lines" "without_lines" (defArgs (topS 17)) (defBody (topS 17)) (defScope (topS 17)) .none kV7 dc7 pm7 an7 cd7 ct7), sl7⟩) (c7 : PySem.W.codeIn K cd7 "without_lines" = true) (k7 : PySem.W.keepIn K (.ref f7) = true)
    (a8 : PySem.W.nsIn K mainGlobals "are_apart" = some (some (.ref f8))) (l8 : K.lookup f8 = some ⟨oc8, od8, .func (PySem.W.fnOf "are_apart" "are_apart" (defArgs (topS 20)) (defBody (topS 20)) (defScope (topS 20)) .none kV8 dc8 pm8 an8 cd8 ct8), sl8⟩) (c8 : PySem.W.codeIn K cd8 "are_apart" = true) (k8 : PySem.W.keepIn K (.ref f8) = true)
    (a9 : PySem.W.nsIn K mainGlobals "are_cells" = some (some (.ref f9))) (l9 : K.lookup f9 = some ⟨oc9, od9, .func (PySem.W.fnOf "are_cells" "are_cells" (defArgs (topS 21)) (defBody (topS 21)) (defScope (topS 21)) .none kV9 dc9 pm9 an9 cd9 ct9), sl9⟩) (c9 : PySem.W.codeIn K cd9 "are_cells" = true) (k9 : PySem.W.keepIn K (.ref f9) = true)
    (a10 : PySem.W.nsIn K mainGlobals "is_stand" = some (some (.ref f10))) (l10 : K.lookup f10 = some ⟨oc10, od10, .func (PySem.W.fnOf "is_stand" "is_stand" (defArgs (topS 22)) (defBody (topS 22)) (defScope (topS 22)) .none kV10 dc10 pm10 an10 cd10 ct10), sl10⟩) (c10 : PySem.W.codeIn K cd10 "is_stand" = true) (k10 : PySem.W.keepIn K (.ref f10) = true)
    (a11 : PySem.W.nsIn K mainGlobals "greatest_size" = some (some (.ref f11))) (l11 : K.lookup f11 = some ⟨oc11, od11, .func (PySem.W.fnOf "greatest_size" "greatest_size" (defArgs (topS 23)) (defBody (topS 23)) (defScope (topS 23)) .none kV11 dc11 pm11 an11 cd11 ct11), sl11⟩) (c11 : PySem.W.codeIn K cd11 "greatest_size" = true) (k11 : PySem.W.keepIn K (.ref f11) = true)
    (a12 : PySem.W.nsIn K mainGlobals "check_size" = some (some (.ref f12))) (l12 : K.lookup f12 = some ⟨oc12, od12, .func (PySem.W.fnOf "check_size" "check_size" (defArgs (topS 24)) (defBody (topS 24)) (defScope (topS 24)) .none kV12 dc12 pm12 an12 cd12 ct12), sl12⟩) (c12 : PySem.W.codeIn K cd12 "check_size" = true) (k12 : PySem.W.keepIn K (.ref f12) = true)
    (a13 : PySem.W.nsIn K mainGlobals "counts" = some (some (.ref f13))) (l13 : K.lookup f13 = some ⟨oc13, od13, .func (PySem.W.fnOf "counts" "counts" (defArgs (topS 25)) (defBody (topS 25)) (defScope (topS 25)) .none kV13 dc13 pm13 an13 cd13 ct13), sl13⟩) (c13 : PySem.W.codeIn K cd13 "counts" = true) (k13 : PySem.W.keepIn K (.ref f13) = true)
    (a14 : PySem.W.nsIn K mainGlobals "bin_count" = some (some (.ref f14))) (l14 : K.lookup f14 = some ⟨oc14, od14, .func (PySem.W.fnOf "bin_count" "bin_count" (defArgs (topS 26)) (defBody (topS 26)) (defScope (topS 26)) .none kV14 dc14 pm14 an14 cd14 ct14), sl14⟩) (c14 : PySem.W.codeIn K cd14 "bin_count" = true) (k14 : PySem.W.keepIn K (.ref f14) = true)
    (a15 : PySem.W.nsIn K mainGlobals "all_from" = some (some (.ref f15))) (l15 : K.lookup f15 = some ⟨oc15, od15, .func (PySem.W.fnOf "all_from" "all_from" (defArgs (topS 27)) (defBody (topS 27)) (defScope (topS 27)) .none kV15 dc15 pm15 an15 cd15 ct15), sl15⟩) (c15 : PySem.W.codeIn K cd15 "all_from" = true) (k15 : PySem.W.keepIn K (.ref f15) = true)
    (a16 : PySem.W.nsIn K mainGlobals "all_of" = some (some (.ref f16))) (l16 : K.lookup f16 = some ⟨oc16, od16, .func (PySem.W.fnOf "all_of" "all_of" (defArgs (topS 28)) (defBody (topS 28)) (defScope (topS 28)) .none kV16 dc16 pm16 an16 cd16 ct16), sl16⟩) (c16 : PySem.W.codeIn K cd16 "all_of" = true) (k16 : PySem.W.keepIn K (.ref f16) = true)
    (a17 : PySem.W.nsIn K mainGlobals "stands_of" = some (some (.ref f17))) (l17 : K.lookup f17 = some ⟨oc17, od17, .func (PySem.W.fnOf "stands_of" "stands_of" (defArgs (topS 29)) (defBody (topS 29)) (defScope (topS 29)) .none kV17 dc17 pm17 an17 cd17 ct17), sl17⟩) (c17 : PySem.W.codeIn K cd17 "stands_of" = true) (k17 : PySem.W.keepIn K (.ref f17) = true)
    (a18 : PySem.W.nsIn K mainGlobals "check_things" = some (some (.ref f18))) (l18 : K.lookup f18 = some ⟨oc18, od18, .func (PySem.W.fnOf "check_things" "check_things" (defArgs (topS 32)) (defBody (topS 32)) (defScope (topS 32)) .none kV18 dc18 pm18 an18 cd18 ct18), sl18⟩) (c18 : PySem.W.codeIn K cd18 "check_things" = true) (k18 : PySem.W.keepIn K (.ref f18) = true)
    (a19 : PySem.W.nsIn K mainGlobals "is_lot" = some (some (.ref f19))) (l19 : K.lookup f19 = some ⟨oc19, od19, .func (PySem.W.fnOf "is_lot" "is_lot" (defArgs (topS 33)) (defBody (topS 33)) (defScope (topS 33)) .none kV19 dc19 pm19 an19 cd19 ct19), sl19⟩) (c19 : PySem.W.codeIn K cd19 "is_lot" = true) (k19 : PySem.W.keepIn K (.ref f19) = true)
    (a20 : PySem.W.nsIn K mainGlobals "parts" = some (some (.ref f20))) (l20 : K.lookup f20 = some ⟨oc20, od20, .func (PySem.W.fnOf "parts" "parts" (defArgs (topS 34)) (defBody (topS 34)) (defScope (topS 34)) .none kV20 dc20 pm20 an20 cd20 ct20), sl20⟩) (c20 : PySem.W.codeIn K cd20 "parts" = true) (k20 : PySem.W.keepIn K (.ref f20) = true)
    (a21 : PySem.W.nsIn K mainGlobals "is_parting" = some (some (.ref f21))) (l21 : K.lookup f21 = some ⟨oc21, od21, .func (PySem.W.fnOf "is_parting" "is_parting" (defArgs (topS 35)) (defBody (topS 35)) (defScope (topS 35)) .none kV21 dc21 pm21 an21 cd21 ct21), sl21⟩) (c21 : PySem.W.codeIn K cd21 "is_parting" = true) (k21 : PySem.W.keepIn K (.ref f21) = true)
    (a22 : PySem.W.nsIn K mainGlobals "steps_of" = some (some (.ref f22))) (l22 : K.lookup f22 = some ⟨oc22, od22, .func (PySem.W.fnOf "steps_of" "steps_of" (defArgs (topS 36)) (defBody (topS 36)) (defScope (topS 36)) .none kV22 dc22 pm22 an22 cd22 ct22), sl22⟩) (c22 : PySem.W.codeIn K cd22 "steps_of" = true) (k22 : PySem.W.keepIn K (.ref f22) = true)
    (a23 : PySem.W.nsIn K mainGlobals "steps" = some (some (.ref f23))) (l23 : K.lookup f23 = some ⟨oc23, od23, .func (PySem.W.fnOf "steps" "steps" (defArgs (topS 37)) (defBody (topS 37)) (defScope (topS 37)) .none kV23 dc23 pm23 an23 cd23 ct23), sl23⟩) (c23 : PySem.W.codeIn K cd23 "steps" = true) (k23 : PySem.W.keepIn K (.ref f23) = true)
    (a24 : PySem.W.nsIn K mainGlobals "lot_from" = some (some (.ref f24))) (l24 : K.lookup f24 = some ⟨oc24, od24, .func (PySem.W.fnOf "lot_from" "lot_from" (defArgs (topS 38)) (defBody (topS 38)) (defScope (topS 38)) .none kV24 dc24 pm24 an24 cd24 ct24), sl24⟩) (c24 : PySem.W.codeIn K cd24 "lot_from" = true) (k24 : PySem.W.keepIn K (.ref f24) = true)
    (a25 : PySem.W.nsIn K mainGlobals "parting_of" = some (some (.ref f25))) (l25 : K.lookup f25 = some ⟨oc25, od25, .func (PySem.W.fnOf "parting_of" "parting_of" (defArgs (topS 39)) (defBody (topS 39)) (defScope (topS 39)) .none kV25 dc25 pm25 an25 cd25 ct25), sl25⟩) (c25 : PySem.W.codeIn K cd25 "parting_of" = true) (k25 : PySem.W.keepIn K (.ref f25) = true)
    (a26 : PySem.W.nsIn K mainGlobals "stand_of" = some (some (.ref f26))) (l26 : K.lookup f26 = some ⟨oc26, od26, .func (PySem.W.fnOf "stand_of" "stand_of" (defArgs (topS 40)) (defBody (topS 40)) (defScope (topS 40)) .none kV26 dc26 pm26 an26 cd26 ct26), sl26⟩) (c26 : PySem.W.codeIn K cd26 "stand_of" = true) (k26 : PySem.W.keepIn K (.ref f26) = true)
    (a27 : PySem.W.nsIn K mainGlobals "all_partings" = some (some (.ref f27))) (l27 : K.lookup f27 = some ⟨oc27, od27, .func (PySem.W.fnOf "all_partings" "all_partings" (defArgs (topS 41)) (defBody (topS 41)) (defScope (topS 41)) .none kV27 dc27 pm27 an27 cd27 ct27), sl27⟩) (c27 : PySem.W.codeIn K cd27 "all_partings" = true) (k27 : PySem.W.keepIn K (.ref f27) = true)
    (a28 : PySem.W.nsIn K mainGlobals "partings" = some (some (.ref f28))) (l28 : K.lookup f28 = some ⟨oc28, od28, .func (PySem.W.fnOf "partings" "partings" (defArgs (topS 42)) (defBody (topS 42)) (defScope (topS 42)) .none kV28 dc28 pm28 an28 cd28 ct28), sl28⟩) (c28 : PySem.W.codeIn K cd28 "partings" = true) (k28 : PySem.W.keepIn K (.ref f28) = true)
    (a29 : PySem.W.nsIn K mainGlobals "_law_cell_at" = some (some (.ref f29))) (l29 : K.lookup f29 = some ⟨oc29, od29, .func (PySem.W.fnOf "_law_cell_at" "_law_cell_at" (defArgs (topS 44)) (defBody (topS 44)) (defScope (topS 44)) .none kV29 dc29 pm29 an29 cd29 ct29), sl29⟩) (c29 : PySem.W.codeIn K cd29 "_law_cell_at" = true) (k29 : PySem.W.keepIn K (.ref f29) = true)
    (a30 : PySem.W.nsIn K mainGlobals "law" = some (some (.ref f30))) (l30 : K.lookup f30 = some ⟨oc30, od30, .func (PySem.W.fnOf "law" "law" (defArgs (topS 45)) (defBody (topS 45)) (defScope (topS 45)) .none kV30 dc30 pm30 an30 cd30 ct30), sl30⟩) (c30 : PySem.W.codeIn K cd30 "law" = true) (k30 : PySem.W.keepIn K (.ref f30) = true)
    (z0 : PySem.W.nsIn K mainGlobals "all" = some none)
    (z1 : PySem.W.nsIn K mainGlobals "bool" = some none)
    (z2 : PySem.W.nsIn K mainGlobals "dict" = some none)
    (z3 : PySem.W.nsIn K mainGlobals "enumerate" = some none)
    (z4 : PySem.W.nsIn K mainGlobals "int" = some none)
    (z5 : PySem.W.nsIn K mainGlobals "isinstance" = some none)
    (z6 : PySem.W.nsIn K mainGlobals "len" = some none)
    (z7 : PySem.W.nsIn K mainGlobals "list" = some none)
    (z8 : PySem.W.nsIn K mainGlobals "min" = some none)
    (z9 : PySem.W.nsIn K mainGlobals "range" = some none)
    (z10 : PySem.W.nsIn K mainGlobals "set" = some none)
    (z11 : PySem.W.nsIn K mainGlobals "sorted" = some none)
    (z12 : PySem.W.nsIn K mainGlobals "tuple" = some none)
    (z13 : PySem.W.nsIn K mainGlobals "zip" = some none)
    (x1 : PySem.W.nsIn K mainGlobals "NoLines" = some (some (.ref q1))) (y1 : PySem.W.excIn K q1 [.type "ValueError", .type "Exception", .type "BaseException", .type "object"] "ValueError.__new__" = true) (w1 : PySem.W.keepIn K (.ref q1) = true) (s1 : PySem.W.subIn K (.ref q1) (.type "BaseException") = some true) (t1 : PySem.W.typeIn K (.ref q1) = some (.type "type"))
    (x2 : PySem.W.nsIn K mainGlobals "TooFew" = some (some (.ref q2))) (y2 : PySem.W.excIn K q2 [.type "ValueError", .type "Exception", .type "BaseException", .type "object"] "ValueError.__new__" = true) (w2 : PySem.W.keepIn K (.ref q2) = true) (s2 : PySem.W.subIn K (.ref q2) (.type "BaseException") = some true) (t2 : PySem.W.typeIn K (.ref q2) = some (.type "type"))
    (x3 : PySem.W.nsIn K mainGlobals "NoSize" = some (some (.ref q3))) (y3 : PySem.W.excIn K q3 [.type "ValueError", .type "Exception", .type "BaseException", .type "object"] "ValueError.__new__" = true) (w3 : PySem.W.keepIn K (.ref q3) = true) (s3 : PySem.W.subIn K (.ref q3) (.type "BaseException") = some true) (t3 : PySem.W.typeIn K (.ref q3) = some (.type "type"))
    (x4 : PySem.W.nsIn K mainGlobals "TooMany" = some (some (.ref q4))) (y4 : PySem.W.excIn K q4 [.type "ValueError", .type "Exception", .type "BaseException", .type "object"] "ValueError.__new__" = true) (w4 : PySem.W.keepIn K (.ref q4) = true) (s4 : PySem.W.subIn K (.ref q4) (.type "BaseException") = some true) (t4 : PySem.W.typeIn K (.ref q4) = some (.type "type"))
    (x5 : PySem.W.nsIn K mainGlobals "NoNumber" = some (some (.ref q5))) (y5 : PySem.W.excIn K q5 [.type "ValueError", .type "Exception", .type "BaseException", .type "object"] "ValueError.__new__" = true) (w5 : PySem.W.keepIn K (.ref q5) = true) (s5 : PySem.W.subIn K (.ref q5) (.type "BaseException") = some true) (t5 : PySem.W.typeIn K (.ref q5) = some (.type "type"))
    (x6 : PySem.W.nsIn K mainGlobals "NoStand" = some (some (.ref q6))) (y6 : PySem.W.excIn K q6 [.type "ValueError", .type "Exception", .type "BaseException", .type "object"] "ValueError.__new__" = true) (w6 : PySem.W.keepIn K (.ref q6) = true) (s6 : PySem.W.subIn K (.ref q6) (.type "BaseException") = some true) (t6 : PySem.W.typeIn K (.ref q6) = some (.type "type"))
    (x7 : PySem.W.nsIn K mainGlobals "NoParting" = some (some (.ref q7))) (y7 : PySem.W.excIn K q7 [.type "ValueError", .type "Exception", .type "BaseException", .type "object"] "ValueError.__new__" = true) (w7 : PySem.W.keepIn K (.ref q7) = true) (s7 : PySem.W.subIn K (.ref q7) (.type "BaseException") = some true) (t7 : PySem.W.typeIn K (.ref q7) = some (.type "type"))
    (v0 : PySem.W.nsIn K mainGlobals "MOST_LISTED" = some (some u0)) (r0 : ∃ v, RelV v u0 ∧ ∀ F, Rp F (.int 300) v)
    (v1 : PySem.W.nsIn K mainGlobals "MOST_THINGS" = some (some u1)) (r1 : ∃ v, RelV v u1 ∧ ∀ F, Rp F (.int 6) v)
    : ∃ ca, Facts K mg tab (g ca) := by
  refine ⟨addr [none, some q1, some q2, some q3, some q4, some q5, some q6, some q7], ?_⟩
  have F0 := fun_mk (st := topS 10) l0 c0 k0
  have b0 : ∀ us : List Value, us.length = d_is_whole.ps.length → bindArgs (PySem.W.fnOf d_is_whole.own d_is_whole.own (defArgs (topS 10)) (defBody (topS 10)) (defScope (topS 10)) .none kV0 dc0 pm0 an0 cd0 ct0) ⟨us, []⟩ = pure (d_is_whole.ps.zip us) := fun us hl => match us, hl with | [_], _ => rfl
  have F1 := fun_mk (st := topS 11) l1 c1 k1
  have b1 : ∀ us : List Value, us.length = d_is_upto.ps.length → bindArgs (PySem.W.fnOf d_is_upto.own d_is_upto.own (defArgs (topS 11)) (defBody (topS 11)) (defScope (topS 11)) .none kV1 dc1 pm1 an1 cd1 ct1) ⟨us, []⟩ = pure (d_is_upto.ps.zip us) := fun us hl => match us, hl with | [_, _, _], _ => rfl
  have F2 := fun_mk (st := topS 12) l2 c2 k2
  have b2 : ∀ us : List Value, us.length = d_is_rising.ps.length → bindArgs (PySem.W.fnOf d_is_rising.own d_is_rising.own (defArgs (topS 12)) (defBody (topS 12)) (defScope (topS 12)) .none kV2 dc2 pm2 an2 cd2 ct2) ⟨us, []⟩ = pure (d_is_rising.ps.zip us) := fun us hl => match us, hl with | [_], _ => rfl
  have F3 := fun_mk (st := topS 13) l3 c3 k3
  have b3 : ∀ us : List Value, us.length = d_board_by.ps.length → bindArgs (PySem.W.fnOf d_board_by.own d_board_by.own (defArgs (topS 13)) (defBody (topS 13)) (defScope (topS 13)) .none kV3 dc3 pm3 an3 cd3 ct3) ⟨us, []⟩ = pure (d_board_by.ps.zip us) := fun us hl => match us, hl with | [_, _, _], _ => rfl
  have F4 := fun_mk (st := topS 14) l4 c4 k4
  have b4 : ∀ us : List Value, us.length = d_is_some.ps.length → bindArgs (PySem.W.fnOf d_is_some.own d_is_some.own (defArgs (topS 14)) (defBody (topS 14)) (defScope (topS 14)) .none kV4 dc4 pm4 an4 cd4 ct4) ⟨us, []⟩ = pure (d_is_some.ps.zip us) := fun us hl => match us, hl with | [_, _], _ => rfl
  have F5 := fun_mk (st := topS 15) l5 c5 k5
  have b5 : ∀ us : List Value, us.length = d_are_lines.ps.length → bindArgs (PySem.W.fnOf d_are_lines.own d_are_lines.own (defArgs (topS 15)) (defBody (topS 15)) (defScope (topS 15)) .none kV5 dc5 pm5 an5 cd5 ct5) ⟨us, []⟩ = pure (d_are_lines.ps.zip us) := fun us hl => match us, hl with | [_, _], _ => rfl
  have F6 := fun_mk (st := topS 16) l6 c6 k6
  have b6 : ∀ us : List Value, us.length = d_left_by.ps.length → bindArgs (PySem.W.fnOf d_left_by.own d_left_by.own (defArgs (topS 16)) (defBody (topS 16)) (defScope (topS 16)) .none kV6 dc6 pm6 an6 cd6 ct6) ⟨us, []⟩ = pure (d_left_by.ps.zip us) := fun us hl => match us, hl with | [_, _], _ => rfl
  have F7 := fun_mk (st := topS 17) l7 c7 k7
  have b7 : ∀ us : List Value, us.length = d_without_lines.ps.length → bindArgs (PySem.W.fnOf d_without_lines.own d_without_lines.own (defArgs (topS 17)) (defBody (topS 17)) (defScope (topS 17)) .none kV7 dc7 pm7 an7 cd7 ct7) ⟨us, []⟩ = pure (d_without_lines.ps.zip us) := fun us hl => match us, hl with | [_, _], _ => rfl
  have F8 := fun_mk (st := topS 20) l8 c8 k8
  have b8 : ∀ us : List Value, us.length = d_are_apart.ps.length → bindArgs (PySem.W.fnOf d_are_apart.own d_are_apart.own (defArgs (topS 20)) (defBody (topS 20)) (defScope (topS 20)) .none kV8 dc8 pm8 an8 cd8 ct8) ⟨us, []⟩ = pure (d_are_apart.ps.zip us) := fun us hl => match us, hl with | [_], _ => rfl
  have F9 := fun_mk (st := topS 21) l9 c9 k9
  have b9 : ∀ us : List Value, us.length = d_are_cells.ps.length → bindArgs (PySem.W.fnOf d_are_cells.own d_are_cells.own (defArgs (topS 21)) (defBody (topS 21)) (defScope (topS 21)) .none kV9 dc9 pm9 an9 cd9 ct9) ⟨us, []⟩ = pure (d_are_cells.ps.zip us) := fun us hl => match us, hl with | [_, _], _ => rfl
  have F10 := fun_mk (st := topS 22) l10 c10 k10
  have b10 : ∀ us : List Value, us.length = d_is_stand.ps.length → bindArgs (PySem.W.fnOf d_is_stand.own d_is_stand.own (defArgs (topS 22)) (defBody (topS 22)) (defScope (topS 22)) .none kV10 dc10 pm10 an10 cd10 ct10) ⟨us, []⟩ = pure (d_is_stand.ps.zip us) := fun us hl => match us, hl with | [_, _], _ => rfl
  have F11 := fun_mk (st := topS 23) l11 c11 k11
  have b11 : ∀ us : List Value, us.length = d_greatest_size.ps.length → bindArgs (PySem.W.fnOf d_greatest_size.own d_greatest_size.own (defArgs (topS 23)) (defBody (topS 23)) (defScope (topS 23)) .none kV11 dc11 pm11 an11 cd11 ct11) ⟨us, []⟩ = pure (d_greatest_size.ps.zip us) := fun us hl => match us, hl with | [_], _ => rfl
  have F12 := fun_mk (st := topS 24) l12 c12 k12
  have b12 : ∀ us : List Value, us.length = d_check_size.ps.length → bindArgs (PySem.W.fnOf d_check_size.own d_check_size.own (defArgs (topS 24)) (defBody (topS 24)) (defScope (topS 24)) .none kV12 dc12 pm12 an12 cd12 ct12) ⟨us, []⟩ = pure (d_check_size.ps.zip us) := fun us hl => match us, hl with | [_, _], _ => rfl
  have F13 := fun_mk (st := topS 25) l13 c13 k13
  have b13 : ∀ us : List Value, us.length = d_counts.ps.length → bindArgs (PySem.W.fnOf d_counts.own d_counts.own (defArgs (topS 25)) (defBody (topS 25)) (defScope (topS 25)) .none kV13 dc13 pm13 an13 cd13 ct13) ⟨us, []⟩ = pure (d_counts.ps.zip us) := fun us hl => match us, hl with | [_], _ => rfl
  have F14 := fun_mk (st := topS 26) l14 c14 k14
  have b14 : ∀ us : List Value, us.length = d_bin_count.ps.length → bindArgs (PySem.W.fnOf d_bin_count.own d_bin_count.own (defArgs (topS 26)) (defBody (topS 26)) (defScope (topS 26)) .none kV14 dc14 pm14 an14 cd14 ct14) ⟨us, []⟩ = pure (d_bin_count.ps.zip us) := fun us hl => match us, hl with | [_], _ => rfl
  have F15 := fun_mk (st := topS 27) l15 c15 k15
  have b15 : ∀ us : List Value, us.length = d_all_from.ps.length → bindArgs (PySem.W.fnOf d_all_from.own d_all_from.own (defArgs (topS 27)) (defBody (topS 27)) (defScope (topS 27)) .none kV15 dc15 pm15 an15 cd15 ct15) ⟨us, []⟩ = pure (d_all_from.ps.zip us) := fun us hl => match us, hl with | [_, _, _], _ => rfl
  have F16 := fun_mk (st := topS 28) l16 c16 k16
  have b16 : ∀ us : List Value, us.length = d_all_of.ps.length → bindArgs (PySem.W.fnOf d_all_of.own d_all_of.own (defArgs (topS 28)) (defBody (topS 28)) (defScope (topS 28)) .none kV16 dc16 pm16 an16 cd16 ct16) ⟨us, []⟩ = pure (d_all_of.ps.zip us) := fun us hl => match us, hl with | [_, _], _ => rfl
  have F17 := fun_mk (st := topS 29) l17 c17 k17
  have b17 : ∀ us : List Value, us.length = d_stands_of.ps.length → bindArgs (PySem.W.fnOf d_stands_of.own d_stands_of.own (defArgs (topS 29)) (defBody (topS 29)) (defScope (topS 29)) .none kV17 dc17 pm17 an17 cd17 ct17) ⟨us, []⟩ = pure (d_stands_of.ps.zip us) := fun us hl => match us, hl with | [_, _], _ => rfl
  have F18 := fun_mk (st := topS 32) l18 c18 k18
  have b18 : ∀ us : List Value, us.length = d_check_things.ps.length → bindArgs (PySem.W.fnOf d_check_things.own d_check_things.own (defArgs (topS 32)) (defBody (topS 32)) (defScope (topS 32)) .none kV18 dc18 pm18 an18 cd18 ct18) ⟨us, []⟩ = pure (d_check_things.ps.zip us) := fun us hl => match us, hl with | [_], _ => rfl
  have F19 := fun_mk (st := topS 33) l19 c19 k19
  have b19 : ∀ us : List Value, us.length = d_is_lot.ps.length → bindArgs (PySem.W.fnOf d_is_lot.own d_is_lot.own (defArgs (topS 33)) (defBody (topS 33)) (defScope (topS 33)) .none kV19 dc19 pm19 an19 cd19 ct19) ⟨us, []⟩ = pure (d_is_lot.ps.zip us) := fun us hl => match us, hl with | [_, _], _ => rfl
  have F20 := fun_mk (st := topS 34) l20 c20 k20
  have b20 : ∀ us : List Value, us.length = d_parts.ps.length → bindArgs (PySem.W.fnOf d_parts.own d_parts.own (defArgs (topS 34)) (defBody (topS 34)) (defScope (topS 34)) .none kV20 dc20 pm20 an20 cd20 ct20) ⟨us, []⟩ = pure (d_parts.ps.zip us) := fun us hl => match us, hl with | [_, _], _ => rfl
  have F21 := fun_mk (st := topS 35) l21 c21 k21
  have b21 : ∀ us : List Value, us.length = d_is_parting.ps.length → bindArgs (PySem.W.fnOf d_is_parting.own d_is_parting.own (defArgs (topS 35)) (defBody (topS 35)) (defScope (topS 35)) .none kV21 dc21 pm21 an21 cd21 ct21) ⟨us, []⟩ = pure (d_is_parting.ps.zip us) := fun us hl => match us, hl with | [_, _], _ => rfl
  have F22 := fun_mk (st := topS 36) l22 c22 k22
  have b22 : ∀ us : List Value, us.length = d_steps_of.ps.length → bindArgs (PySem.W.fnOf d_steps_of.own d_steps_of.own (defArgs (topS 36)) (defBody (topS 36)) (defScope (topS 36)) .none kV22 dc22 pm22 an22 cd22 ct22) ⟨us, []⟩ = pure (d_steps_of.ps.zip us) := fun us hl => match us, hl with | [_], _ => rfl
  have F23 := fun_mk (st := topS 37) l23 c23 k23
  have b23 : ∀ us : List Value, us.length = d_steps.ps.length → bindArgs (PySem.W.fnOf d_steps.own d_steps.own (defArgs (topS 37)) (defBody (topS 37)) (defScope (topS 37)) .none kV23 dc23 pm23 an23 cd23 ct23) ⟨us, []⟩ = pure (d_steps.ps.zip us) := fun us hl => match us, hl with | [_], _ => rfl
  have F24 := fun_mk (st := topS 38) l24 c24 k24
  have b24 : ∀ us : List Value, us.length = d_lot_from.ps.length → bindArgs (PySem.W.fnOf d_lot_from.own d_lot_from.own (defArgs (topS 38)) (defBody (topS 38)) (defScope (topS 38)) .none kV24 dc24 pm24 an24 cd24 ct24) ⟨us, []⟩ = pure (d_lot_from.ps.zip us) := fun us hl => match us, hl with | [_, _], _ => rfl
  have F25 := fun_mk (st := topS 39) l25 c25 k25
  have b25 : ∀ us : List Value, us.length = d_parting_of.ps.length → bindArgs (PySem.W.fnOf d_parting_of.own d_parting_of.own (defArgs (topS 39)) (defBody (topS 39)) (defScope (topS 39)) .none kV25 dc25 pm25 an25 cd25 ct25) ⟨us, []⟩ = pure (d_parting_of.ps.zip us) := fun us hl => match us, hl with | [_, _], _ => rfl
  have F26 := fun_mk (st := topS 40) l26 c26 k26
  have b26 : ∀ us : List Value, us.length = d_stand_of.ps.length → bindArgs (PySem.W.fnOf d_stand_of.own d_stand_of.own (defArgs (topS 40)) (defBody (topS 40)) (defScope (topS 40)) .none kV26 dc26 pm26 an26 cd26 ct26) ⟨us, []⟩ = pure (d_stand_of.ps.zip us) := fun us hl => match us, hl with | [_, _], _ => rfl
  have F27 := fun_mk (st := topS 41) l27 c27 k27
  have b27 : ∀ us : List Value, us.length = d_all_partings.ps.length → bindArgs (PySem.W.fnOf d_all_partings.own d_all_partings.own (defArgs (topS 41)) (defBody (topS 41)) (defScope (topS 41)) .none kV27 dc27 pm27 an27 cd27 ct27) ⟨us, []⟩ = pure (d_all_partings.ps.zip us) := fun us hl => match us, hl with | [_], _ => rfl
  have F28 := fun_mk (st := topS 42) l28 c28 k28
  have b28 : ∀ us : List Value, us.length = d_partings.ps.length → bindArgs (PySem.W.fnOf d_partings.own d_partings.own (defArgs (topS 42)) (defBody (topS 42)) (defScope (topS 42)) .none kV28 dc28 pm28 an28 cd28 ct28) ⟨us, []⟩ = pure (d_partings.ps.zip us) := fun us hl => match us, hl with | [_, _], _ => rfl
  have F29 := fun_mk (st := topS 44) l29 c29 k29
  have b29 : ∀ us : List Value, us.length = d_law_cell_at.ps.length → bindArgs (PySem.W.fnOf d_law_cell_at.own d_law_cell_at.own (defArgs (topS 44)) (defBody (topS 44)) (defScope (topS 44)) .none kV29 dc29 pm29 an29 cd29 ct29) ⟨us, []⟩ = pure (d_law_cell_at.ps.zip us) := fun us hl => match us, hl with | [_, _], _ => rfl
  have F30 := fun_mk (st := topS 45) l30 c30 k30
  have b30 : ∀ us : List Value, us.length = d_law_k84.ps.length → bindArgs (PySem.W.fnOf d_law_k84.own d_law_k84.own (defArgs (topS 45)) (defBody (topS 45)) (defScope (topS 45)) .none kV30 dc30 pm30 an30 cd30 ct30) ⟨us, []⟩ = pure (d_law_k84.ps.zip us) := fun us hl => match us, hl with | [_], _ => rfl
  refine ⟨fun f d hd => ?_, fun f x hx => ?_, fun x hx => ?_, fun c x hx => ?_, fun x d hx => ?_, fun d hd => List.all_eq_true.mp (chk _) d hd, fun h => absurd rfl h, fun f hf => (nomatch hf)⟩
  · match f, hd with
    | 0, rfl => exact ⟨f0, _, F0, PySem.W.mg_of X G a0, b0⟩
    | 1, rfl => exact ⟨f1, _, F1, PySem.W.mg_of X G a1, b1⟩
    | 2, rfl => exact ⟨f2, _, F2, PySem.W.mg_of X G a2, b2⟩
    | 3, rfl => exact ⟨f3, _, F3, PySem.W.mg_of X G a3, b3⟩
    | 4, rfl => exact ⟨f4, _, F4, PySem.W.mg_of X G a4, b4⟩
    | 5, rfl => exact ⟨f5, _, F5, PySem.W.mg_of X G a5, b5⟩
    | 6, rfl => exact ⟨f6, _, F6, PySem.W.mg_of X G a6, b6⟩
    | 7, rfl => exact ⟨f7, _, F7, PySem.W.mg_of X G a7, b7⟩
    | 8, rfl => exact ⟨f8, _, F8, PySem.W.mg_of X G a8, b8⟩
    | 9, rfl => exact ⟨f9, _, F9, PySem.W.mg_of X G a9, b9⟩
    | 10, rfl => exact ⟨f10, _, F10, PySem.W.mg_of X G a10, b10⟩
    | 11, rfl => exact ⟨f11, _, F11, PySem.W.mg_of X G a11, b11⟩
    | 12, rfl => exact ⟨f12, _, F12, PySem.W.mg_of X G a12, b12⟩
    | 13, rfl => exact ⟨f13, _, F13, PySem.W.mg_of X G a13, b13⟩
    | 14, rfl => exact ⟨f14, _, F14, PySem.W.mg_of X G a14, b14⟩
    | 15, rfl => exact ⟨f15, _, F15, PySem.W.mg_of X G a15, b15⟩
    | 16, rfl => exact ⟨f16, _, F16, PySem.W.mg_of X G a16, b16⟩
    | 17, rfl => exact ⟨f17, _, F17, PySem.W.mg_of X G a17, b17⟩
    | 18, rfl => exact ⟨f18, _, F18, PySem.W.mg_of X G a18, b18⟩
    | 19, rfl => exact ⟨f19, _, F19, PySem.W.mg_of X G a19, b19⟩
    | 20, rfl => exact ⟨f20, _, F20, PySem.W.mg_of X G a20, b20⟩
    | 21, rfl => exact ⟨f21, _, F21, PySem.W.mg_of X G a21, b21⟩
    | 22, rfl => exact ⟨f22, _, F22, PySem.W.mg_of X G a22, b22⟩
    | 23, rfl => exact ⟨f23, _, F23, PySem.W.mg_of X G a23, b23⟩
    | 24, rfl => exact ⟨f24, _, F24, PySem.W.mg_of X G a24, b24⟩
    | 25, rfl => exact ⟨f25, _, F25, PySem.W.mg_of X G a25, b25⟩
    | 26, rfl => exact ⟨f26, _, F26, PySem.W.mg_of X G a26, b26⟩
    | 27, rfl => exact ⟨f27, _, F27, PySem.W.mg_of X G a27, b27⟩
    | 28, rfl => exact ⟨f28, _, F28, PySem.W.mg_of X G a28, b28⟩
    | 29, rfl => exact ⟨f29, _, F29, PySem.W.mg_of X G a29, b29⟩
    | 30, rfl => exact ⟨f30, _, F30, PySem.W.mg_of X G a30, b30⟩
  · change (tab[f]?).map Dd.name = some x at hx
    cases e : tab[f]? with
    | none => rw [e] at hx; cases hx
    | some d =>
      rw [e] at hx
      cases hx
      exact ⟨d, rfl, rfl⟩
  · change x ∈ bts at hx
    simp only [bts, List.mem_cons, List.not_mem_nil, or_false] at hx
    rcases hx with rfl | rfl | rfl | rfl | rfl | rfl | rfl | rfl | rfl | rfl | rfl | rfl | rfl | rfl
    · exact PySem.W.mg_none_of X G z0
    · exact PySem.W.mg_none_of X G z1
    · exact PySem.W.mg_none_of X G z2
    · exact PySem.W.mg_none_of X G z3
    · exact PySem.W.mg_none_of X G z4
    · exact PySem.W.mg_none_of X G z5
    · exact PySem.W.mg_none_of X G z6
    · exact PySem.W.mg_none_of X G z7
    · exact PySem.W.mg_none_of X G z8
    · exact PySem.W.mg_none_of X G z9
    · exact PySem.W.mg_none_of X G z10
    · exact PySem.W.mg_none_of X G z11
    · exact PySem.W.mg_none_of X G z12
    · exact PySem.W.mg_none_of X G z13
  · change (cls[c]?).join = some x at hx
    match c, hx with
    | 0, h => exact absurd h (by simp [cls])
    | 1, rfl => exact ⟨y1, PySem.W.mg_of X G x1, w1, s1, t1⟩
    | 2, rfl => exact ⟨y2, PySem.W.mg_of X G x2, w2, s2, t2⟩
    | 3, rfl => exact ⟨y3, PySem.W.mg_of X G x3, w3, s3, t3⟩
    | 4, rfl => exact ⟨y4, PySem.W.mg_of X G x4, w4, s4, t4⟩
    | 5, rfl => exact ⟨y5, PySem.W.mg_of X G x5, w5, s5, t5⟩
    | 6, rfl => exact ⟨y6, PySem.W.mg_of X G x6, w6, s6, t6⟩
    | 7, rfl => exact ⟨y7, PySem.W.mg_of X G x7, w7, s7, t7⟩
    | _ + 8, h => exact absurd h (by simp [cls])
  · change cvs.lookup x = some d at hx
    have hm := mem_lookup hx
    simp only [cvs, List.mem_cons, List.not_mem_nil, or_false, Prod.mk.injEq] at hm
    rcases hm with ⟨rfl, rfl⟩ | ⟨rfl, rfl⟩
    · obtain ⟨v, e1, e2⟩ := r0
      exact ⟨v, _, PySem.W.mg_of X G v0, e1, e2⟩
    · obtain ⟨v, e1, e2⟩ := r1
      exact ⟨v, _, PySem.W.mg_of X G v1, e1, e2⟩
end
end Rk

/-! The laws' first steps: a cell, a pot, a digit. -/
namespace Rk
open PySem Mi

/-! ### a heap with the pot in it -/
section
variable {h t e : Hs} {a b c d : Cell} {α : Type}
@[simp] theorem at_pot : (h ++ a :: t)[h.length]? = some a := by simp
@[simp] theorem set_pot : (h ++ a :: t).set h.length b = h ++ b :: t := by
  induction h with
  | nil => rfl
  | cons x h ih => simpa using ih
@[simp] theorem at_own : (h ++ a :: (t ++ b :: e))[h.length + (t.length + 1)]? = some b := by
  rw [List.getElem?_append_right (by omega)]
  simp
@[simp] theorem set_own : (h ++ a :: (t ++ b :: e)).set (h.length + (t.length + 1)) c = h ++ a :: (t ++ c :: e) := by
  induction h with
  | nil =>
    simp only [List.nil_append, List.length_nil, Nat.zero_add, List.set_cons_succ]
    congr 1
    exact set_pot
  | cons x h ih =>
    rw [List.cons_append, List.length_cons, show h.length + 1 + (t.length + 1) = (h.length + (t.length + 1)) + 1 by omega, List.set_cons_succ, ih]
    rfl
@[simp] theorem take_all : (h ++ a :: t).take (h.length + (t.length + 1)) = h ++ a :: t := List.take_of_length_le (by simp)
@[simp] theorem take_own : (h ++ a :: (t ++ e)).take (h.length + (t.length + 1)) = h ++ a :: t := by
  have : h ++ a :: (t ++ e) = (h ++ a :: t) ++ e := by simp
  rw [this]
  exact List.take_left' (by simp)
end
theorem cell_ok {k : Nat} (ns : List Int) (j : Nat) (h : Hs) : ∃ c, callF T (k + 1) i_law_cell_at [.s ns, .d (.int j)] h = .ok (.v (.d (.int c))) h ∧ (∀ x, ns[j]? = some x → c = x) ∧ (ns[j]? = none → c = 0) := by
  by_cases hj : (j : Int) < ns.length
  · have hj' : j < ns.length := by omega
    have e : ixD ns (j : Int) = some ns[j] := L2.atI_nat (List.getElem?_eq_getElem hj')
    refine ⟨ns[j], ?_, fun x hx => ?_, fun hx => ?_⟩
    · rw [callF_still t_law_cell_at rfl rfl]
      simp [entry, b_law_cell_at, evalS, evalT, evalE, evalL, hj, e]
    · rw [List.getElem?_eq_getElem hj'] at hx
      exact Option.some.inj hx
    · rw [List.getElem?_eq_getElem hj'] at hx
      cases hx
  · refine ⟨0, ?_, fun x hx => ?_, fun _ => rfl⟩
    · rw [callF_still t_law_cell_at rfl rfl]
      simp [entry, b_law_cell_at, evalS, evalT, evalE, evalL, hj]
    · have := (List.getElem?_eq_some_iff.mp hx).1
      omega
end Rk
namespace Rk
open PySem Mi
end Rk

/-! whole numbers -/
namespace Rk
open PySem Mi
def isInt : PyData → Bool
  | .int _ => true
  | _ => false
def isUpto (x : PyData) (a b : Int) : Bool := match x with
  | .int i => decide (a ≤ i) && decide (i ≤ b)
  | _ => false
section
variable {k : Nat} {h : Hs}
@[simp] theorem isi_d {ts : List Ty} {x : PyData} : isiO ts (.v (.d x)) h = some (.v (.d (.bool (ts.any fun t => isTy t x)))) := rfl
@[simp] theorem one_isi {ts : List Ty} {r : R} : oneO (.isi ts) r h = isiO ts r h := rfl
@[simp] theorem one_all {r : R} : oneO .all r h = allO r h := rfl
@[simp] theorem one_any {r : R} : oneO .any r h = anyO r h := rfl
@[simp] theorem one_min {r : R} : oneO .min1 r h = min1O r h := rfl
@[simp] theorem one_max {r : R} : oneO .max1 r h = max1O r h := rfl
@[simp] theorem one_sum {r : R} : oneO .sum r h = sumO r h := rfl
@[simp] theorem one_sorted {r : R} : oneO .sorted r h = sortedO r h := rfl
@[simp] theorem one_tuple {r : R} : oneO .tuple r h = tupleO r h := rfl
@[simp] theorem one_list {r : R} : oneO .list r h = listO r h := rfl
@[simp] theorem tuple_l {xs : List PyData} : tupleO (.v (.d (.list xs))) h = some (.v (.d (.tuple xs))) := rfl
@[simp] theorem tuple_f {xs : List PyData} : tupleO (.fl xs) h = some (.v (.d (.tuple xs))) := rfl
@[simp] theorem tuple_t {xs : List PyData} : tupleO (.v (.d (.tuple xs))) h = some (.v (.d (.tuple xs))) := rfl
@[simp] theorem ixO_f {xs : List PyData} {i : Int} : ixO (.fl xs) (.v (.d (.int i))) h = (ixD xs i).map fun x => .v (.d x) := rfl
@[simp] theorem slO_f {xs : List PyData} {lo hi : Option Int} : slO (.fl xs) lo hi h = some (.fl (cut xs lo hi)) := rfl
@[simp] theorem revO_f {xs : List PyData} : revO (.fl xs) h = some (.fl xs.reverse) := rfl
@[simp] theorem sorted_f {xs : List PyData} : sortedO (.fl xs) h = if sortOk xs then some (.fl (sortD xs)) else none := rfl
@[simp] theorem sorted_l {xs : List PyData} : sortedO (.v (.d (.list xs))) h = if sortOk xs then some (.fl (sortD xs)) else none := rfl
@[simp] theorem sorted_t {xs : List PyData} : sortedO (.v (.d (.tuple xs))) h = if sortOk xs then some (.fl (sortD xs)) else none := rfl
@[simp] theorem list_l {xs : List PyData} : listO (.v (.d (.list xs))) h = some (.fl xs) := rfl
@[simp] theorem list_f {xs : List PyData} : listO (.fl xs) h = some (.fl xs) := rfl
@[simp] theorem list_t {xs : List PyData} : listO (.v (.d (.tuple xs))) h = some (.fl xs) := rfl
@[simp] theorem one_listRng {r : R} : oneO .listRng r h = listRngO r h := rfl
@[simp] theorem one_tupRng {r : R} : oneO .tupRng r h = tupRngO r h := rfl
@[simp] theorem one_lenSet {r : R} : oneO .lenSet r h = lenSetO r h := rfl
@[simp] theorem listRng_i {n : Int} : listRngO (.v (.d (.int n))) h = if far n then some (.fl (upto 0 n.toNat)) else none := rfl
@[simp] theorem tupRng_i {n : Int} : tupRngO (.v (.d (.int n))) h = if far n then some (.v (.d (.tuple (upto 0 n.toNat)))) else none := rfl
@[simp] theorem min_l {x : PyData} {xs : List PyData} : min1O (.v (.d (.list (x :: xs)))) h = if ordOk (x :: xs) then some (.v (.d (PySem.W.minD x xs))) else none := rfl
@[simp] theorem min_t {x : PyData} {xs : List PyData} : min1O (.v (.d (.tuple (x :: xs)))) h = if ordOk (x :: xs) then some (.v (.d (PySem.W.minD x xs))) else none := rfl
@[simp] theorem min_f {x : PyData} {xs : List PyData} : min1O (.fl (x :: xs)) h = if ordOk (x :: xs) then some (.v (.d (PySem.W.minD x xs))) else none := rfl
@[simp] theorem max_l {x : PyData} {xs : List PyData} : max1O (.v (.d (.list (x :: xs)))) h = if ordOk (x :: xs) then some (.v (.d (PySem.W.maxD x xs))) else none := rfl
@[simp] theorem max_t {x : PyData} {xs : List PyData} : max1O (.v (.d (.tuple (x :: xs)))) h = if ordOk (x :: xs) then some (.v (.d (PySem.W.maxD x xs))) else none := rfl
@[simp] theorem max_f {x : PyData} {xs : List PyData} : max1O (.fl (x :: xs)) h = if ordOk (x :: xs) then some (.v (.d (PySem.W.maxD x xs))) else none := rfl
theorem beq_dec {α : Type} [BEq α] [LawfulBEq α] [DecidableEq α] (a b : α) : (a == b) = decide (a = b) := by
  by_cases h : a = b <;> simp [h]
@[simp] theorem cmp_eqb {a b : Bool} : cmpD .eq (.bool a) (.bool b) = some (decide (a = b)) := by
  simp [cmpD, eqD, eqOk, PyData.plain, PyData.depth, PyData.eqv, beq_dec]
@[simp] theorem cmp_neb {a b : Bool} : cmpD .ne (.bool a) (.bool b) = some (!decide (a = b)) := by
  simp [cmpD, eqD, eqOk, PyData.plain, PyData.depth, PyData.eqv, beq_dec]
@[simp] theorem cmp_eqs {a b : Str} : cmpD .eq (.str a) (.str b) = some (decide (a = b)) := by
  simp [cmpD, eqD, eqOk, PyData.plain, PyData.depth, PyData.eqv, beq_dec]
@[simp] theorem cmp_nes {a b : Str} : cmpD .ne (.str a) (.str b) = some (!decide (a = b)) := by
  simp [cmpD, eqD, eqOk, PyData.plain, PyData.depth, PyData.eqv, beq_dec]
@[simp] theorem slO_l {xs : List PyData} {lo hi : Option Int} : slO (.v (.d (.list xs))) lo hi h = some (.fl (cut xs lo hi)) := rfl
@[simp] theorem slO_t {xs : List PyData} {lo hi : Option Int} : slO (.v (.d (.tuple xs))) lo hi h = some (.v (.d (.tuple (cut xs lo hi)))) := rfl
@[simp] theorem revO_l {xs : List PyData} : revO (.v (.d (.list xs))) h = some (.fl xs.reverse) := rfl
@[simp] theorem revO_t {xs : List PyData} : revO (.v (.d (.tuple xs))) h = some (.v (.d (.tuple xs.reverse))) := rfl
@[simp] theorem allD_fd {rs : List R} : allD (.fd [] :: rs) = (allD rs).map (.dict [] :: ·) := allD_cons rfl
@[simp] theorem bnd0 : bnd [] = some none := rfl
@[simp] theorem bnd1 {i : Int} : bnd [.v (.d (.int i))] = some (some i) := rfl
theorem is_whole_ok (x : PyData) (h : Hs) : callF T (k + 1) i_is_whole [.d x] h = .ok (.v (.d (.bool (isInt x)))) h :=
  call_rt t_is_whole rfl rfl (by cases x <;> simp [entry, b_is_whole, evalS, evalE, evalL, evalA, isTy, isInt] <;> rfl) h
theorem is_upto_ok (x : PyData) (a b : Int) (h : Hs) : callF T (k + 2) i_is_upto [.d x, .d (.int a), .d (.int b)] h = .ok (.v (.d (.bool (isUpto x a b)))) h :=
  call_rt t_is_upto rfl rfl (by
    cases x with
    | int i => by_cases h1 : a ≤ i <;> simp [entry, b_is_upto, evalS, evalE, evalL, evalA, is_whole_ok, isInt, isUpto, h1] <;> rfl
    | _ => simp [entry, b_is_upto, evalS, evalE, evalL, evalA, is_whole_ok, isInt, isUpto] <;> rfl) h
end
end Rk

/-! drawn boards -/
namespace Rk
open PySem Mi
def cellD (c : Int × Int) : PyData := .tuple [.int c.1, .int c.2]
def boardD (a b : Int) (cs : List (Int × Int)) : PyData := .tuple [.int a, .int b, .tuple (cs.map cellD)]
section
variable {k : Nat} {h t : Hs}
/-- the last list of the heap grows -/
@[simp] theorem app_own {xs : List PyData} {a : Cell} {x : PyData} (hl : xs.length < line) : mutA .append (.v (.r (h.length + (t.length + 1)))) [.v (.d x)] (h ++ a :: (t ++ [.lst xs])) = .ok () (h ++ a :: (t ++ [.lst (xs ++ [x])])) := by
  rw [mut_app at_own hl, set_own]
@[simp] theorem lst_own {xs : List PyData} {a : Cell} : lstAt (.v (.r (h.length + (t.length + 1)))) (h ++ a :: (t ++ [.lst xs])) = true := lstAt_r at_own
@[simp] theorem tuple_own {xs : List PyData} {a : Cell} : tupleO (.v (.r (h.length + (t.length + 1)))) (h ++ a :: (t ++ [.lst xs])) = some (.v (.d (.tuple xs))) := by
  simp [tupleO, look, at_own]
theorem far_le {m : Int} (h0 : -1000 ≤ m) (h1 : m ≤ 1000) : far m = true := by
  unfold far
  simp only [Bool.and_eq_true, decide_eq_true_eq]
  omega
end
end Rk

/-! places in order; what is a board -/
namespace Rk
open PySem Mi
def ltB (a b : Int × Int) : Bool := decide (a.1 < b.1) || (decide (a.1 = b.1) && decide (a.2 < b.2))
theorem alike_cell (a b : Int × Int) : PySem.W.alike (cellD a) (cellD b) = true := by
  simp [cellD, PySem.W.alike, PySem.W.alikeAll]
theorem small_cell (a : Int × Int) : small (cellD a) = true := by
  simp [small, cellD, PyData.depth, PyData.depthAll]
theorem dataLt_cell (a b : Int × Int) : PySem.W.dataLt (cellD a) (cellD b) = ltB a b := by
  unfold cellD
  rw [PySem.W.dataLt_pair (by simp [PySem.W.alike]) (by simp [PySem.W.alike])]
  simp only [PyData.eqv, PySem.W.dataLt_int, ltB]
  by_cases h1 : a.1 = b.1 <;> by_cases h2 : a.2 = b.2 <;> simp [h1, h2] <;> omega
@[simp] theorem cmp_ltc (a b : Int × Int) : cmpD .lt (cellD a) (cellD b) = some (ltB a b) := by
  have : cmpD .lt (cellD a) (cellD b) = ltD (cellD a) (cellD b) := rfl
  rw [this, ltD, ltOk, alike_cell, small_cell, dataLt_cell]
  rfl
section
variable {k : Nat}
end
end Rk

/-! the comparison of the laws: a thing with itself -/
namespace Rk
open PySem Mi
mutual
def dep : PyData → Nat
  | .list xs => depL xs + 1
  | .tuple xs => depL xs + 1
  | _ => 0
def depL : List PyData → Nat
  | [] => 0
  | x :: xs => max (dep x) (depL xs)
end
mutual
def nodict : PyData → Bool
  | .list xs => nodictL xs
  | .tuple xs => nodictL xs
  | .dict _ => false
  | _ => true
def nodictL : List PyData → Bool
  | [] => true
  | x :: xs => nodict x && nodictL xs
end
@[simp] theorem walk_zll {xs ys : List PyData} {h : Hs} : walk .zip [.v (.d (.list xs)), .v (.d (.list ys))] h = some (zipD xs ys, yes) := rfl
@[simp] theorem cmp_nonenone : cmpD .eq .none .none = some true := by decide
section
variable {k : Nat}
end
end Rk

/-! k01 -/
namespace Rk
open PySem Mi
section
variable {k : Nat}
end
end Rk

/-! boards: cells among cells, sorted cells, what is left without lines -/
namespace Rk
open PySem Mi
theorem eqv_int (a b : Int) : PyData.eqv (.int a) (.int b) = decide (a = b) := by
  simp [PyData.eqv, beq_dec]
/-! ### sorted -/
/-! ### lines -/
section
variable {k : Nat}
end
end Rk

/-! boards without lines -/
namespace Rk
open PySem Mi
section
variable {k : Nat}
end
end Rk

/-! k31: cells taken from a board -/
namespace Rk
open PySem Mi
section
variable {k : Nat}
/-! ### without, struck -/
/-! ### what is due -/
@[simp] theorem one_int_b {b : Bool} {h : Hs} : oneO .int (.v (.d (.bool b))) h = some (.v (.d (.int (if b then 1 else 0)))) := rfl
end
end Rk

/-! k01: the law -/
namespace Rk
open PySem Mi
section
variable {k : Nat} {h t : Hs}
end
end Rk

/-! k31: the law -/
namespace Rk
open PySem Mi
section
variable {k : Nat} {h t : Hs}
end
end Rk

/-! k03: boards without lines -/
namespace Rk
open PySem Mi
/-! ### rising tuples of lines -/
section
variable {k : Nat} {h t : Hs}
end
end Rk

/-! k03: what is told, what is due -/
namespace Rk
open PySem Mi
section
variable {k : Nat} {h t : Hs}
end
/-! ### what is due -/
section
variable {k : Nat} {h t : Hs}
end
end Rk

/-! k03: the law -/
namespace Rk
open PySem Mi
section
variable {k : Nat} {h t : Hs}
end
end Rk

/-! stands: cells sorted, cells apart -/
namespace Rk
open PySem Mi
/-! ### sorted cells -/
/-! ### what is a stand -/
section
variable {k : Nat}
end
end Rk

/-! k11: what is a stand -/
namespace Rk
open PySem Mi
section
variable {k : Nat} {h t : Hs}
end
end Rk

/-! k11: all stands, and stands put otherwise -/
namespace Rk
open PySem Mi
def encS (S : List (Int × Int)) : PyData := .tuple (S.map cellD)
section
variable {k : Nat} {h t : Hs}
end
section
variable {k : Nat} {h t : Hs}
end
end Rk

/-! all stands of a size, rising: two ways to list them (no program in sight) -/
namespace Rk
open PySem Mi
/-! ### sorting, whatever the order -/
section
variable {α : Type} (lt : α → α → Bool)
variable {lt}
end
/-! ### stands in order -/
/-! ### all stands of a size -/
/-! how many there can be -/
/-! ### all stands, row by row -/
end Rk

/-! k82: partings of all stands of the steps, by tables -/
namespace Rk
open PySem Mi
def stepC (n : Nat) : List (Int × Int) := (List.range n).flatMap fun (r : Nat) => (List.range r).map fun (c : Nat) => (Int.ofNat r, Int.ofNat c)
end Rk

/-! all stands of a size: the program's way, and the laws' -/
namespace Rk
open PySem Mi
section
variable {k : Nat} {h t : Hs}
end
end Rk

/-! k11: the law -/
namespace Rk
open PySem Mi
section
variable {k : Nat} {h t : Hs}
end
end Rk

/-! k14: stands numbered -/
namespace Rk
open PySem Mi
section
variable {k : Nat} {h t : Hs}
/-! ### told -/
end
end Rk

/-! k82: the stands of the steps are those of the tables -/
namespace Rk
open PySem Mi
end Rk

/-! k81: what is a parting -/
namespace Rk
open PySem Mi
section
variable {k : Nat} {h t : Hs}
/-! ### is_parting -/
end
end Rk

/-! k81: what is due -/
namespace Rk
open PySem Mi
section
variable {k : Nat} {h t : Hs}
theorem check_things_ok (v : PyData) (h : Hs) : callF T (k + 3) i_check_things [.d v] h = if isUpto v 1 6 = true then .ok (.v (.d .none)) h else .ex c_NoNumber h := by
  have hu := fun h => is_upto_ok (k := k) v 1 6 h
  cases e : isUpto v 1 6 with
  | true =>
    rw [e] at hu
    exact call_nx (env' := [some (.d v)]) (h' := []) t_check_things rfl rfl (by simp [entry, b_check_things, evalS, evalT, evalE, evalL, hu]) h
  | false =>
    rw [e] at hu
    exact call_ex (env' := [some (.d v)]) (h' := []) t_check_things rfl rfl (by simp [entry, b_check_things, evalS, evalT, evalE, evalL, hu]) h
end
end Rk

/-! k81: partings drawn -/
namespace Rk
open PySem Mi
section
variable {k : Nat} {h t : Hs}
end
end Rk

/-! k81: the law -/
namespace Rk
open PySem Mi
section
variable {k : Nat} {h t : Hs}
end
end Rk

/-! k82: steps; partings of stands, told -/
namespace Rk
open PySem Mi
section
variable {k : Nat} {h t : Hs}
end
end Rk


/-! k84: all partings of up to six things, by tables -/
namespace Rk
open PySem Mi
def g84 (i : Nat) : SRes → Option Mi.W
  | .nx env _ => env.getD i none
  | _ => none
def b84 (n : Nat) : PyData := boardD n n (stepC n)
def m84 : Nat → PyData
  | 0 => .list [.int 1]
  | 1 => .list [.int 1, .int 0]
  | 2 => .list [.int 1, .int 1, .int 0]
  | 3 => .list [.int 1, .int 3, .int 1, .int 0]
  | 4 => .list [.int 1, .int 6, .int 7, .int 1, .int 0]
  | 5 => .list [.int 1, .int 10, .int 25, .int 15, .int 1, .int 0]
  | _ => .list [.int 1, .int 15, .int 65, .int 90, .int 31, .int 1, .int 0]
/-- ahead of the step for a size -/
def env84 (w : Option Mi.W) (n s : Nat) (e6 e7 e8 e9 : Option Mi.W) : Mi.Env := [w, some (.d (.int n)), some (.d (b84 n)), some (.d (m84 n)), some (.d (.int s)), none, e6, e7, e8, e9]
def st84 (k : Nat) (w : Option Mi.W) (n s : Nat) (e6 e7 e8 e9 : Option Mi.W) : SRes := evalS (callF T (k + 20)) f0_law_k84 (env84 w n s e6 e7 e8 e9) []
theorem t84_1_0 (k : Nat) (w e6 e7 e8 e9 : Option Mi.W) : st84 k w 1 0 e6 e7 e8 e9 = .nx (env84 w 1 0 (g84 6 (st84 k w 1 0 e6 e7 e8 e9)) (g84 7 (st84 k w 1 0 e6 e7 e8 e9)) (g84 8 (st84 k w 1 0 e6 e7 e8 e9)) (g84 9 (st84 k w 1 0 e6 e7 e8 e9))) [] := by kernel_rfl
theorem t84_2_0 (k : Nat) (w e6 e7 e8 e9 : Option Mi.W) : st84 k w 2 0 e6 e7 e8 e9 = .nx (env84 w 2 0 (g84 6 (st84 k w 2 0 e6 e7 e8 e9)) (g84 7 (st84 k w 2 0 e6 e7 e8 e9)) (g84 8 (st84 k w 2 0 e6 e7 e8 e9)) (g84 9 (st84 k w 2 0 e6 e7 e8 e9))) [] := by kernel_rfl
theorem t84_2_1 (k : Nat) (w e6 e7 e8 e9 : Option Mi.W) : st84 k w 2 1 e6 e7 e8 e9 = .nx (env84 w 2 1 (g84 6 (st84 k w 2 1 e6 e7 e8 e9)) (g84 7 (st84 k w 2 1 e6 e7 e8 e9)) (g84 8 (st84 k w 2 1 e6 e7 e8 e9)) (g84 9 (st84 k w 2 1 e6 e7 e8 e9))) [] := by kernel_rfl
theorem t84_3_0 (k : Nat) (w e6 e7 e8 e9 : Option Mi.W) : st84 k w 3 0 e6 e7 e8 e9 = .nx (env84 w 3 0 (g84 6 (st84 k w 3 0 e6 e7 e8 e9)) (g84 7 (st84 k w 3 0 e6 e7 e8 e9)) (g84 8 (st84 k w 3 0 e6 e7 e8 e9)) (g84 9 (st84 k w 3 0 e6 e7 e8 e9))) [] := by kernel_rfl
theorem t84_3_1 (k : Nat) (w e6 e7 e8 e9 : Option Mi.W) : st84 k w 3 1 e6 e7 e8 e9 = .nx (env84 w 3 1 (g84 6 (st84 k w 3 1 e6 e7 e8 e9)) (g84 7 (st84 k w 3 1 e6 e7 e8 e9)) (g84 8 (st84 k w 3 1 e6 e7 e8 e9)) (g84 9 (st84 k w 3 1 e6 e7 e8 e9))) [] := by kernel_rfl
theorem t84_3_2 (k : Nat) (w e6 e7 e8 e9 : Option Mi.W) : st84 k w 3 2 e6 e7 e8 e9 = .nx (env84 w 3 2 (g84 6 (st84 k w 3 2 e6 e7 e8 e9)) (g84 7 (st84 k w 3 2 e6 e7 e8 e9)) (g84 8 (st84 k w 3 2 e6 e7 e8 e9)) (g84 9 (st84 k w 3 2 e6 e7 e8 e9))) [] := by kernel_rfl
theorem t84_4_0 (k : Nat) (w e6 e7 e8 e9 : Option Mi.W) : st84 k w 4 0 e6 e7 e8 e9 = .nx (env84 w 4 0 (g84 6 (st84 k w 4 0 e6 e7 e8 e9)) (g84 7 (st84 k w 4 0 e6 e7 e8 e9)) (g84 8 (st84 k w 4 0 e6 e7 e8 e9)) (g84 9 (st84 k w 4 0 e6 e7 e8 e9))) [] := by kernel_rfl
theorem t84_4_1 (k : Nat) (w e6 e7 e8 e9 : Option Mi.W) : st84 k w 4 1 e6 e7 e8 e9 = .nx (env84 w 4 1 (g84 6 (st84 k w 4 1 e6 e7 e8 e9)) (g84 7 (st84 k w 4 1 e6 e7 e8 e9)) (g84 8 (st84 k w 4 1 e6 e7 e8 e9)) (g84 9 (st84 k w 4 1 e6 e7 e8 e9))) [] := by kernel_rfl
theorem t84_4_2 (k : Nat) (w e6 e7 e8 e9 : Option Mi.W) : st84 k w 4 2 e6 e7 e8 e9 = .nx (env84 w 4 2 (g84 6 (st84 k w 4 2 e6 e7 e8 e9)) (g84 7 (st84 k w 4 2 e6 e7 e8 e9)) (g84 8 (st84 k w 4 2 e6 e7 e8 e9)) (g84 9 (st84 k w 4 2 e6 e7 e8 e9))) [] := by kernel_rfl
theorem t84_4_3 (k : Nat) (w e6 e7 e8 e9 : Option Mi.W) : st84 k w 4 3 e6 e7 e8 e9 = .nx (env84 w 4 3 (g84 6 (st84 k w 4 3 e6 e7 e8 e9)) (g84 7 (st84 k w 4 3 e6 e7 e8 e9)) (g84 8 (st84 k w 4 3 e6 e7 e8 e9)) (g84 9 (st84 k w 4 3 e6 e7 e8 e9))) [] := by kernel_rfl
theorem t84_5_0 (k : Nat) (w e6 e7 e8 e9 : Option Mi.W) : st84 k w 5 0 e6 e7 e8 e9 = .nx (env84 w 5 0 (g84 6 (st84 k w 5 0 e6 e7 e8 e9)) (g84 7 (st84 k w 5 0 e6 e7 e8 e9)) (g84 8 (st84 k w 5 0 e6 e7 e8 e9)) (g84 9 (st84 k w 5 0 e6 e7 e8 e9))) [] := by kernel_rfl
theorem t84_5_1 (k : Nat) (w e6 e7 e8 e9 : Option Mi.W) : st84 k w 5 1 e6 e7 e8 e9 = .nx (env84 w 5 1 (g84 6 (st84 k w 5 1 e6 e7 e8 e9)) (g84 7 (st84 k w 5 1 e6 e7 e8 e9)) (g84 8 (st84 k w 5 1 e6 e7 e8 e9)) (g84 9 (st84 k w 5 1 e6 e7 e8 e9))) [] := by kernel_rfl
theorem t84_5_2 (k : Nat) (w e6 e7 e8 e9 : Option Mi.W) : st84 k w 5 2 e6 e7 e8 e9 = .nx (env84 w 5 2 (g84 6 (st84 k w 5 2 e6 e7 e8 e9)) (g84 7 (st84 k w 5 2 e6 e7 e8 e9)) (g84 8 (st84 k w 5 2 e6 e7 e8 e9)) (g84 9 (st84 k w 5 2 e6 e7 e8 e9))) [] := by kernel_rfl
theorem t84_5_3 (k : Nat) (w e6 e7 e8 e9 : Option Mi.W) : st84 k w 5 3 e6 e7 e8 e9 = .nx (env84 w 5 3 (g84 6 (st84 k w 5 3 e6 e7 e8 e9)) (g84 7 (st84 k w 5 3 e6 e7 e8 e9)) (g84 8 (st84 k w 5 3 e6 e7 e8 e9)) (g84 9 (st84 k w 5 3 e6 e7 e8 e9))) [] := by kernel_rfl
theorem t84_5_4 (k : Nat) (w e6 e7 e8 e9 : Option Mi.W) : st84 k w 5 4 e6 e7 e8 e9 = .nx (env84 w 5 4 (g84 6 (st84 k w 5 4 e6 e7 e8 e9)) (g84 7 (st84 k w 5 4 e6 e7 e8 e9)) (g84 8 (st84 k w 5 4 e6 e7 e8 e9)) (g84 9 (st84 k w 5 4 e6 e7 e8 e9))) [] := by kernel_rfl
end Rk

/-! k83: partings told -/
namespace Rk
open PySem Mi
def PN1 : List PyData := [.tuple [.tuple [.int 0]]]
def PN2 : List PyData := [.tuple [.tuple [.int 0], .tuple [.int 1]], .tuple [.tuple [.int 0, .int 1]]]
def PN3 : List PyData := [.tuple [.tuple [.int 0], .tuple [.int 1], .tuple [.int 2]], .tuple [.tuple [.int 0], .tuple [.int 1, .int 2]], .tuple [.tuple [.int 0, .int 1], .tuple [.int 2]], .tuple [.tuple [.int 0, .int 1, .int 2]], .tuple [.tuple [.int 0, .int 2], .tuple [.int 1]]]
def PN4 : List PyData := [.tuple [.tuple [.int 0], .tuple [.int 1], .tuple [.int 2], .tuple [.int 3]], .tuple [.tuple [.int 0], .tuple [.int 1], .tuple [.int 2, .int 3]], .tuple [.tuple [.int 0], .tuple [.int 1, .int 2], .tuple [.int 3]], .tuple [.tuple [.int 0], .tuple [.int 1, .int 2, .int 3]], .tuple [.tuple [.int 0], .tuple [.int 1, .int 3], .tuple [.int 2]], .tuple [.tuple [.int 0, .int 1], .tuple [.int 2], .tuple [.int 3]], .tuple [.tuple [.int 0, .int 1], .tuple [.int 2, .int 3]], .tuple [.tuple [.int 0, .int 1, .int 2], .tuple [.int 3]], .tuple [.tuple [.int 0, .int 1, .int 2, .int 3]], .tuple [.tuple [.int 0, .int 1, .int 3], .tuple [.int 2]], .tuple [.tuple [.int 0, .int 2], .tuple [.int 1], .tuple [.int 3]], .tuple [.tuple [.int 0, .int 2], .tuple [.int 1, .int 3]], .tuple [.tuple [.int 0, .int 2, .int 3], .tuple [.int 1]], .tuple [.tuple [.int 0, .int 3], .tuple [.int 1], .tuple [.int 2]], .tuple [.tuple [.int 0, .int 3], .tuple [.int 1, .int 2]]]
def PN5 : List PyData := [.tuple [.tuple [.int 0], .tuple [.int 1], .tuple [.int 2], .tuple [.int 3], .tuple [.int 4]], .tuple [.tuple [.int 0], .tuple [.int 1], .tuple [.int 2], .tuple [.int 3, .int 4]], .tuple [.tuple [.int 0], .tuple [.int 1], .tuple [.int 2, .int 3], .tuple [.int 4]], .tuple [.tuple [.int 0], .tuple [.int 1], .tuple [.int 2, .int 3, .int 4]], .tuple [.tuple [.int 0], .tuple [.int 1], .tuple [.int 2, .int 4], .tuple [.int 3]], .tuple [.tuple [.int 0], .tuple [.int 1, .int 2], .tuple [.int 3], .tuple [.int 4]], .tuple [.tuple [.int 0], .tuple [.int 1, .int 2], .tuple [.int 3, .int 4]], .tuple [.tuple [.int 0], .tuple [.int 1, .int 2, .int 3], .tuple [.int 4]], .tuple [.tuple [.int 0], .tuple [.int 1, .int 2, .int 3, .int 4]], .tuple [.tuple [.int 0], .tuple [.int 1, .int 2, .int 4], .tuple [.int 3]], .tuple [.tuple [.int 0], .tuple [.int 1, .int 3], .tuple [.int 2], .tuple [.int 4]], .tuple [.tuple [.int 0], .tuple [.int 1, .int 3], .tuple [.int 2, .int 4]], .tuple [.tuple [.int 0], .tuple [.int 1, .int 3, .int 4], .tuple [.int 2]], .tuple [.tuple [.int 0], .tuple [.int 1, .int 4], .tuple [.int 2], .tuple [.int 3]], .tuple [.tuple [.int 0], .tuple [.int 1, .int 4], .tuple [.int 2, .int 3]], .tuple [.tuple [.int 0, .int 1], .tuple [.int 2], .tuple [.int 3], .tuple [.int 4]], .tuple [.tuple [.int 0, .int 1], .tuple [.int 2], .tuple [.int 3, .int 4]], .tuple [.tuple [.int 0, .int 1], .tuple [.int 2, .int 3], .tuple [.int 4]], .tuple [.tuple [.int 0, .int 1], .tuple [.int 2, .int 3, .int 4]], .tuple [.tuple [.int 0, .int 1], .tuple [.int 2, .int 4], .tuple [.int 3]], .tuple [.tuple [.int 0, .int 1, .int 2], .tuple [.int 3], .tuple [.int 4]], .tuple [.tuple [.int 0, .int 1, .int 2], .tuple [.int 3, .int 4]], .tuple [.tuple [.int 0, .int 1, .int 2, .int 3], .tuple [.int 4]], .tuple [.tuple [.int 0, .int 1, .int 2, .int 3, .int 4]], .tuple [.tuple [.int 0, .int 1, .int 2, .int 4], .tuple [.int 3]], .tuple [.tuple [.int 0, .int 1, .int 3], .tuple [.int 2], .tuple [.int 4]], .tuple [.tuple [.int 0, .int 1, .int 3], .tuple [.int 2, .int 4]], .tuple [.tuple [.int 0, .int 1, .int 3, .int 4], .tuple [.int 2]], .tuple [.tuple [.int 0, .int 1, .int 4], .tuple [.int 2], .tuple [.int 3]], .tuple [.tuple [.int 0, .int 1, .int 4], .tuple [.int 2, .int 3]], .tuple [.tuple [.int 0, .int 2], .tuple [.int 1], .tuple [.int 3], .tuple [.int 4]], .tuple [.tuple [.int 0, .int 2], .tuple [.int 1], .tuple [.int 3, .int 4]], .tuple [.tuple [.int 0, .int 2], .tuple [.int 1, .int 3], .tuple [.int 4]], .tuple [.tuple [.int 0, .int 2], .tuple [.int 1, .int 3, .int 4]], .tuple [.tuple [.int 0, .int 2], .tuple [.int 1, .int 4], .tuple [.int 3]], .tuple [.tuple [.int 0, .int 2, .int 3], .tuple [.int 1], .tuple [.int 4]], .tuple [.tuple [.int 0, .int 2, .int 3], .tuple [.int 1, .int 4]], .tuple [.tuple [.int 0, .int 2, .int 3, .int 4], .tuple [.int 1]], .tuple [.tuple [.int 0, .int 2, .int 4], .tuple [.int 1], .tuple [.int 3]], .tuple [.tuple [.int 0, .int 2, .int 4], .tuple [.int 1, .int 3]], .tuple [.tuple [.int 0, .int 3], .tuple [.int 1], .tuple [.int 2], .tuple [.int 4]], .tuple [.tuple [.int 0, .int 3], .tuple [.int 1], .tuple [.int 2, .int 4]], .tuple [.tuple [.int 0, .int 3], .tuple [.int 1, .int 2], .tuple [.int 4]], .tuple [.tuple [.int 0, .int 3], .tuple [.int 1, .int 2, .int 4]], .tuple [.tuple [.int 0, .int 3], .tuple [.int 1, .int 4], .tuple [.int 2]], .tuple [.tuple [.int 0, .int 3, .int 4], .tuple [.int 1], .tuple [.int 2]], .tuple [.tuple [.int 0, .int 3, .int 4], .tuple [.int 1, .int 2]], .tuple [.tuple [.int 0, .int 4], .tuple [.int 1], .tuple [.int 2], .tuple [.int 3]], .tuple [.tuple [.int 0, .int 4], .tuple [.int 1], .tuple [.int 2, .int 3]], .tuple [.tuple [.int 0, .int 4], .tuple [.int 1, .int 2], .tuple [.int 3]], .tuple [.tuple [.int 0, .int 4], .tuple [.int 1, .int 2, .int 3]], .tuple [.tuple [.int 0, .int 4], .tuple [.int 1, .int 3], .tuple [.int 2]]]
def PN6 : List PyData := [.tuple [.tuple [.int 0], .tuple [.int 1], .tuple [.int 2], .tuple [.int 3], .tuple [.int 4], .tuple [.int 5]], .tuple [.tuple [.int 0], .tuple [.int 1], .tuple [.int 2], .tuple [.int 3], .tuple [.int 4, .int 5]], .tuple [.tuple [.int 0], .tuple [.int 1], .tuple [.int 2], .tuple [.int 3, .int 4], .tuple [.int 5]], .tuple [.tuple [.int 0], .tuple [.int 1], .tuple [.int 2], .tuple [.int 3, .int 4, .int 5]], .tuple [.tuple [.int 0], .tuple [.int 1], .tuple [.int 2], .tuple [.int 3, .int 5], .tuple [.int 4]], .tuple [.tuple [.int 0], .tuple [.int 1], .tuple [.int 2, .int 3], .tuple [.int 4], .tuple [.int 5]], .tuple [.tuple [.int 0], .tuple [.int 1], .tuple [.int 2, .int 3], .tuple [.int 4, .int 5]], .tuple [.tuple [.int 0], .tuple [.int 1], .tuple [.int 2, .int 3, .int 4], .tuple [.int 5]], .tuple [.tuple [.int 0], .tuple [.int 1], .tuple [.int 2, .int 3, .int 4, .int 5]], .tuple [.tuple [.int 0], .tuple [.int 1], .tuple [.int 2, .int 3, .int 5], .tuple [.int 4]], .tuple [.tuple [.int 0], .tuple [.int 1], .tuple [.int 2, .int 4], .tuple [.int 3], .tuple [.int 5]], .tuple [.tuple [.int 0], .tuple [.int 1], .tuple [.int 2, .int 4], .tuple [.int 3, .int 5]], .tuple [.tuple [.int 0], .tuple [.int 1], .tuple [.int 2, .int 4, .int 5], .tuple [.int 3]], .tuple [.tuple [.int 0], .tuple [.int 1], .tuple [.int 2, .int 5], .tuple [.int 3], .tuple [.int 4]], .tuple [.tuple [.int 0], .tuple [.int 1], .tuple [.int 2, .int 5], .tuple [.int 3, .int 4]], .tuple [.tuple [.int 0], .tuple [.int 1, .int 2], .tuple [.int 3], .tuple [.int 4], .tuple [.int 5]], .tuple [.tuple [.int 0], .tuple [.int 1, .int 2], .tuple [.int 3], .tuple [.int 4, .int 5]], .tuple [.tuple [.int 0], .tuple [.int 1, .int 2], .tuple [.int 3, .int 4], .tuple [.int 5]], .tuple [.tuple [.int 0], .tuple [.int 1, .int 2], .tuple [.int 3, .int 4, .int 5]], .tuple [.tuple [.int 0], .tuple [.int 1, .int 2], .tuple [.int 3, .int 5], .tuple [.int 4]], .tuple [.tuple [.int 0], .tuple [.int 1, .int 2, .int 3], .tuple [.int 4], .tuple [.int 5]], .tuple [.tuple [.int 0], .tuple [.int 1, .int 2, .int 3], .tuple [.int 4, .int 5]], .tuple [.tuple [.int 0], .tuple [.int 1, .int 2, .int 3, .int 4], .tuple [.int 5]], .tuple [.tuple [.int 0], .tuple [.int 1, .int 2, .int 3, .int 4, .int 5]], .tuple [.tuple [.int 0], .tuple [.int 1, .int 2, .int 3, .int 5], .tuple [.int 4]], .tuple [.tuple [.int 0], .tuple [.int 1, .int 2, .int 4], .tuple [.int 3], .tuple [.int 5]], .tuple [.tuple [.int 0], .tuple [.int 1, .int 2, .int 4], .tuple [.int 3, .int 5]], .tuple [.tuple [.int 0], .tuple [.int 1, .int 2, .int 4, .int 5], .tuple [.int 3]], .tuple [.tuple [.int 0], .tuple [.int 1, .int 2, .int 5], .tuple [.int 3], .tuple [.int 4]], .tuple [.tuple [.int 0], .tuple [.int 1, .int 2, .int 5], .tuple [.int 3, .int 4]], .tuple [.tuple [.int 0], .tuple [.int 1, .int 3], .tuple [.int 2], .tuple [.int 4], .tuple [.int 5]], .tuple [.tuple [.int 0], .tuple [.int 1, .int 3], .tuple [.int 2], .tuple [.int 4, .int 5]], .tuple [.tuple [.int 0], .tuple [.int 1, .int 3], .tuple [.int 2, .int 4], .tuple [.int 5]], .tuple [.tuple [.int 0], .tuple [.int 1, .int 3], .tuple [.int 2, .int 4, .int 5]], .tuple [.tuple [.int 0], .tuple [.int 1, .int 3], .tuple [.int 2, .int 5], .tuple [.int 4]], .tuple [.tuple [.int 0], .tuple [.int 1, .int 3, .int 4], .tuple [.int 2], .tuple [.int 5]], .tuple [.tuple [.int 0], .tuple [.int 1, .int 3, .int 4], .tuple [.int 2, .int 5]], .tuple [.tuple [.int 0], .tuple [.int 1, .int 3, .int 4, .int 5], .tuple [.int 2]], .tuple [.tuple [.int 0], .tuple [.int 1, .int 3, .int 5], .tuple [.int 2], .tuple [.int 4]], .tuple [.tuple [.int 0], .tuple [.int 1, .int 3, .int 5], .tuple [.int 2, .int 4]], .tuple [.tuple [.int 0], .tuple [.int 1, .int 4], .tuple [.int 2], .tuple [.int 3], .tuple [.int 5]], .tuple [.tuple [.int 0], .tuple [.int 1, .int 4], .tuple [.int 2], .tuple [.int 3, .int 5]], .tuple [.tuple [.int 0], .tuple [.int 1, .int 4], .tuple [.int 2, .int 3], .tuple [.int 5]], .tuple [.tuple [.int 0], .tuple [.int 1, .int 4], .tuple [.int 2, .int 3, .int 5]], .tuple [.tuple [.int 0], .tuple [.int 1, .int 4], .tuple [.int 2, .int 5], .tuple [.int 3]], .tuple [.tuple [.int 0], .tuple [.int 1, .int 4, .int 5], .tuple [.int 2], .tuple [.int 3]], .tuple [.tuple [.int 0], .tuple [.int 1, .int 4, .int 5], .tuple [.int 2, .int 3]], .tuple [.tuple [.int 0], .tuple [.int 1, .int 5], .tuple [.int 2], .tuple [.int 3], .tuple [.int 4]], .tuple [.tuple [.int 0], .tuple [.int 1, .int 5], .tuple [.int 2], .tuple [.int 3, .int 4]], .tuple [.tuple [.int 0], .tuple [.int 1, .int 5], .tuple [.int 2, .int 3], .tuple [.int 4]], .tuple [.tuple [.int 0], .tuple [.int 1, .int 5], .tuple [.int 2, .int 3, .int 4]], .tuple [.tuple [.int 0], .tuple [.int 1, .int 5], .tuple [.int 2, .int 4], .tuple [.int 3]], .tuple [.tuple [.int 0, .int 1], .tuple [.int 2], .tuple [.int 3], .tuple [.int 4], .tuple [.int 5]], .tuple [.tuple [.int 0, .int 1], .tuple [.int 2], .tuple [.int 3], .tuple [.int 4, .int 5]], .tuple [.tuple [.int 0, .int 1], .tuple [.int 2], .tuple [.int 3, .int 4], .tuple [.int 5]], .tuple [.tuple [.int 0, .int 1], .tuple [.int 2], .tuple [.int 3, .int 4, .int 5]], .tuple [.tuple [.int 0, .int 1], .tuple [.int 2], .tuple [.int 3, .int 5], .tuple [.int 4]], .tuple [.tuple [.int 0, .int 1], .tuple [.int 2, .int 3], .tuple [.int 4], .tuple [.int 5]], .tuple [.tuple [.int 0, .int 1], .tuple [.int 2, .int 3], .tuple [.int 4, .int 5]], .tuple [.tuple [.int 0, .int 1], .tuple [.int 2, .int 3, .int 4], .tuple [.int 5]], .tuple [.tuple [.int 0, .int 1], .tuple [.int 2, .int 3, .int 4, .int 5]], .tuple [.tuple [.int 0, .int 1], .tuple [.int 2, .int 3, .int 5], .tuple [.int 4]], .tuple [.tuple [.int 0, .int 1], .tuple [.int 2, .int 4], .tuple [.int 3], .tuple [.int 5]], .tuple [.tuple [.int 0, .int 1], .tuple [.int 2, .int 4], .tuple [.int 3, .int 5]], .tuple [.tuple [.int 0, .int 1], .tuple [.int 2, .int 4, .int 5], .tuple [.int 3]], .tuple [.tuple [.int 0, .int 1], .tuple [.int 2, .int 5], .tuple [.int 3], .tuple [.int 4]], .tuple [.tuple [.int 0, .int 1], .tuple [.int 2, .int 5], .tuple [.int 3, .int 4]], .tuple [.tuple [.int 0, .int 1, .int 2], .tuple [.int 3], .tuple [.int 4], .tuple [.int 5]], .tuple [.tuple [.int 0, .int 1, .int 2], .tuple [.int 3], .tuple [.int 4, .int 5]], .tuple [.tuple [.int 0, .int 1, .int 2], .tuple [.int 3, .int 4], .tuple [.int 5]], .tuple [.tuple [.int 0, .int 1, .int 2], .tuple [.int 3, .int 4, .int 5]], .tuple [.tuple [.int 0, .int 1, .int 2], .tuple [.int 3, .int 5], .tuple [.int 4]], .tuple [.tuple [.int 0, .int 1, .int 2, .int 3], .tuple [.int 4], .tuple [.int 5]], .tuple [.tuple [.int 0, .int 1, .int 2, .int 3], .tuple [.int 4, .int 5]], .tuple [.tuple [.int 0, .int 1, .int 2, .int 3, .int 4], .tuple [.int 5]], .tuple [.tuple [.int 0, .int 1, .int 2, .int 3, .int 4, .int 5]], .tuple [.tuple [.int 0, .int 1, .int 2, .int 3, .int 5], .tuple [.int 4]], .tuple [.tuple [.int 0, .int 1, .int 2, .int 4], .tuple [.int 3], .tuple [.int 5]], .tuple [.tuple [.int 0, .int 1, .int 2, .int 4], .tuple [.int 3, .int 5]], .tuple [.tuple [.int 0, .int 1, .int 2, .int 4, .int 5], .tuple [.int 3]], .tuple [.tuple [.int 0, .int 1, .int 2, .int 5], .tuple [.int 3], .tuple [.int 4]], .tuple [.tuple [.int 0, .int 1, .int 2, .int 5], .tuple [.int 3, .int 4]], .tuple [.tuple [.int 0, .int 1, .int 3], .tuple [.int 2], .tuple [.int 4], .tuple [.int 5]], .tuple [.tuple [.int 0, .int 1, .int 3], .tuple [.int 2], .tuple [.int 4, .int 5]], .tuple [.tuple [.int 0, .int 1, .int 3], .tuple [.int 2, .int 4], .tuple [.int 5]], .tuple [.tuple [.int 0, .int 1, .int 3], .tuple [.int 2, .int 4, .int 5]], .tuple [.tuple [.int 0, .int 1, .int 3], .tuple [.int 2, .int 5], .tuple [.int 4]], .tuple [.tuple [.int 0, .int 1, .int 3, .int 4], .tuple [.int 2], .tuple [.int 5]], .tuple [.tuple [.int 0, .int 1, .int 3, .int 4], .tuple [.int 2, .int 5]], .tuple [.tuple [.int 0, .int 1, .int 3, .int 4, .int 5], .tuple [.int 2]], .tuple [.tuple [.int 0, .int 1, .int 3, .int 5], .tuple [.int 2], .tuple [.int 4]], .tuple [.tuple [.int 0, .int 1, .int 3, .int 5], .tuple [.int 2, .int 4]], .tuple [.tuple [.int 0, .int 1, .int 4], .tuple [.int 2], .tuple [.int 3], .tuple [.int 5]], .tuple [.tuple [.int 0, .int 1, .int 4], .tuple [.int 2], .tuple [.int 3, .int 5]], .tuple [.tuple [.int 0, .int 1, .int 4], .tuple [.int 2, .int 3], .tuple [.int 5]], .tuple [.tuple [.int 0, .int 1, .int 4], .tuple [.int 2, .int 3, .int 5]], .tuple [.tuple [.int 0, .int 1, .int 4], .tuple [.int 2, .int 5], .tuple [.int 3]], .tuple [.tuple [.int 0, .int 1, .int 4, .int 5], .tuple [.int 2], .tuple [.int 3]], .tuple [.tuple [.int 0, .int 1, .int 4, .int 5], .tuple [.int 2, .int 3]], .tuple [.tuple [.int 0, .int 1, .int 5], .tuple [.int 2], .tuple [.int 3], .tuple [.int 4]], .tuple [.tuple [.int 0, .int 1, .int 5], .tuple [.int 2], .tuple [.int 3, .int 4]], .tuple [.tuple [.int 0, .int 1, .int 5], .tuple [.int 2, .int 3], .tuple [.int 4]], .tuple [.tuple [.int 0, .int 1, .int 5], .tuple [.int 2, .int 3, .int 4]], .tuple [.tuple [.int 0, .int 1, .int 5], .tuple [.int 2, .int 4], .tuple [.int 3]], .tuple [.tuple [.int 0, .int 2], .tuple [.int 1], .tuple [.int 3], .tuple [.int 4], .tuple [.int 5]], .tuple [.tuple [.int 0, .int 2], .tuple [.int 1], .tuple [.int 3], .tuple [.int 4, .int 5]], .tuple [.tuple [.int 0, .int 2], .tuple [.int 1], .tuple [.int 3, .int 4], .tuple [.int 5]], .tuple [.tuple [.int 0, .int 2], .tuple [.int 1], .tuple [.int 3, .int 4, .int 5]], .tuple [.tuple [.int 0, .int 2], .tuple [.int 1], .tuple [.int 3, .int 5], .tuple [.int 4]], .tuple [.tuple [.int 0, .int 2], .tuple [.int 1, .int 3], .tuple [.int 4], .tuple [.int 5]], .tuple [.tuple [.int 0, .int 2], .tuple [.int 1, .int 3], .tuple [.int 4, .int 5]], .tuple [.tuple [.int 0, .int 2], .tuple [.int 1, .int 3, .int 4], .tuple [.int 5]], .tuple [.tuple [.int 0, .int 2], .tuple [.int 1, .int 3, .int 4, .int 5]], .tuple [.tuple [.int 0, .int 2], .tuple [.int 1, .int 3, .int 5], .tuple [.int 4]], .tuple [.tuple [.int 0, .int 2], .tuple [.int 1, .int 4], .tuple [.int 3], .tuple [.int 5]], .tuple [.tuple [.int 0, .int 2], .tuple [.int 1, .int 4], .tuple [.int 3, .int 5]], .tuple [.tuple [.int 0, .int 2], .tuple [.int 1, .int 4, .int 5], .tuple [.int 3]], .tuple [.tuple [.int 0, .int 2], .tuple [.int 1, .int 5], .tuple [.int 3], .tuple [.int 4]], .tuple [.tuple [.int 0, .int 2], .tuple [.int 1, .int 5], .tuple [.int 3, .int 4]], .tuple [.tuple [.int 0, .int 2, .int 3], .tuple [.int 1], .tuple [.int 4], .tuple [.int 5]], .tuple [.tuple [.int 0, .int 2, .int 3], .tuple [.int 1], .tuple [.int 4, .int 5]], .tuple [.tuple [.int 0, .int 2, .int 3], .tuple [.int 1, .int 4], .tuple [.int 5]], .tuple [.tuple [.int 0, .int 2, .int 3], .tuple [.int 1, .int 4, .int 5]], .tuple [.tuple [.int 0, .int 2, .int 3], .tuple [.int 1, .int 5], .tuple [.int 4]], .tuple [.tuple [.int 0, .int 2, .int 3, .int 4], .tuple [.int 1], .tuple [.int 5]], .tuple [.tuple [.int 0, .int 2, .int 3, .int 4], .tuple [.int 1, .int 5]], .tuple [.tuple [.int 0, .int 2, .int 3, .int 4, .int 5], .tuple [.int 1]], .tuple [.tuple [.int 0, .int 2, .int 3, .int 5], .tuple [.int 1], .tuple [.int 4]], .tuple [.tuple [.int 0, .int 2, .int 3, .int 5], .tuple [.int 1, .int 4]], .tuple [.tuple [.int 0, .int 2, .int 4], .tuple [.int 1], .tuple [.int 3], .tuple [.int 5]], .tuple [.tuple [.int 0, .int 2, .int 4], .tuple [.int 1], .tuple [.int 3, .int 5]], .tuple [.tuple [.int 0, .int 2, .int 4], .tuple [.int 1, .int 3], .tuple [.int 5]], .tuple [.tuple [.int 0, .int 2, .int 4], .tuple [.int 1, .int 3, .int 5]], .tuple [.tuple [.int 0, .int 2, .int 4], .tuple [.int 1, .int 5], .tuple [.int 3]], .tuple [.tuple [.int 0, .int 2, .int 4, .int 5], .tuple [.int 1], .tuple [.int 3]], .tuple [.tuple [.int 0, .int 2, .int 4, .int 5], .tuple [.int 1, .int 3]], .tuple [.tuple [.int 0, .int 2, .int 5], .tuple [.int 1], .tuple [.int 3], .tuple [.int 4]], .tuple [.tuple [.int 0, .int 2, .int 5], .tuple [.int 1], .tuple [.int 3, .int 4]], .tuple [.tuple [.int 0, .int 2, .int 5], .tuple [.int 1, .int 3], .tuple [.int 4]], .tuple [.tuple [.int 0, .int 2, .int 5], .tuple [.int 1, .int 3, .int 4]], .tuple [.tuple [.int 0, .int 2, .int 5], .tuple [.int 1, .int 4], .tuple [.int 3]], .tuple [.tuple [.int 0, .int 3], .tuple [.int 1], .tuple [.int 2], .tuple [.int 4], .tuple [.int 5]], .tuple [.tuple [.int 0, .int 3], .tuple [.int 1], .tuple [.int 2], .tuple [.int 4, .int 5]], .tuple [.tuple [.int 0, .int 3], .tuple [.int 1], .tuple [.int 2, .int 4], .tuple [.int 5]], .tuple [.tuple [.int 0, .int 3], .tuple [.int 1], .tuple [.int 2, .int 4, .int 5]], .tuple [.tuple [.int 0, .int 3], .tuple [.int 1], .tuple [.int 2, .int 5], .tuple [.int 4]], .tuple [.tuple [.int 0, .int 3], .tuple [.int 1, .int 2], .tuple [.int 4], .tuple [.int 5]], .tuple [.tuple [.int 0, .int 3], .tuple [.int 1, .int 2], .tuple [.int 4, .int 5]], .tuple [.tuple [.int 0, .int 3], .tuple [.int 1, .int 2, .int 4], .tuple [.int 5]], .tuple [.tuple [.int 0, .int 3], .tuple [.int 1, .int 2, .int 4, .int 5]], .tuple [.tuple [.int 0, .int 3], .tuple [.int 1, .int 2, .int 5], .tuple [.int 4]], .tuple [.tuple [.int 0, .int 3], .tuple [.int 1, .int 4], .tuple [.int 2], .tuple [.int 5]], .tuple [.tuple [.int 0, .int 3], .tuple [.int 1, .int 4], .tuple [.int 2, .int 5]], .tuple [.tuple [.int 0, .int 3], .tuple [.int 1, .int 4, .int 5], .tuple [.int 2]], .tuple [.tuple [.int 0, .int 3], .tuple [.int 1, .int 5], .tuple [.int 2], .tuple [.int 4]], .tuple [.tuple [.int 0, .int 3], .tuple [.int 1, .int 5], .tuple [.int 2, .int 4]], .tuple [.tuple [.int 0, .int 3, .int 4], .tuple [.int 1], .tuple [.int 2], .tuple [.int 5]], .tuple [.tuple [.int 0, .int 3, .int 4], .tuple [.int 1], .tuple [.int 2, .int 5]], .tuple [.tuple [.int 0, .int 3, .int 4], .tuple [.int 1, .int 2], .tuple [.int 5]], .tuple [.tuple [.int 0, .int 3, .int 4], .tuple [.int 1, .int 2, .int 5]], .tuple [.tuple [.int 0, .int 3, .int 4], .tuple [.int 1, .int 5], .tuple [.int 2]], .tuple [.tuple [.int 0, .int 3, .int 4, .int 5], .tuple [.int 1], .tuple [.int 2]], .tuple [.tuple [.int 0, .int 3, .int 4, .int 5], .tuple [.int 1, .int 2]], .tuple [.tuple [.int 0, .int 3, .int 5], .tuple [.int 1], .tuple [.int 2], .tuple [.int 4]], .tuple [.tuple [.int 0, .int 3, .int 5], .tuple [.int 1], .tuple [.int 2, .int 4]], .tuple [.tuple [.int 0, .int 3, .int 5], .tuple [.int 1, .int 2], .tuple [.int 4]], .tuple [.tuple [.int 0, .int 3, .int 5], .tuple [.int 1, .int 2, .int 4]], .tuple [.tuple [.int 0, .int 3, .int 5], .tuple [.int 1, .int 4], .tuple [.int 2]], .tuple [.tuple [.int 0, .int 4], .tuple [.int 1], .tuple [.int 2], .tuple [.int 3], .tuple [.int 5]], .tuple [.tuple [.int 0, .int 4], .tuple [.int 1], .tuple [.int 2], .tuple [.int 3, .int 5]], .tuple [.tuple [.int 0, .int 4], .tuple [.int 1], .tuple [.int 2, .int 3], .tuple [.int 5]], .tuple [.tuple [.int 0, .int 4], .tuple [.int 1], .tuple [.int 2, .int 3, .int 5]], .tuple [.tuple [.int 0, .int 4], .tuple [.int 1], .tuple [.int 2, .int 5], .tuple [.int 3]], .tuple [.tuple [.int 0, .int 4], .tuple [.int 1, .int 2], .tuple [.int 3], .tuple [.int 5]], .tuple [.tuple [.int 0, .int 4], .tuple [.int 1, .int 2], .tuple [.int 3, .int 5]], .tuple [.tuple [.int 0, .int 4], .tuple [.int 1, .int 2, .int 3], .tuple [.int 5]], .tuple [.tuple [.int 0, .int 4], .tuple [.int 1, .int 2, .int 3, .int 5]], .tuple [.tuple [.int 0, .int 4], .tuple [.int 1, .int 2, .int 5], .tuple [.int 3]], .tuple [.tuple [.int 0, .int 4], .tuple [.int 1, .int 3], .tuple [.int 2], .tuple [.int 5]], .tuple [.tuple [.int 0, .int 4], .tuple [.int 1, .int 3], .tuple [.int 2, .int 5]], .tuple [.tuple [.int 0, .int 4], .tuple [.int 1, .int 3, .int 5], .tuple [.int 2]], .tuple [.tuple [.int 0, .int 4], .tuple [.int 1, .int 5], .tuple [.int 2], .tuple [.int 3]], .tuple [.tuple [.int 0, .int 4], .tuple [.int 1, .int 5], .tuple [.int 2, .int 3]], .tuple [.tuple [.int 0, .int 4, .int 5], .tuple [.int 1], .tuple [.int 2], .tuple [.int 3]], .tuple [.tuple [.int 0, .int 4, .int 5], .tuple [.int 1], .tuple [.int 2, .int 3]], .tuple [.tuple [.int 0, .int 4, .int 5], .tuple [.int 1, .int 2], .tuple [.int 3]], .tuple [.tuple [.int 0, .int 4, .int 5], .tuple [.int 1, .int 2, .int 3]], .tuple [.tuple [.int 0, .int 4, .int 5], .tuple [.int 1, .int 3], .tuple [.int 2]], .tuple [.tuple [.int 0, .int 5], .tuple [.int 1], .tuple [.int 2], .tuple [.int 3], .tuple [.int 4]], .tuple [.tuple [.int 0, .int 5], .tuple [.int 1], .tuple [.int 2], .tuple [.int 3, .int 4]], .tuple [.tuple [.int 0, .int 5], .tuple [.int 1], .tuple [.int 2, .int 3], .tuple [.int 4]], .tuple [.tuple [.int 0, .int 5], .tuple [.int 1], .tuple [.int 2, .int 3, .int 4]], .tuple [.tuple [.int 0, .int 5], .tuple [.int 1], .tuple [.int 2, .int 4], .tuple [.int 3]], .tuple [.tuple [.int 0, .int 5], .tuple [.int 1, .int 2], .tuple [.int 3], .tuple [.int 4]], .tuple [.tuple [.int 0, .int 5], .tuple [.int 1, .int 2], .tuple [.int 3, .int 4]], .tuple [.tuple [.int 0, .int 5], .tuple [.int 1, .int 2, .int 3], .tuple [.int 4]], .tuple [.tuple [.int 0, .int 5], .tuple [.int 1, .int 2, .int 3, .int 4]], .tuple [.tuple [.int 0, .int 5], .tuple [.int 1, .int 2, .int 4], .tuple [.int 3]], .tuple [.tuple [.int 0, .int 5], .tuple [.int 1, .int 3], .tuple [.int 2], .tuple [.int 4]], .tuple [.tuple [.int 0, .int 5], .tuple [.int 1, .int 3], .tuple [.int 2, .int 4]], .tuple [.tuple [.int 0, .int 5], .tuple [.int 1, .int 3, .int 4], .tuple [.int 2]], .tuple [.tuple [.int 0, .int 5], .tuple [.int 1, .int 4], .tuple [.int 2], .tuple [.int 3]], .tuple [.tuple [.int 0, .int 5], .tuple [.int 1, .int 4], .tuple [.int 2, .int 3]]]
def PN : Nat → List PyData
  | 1 => PN1
  | 2 => PN2
  | 3 => PN3
  | 4 => PN4
  | 5 => PN5
  | 6 => PN6
  | _ => []
def okL (a : Res R) (ys : List PyData) : Bool := match a with
  | .ok (.fl xs) [] => sameL xs ys
  | _ => false
theorem okL_i {a : Res R} {ys : List PyData} (h : okL a ys = true) : a = .ok (.fl ys) [] := by
  unfold okL at h
  split at h
  · rw [sameL_eq h]
  · cases h
def lenD (m : Nat) : PyData → Bool
  | .tuple xs => decide ((xs.length : Int) = m)
  | _ => false
def isTupB : PyData → Bool
  | .tuple _ => true
  | _ => false
theorem tabA1 (k : Nat) : okL (callF T (k + 11) i_all_partings [.d (.int 1)] []) PN1 = true := by kernel_rfl
theorem tabA2 (k : Nat) : okL (callF T (k + 11) i_all_partings [.d (.int 2)] []) PN2 = true := by kernel_rfl
theorem tabA3 (k : Nat) : okL (callF T (k + 11) i_all_partings [.d (.int 3)] []) PN3 = true := by kernel_rfl
theorem tabA4 (k : Nat) : okL (callF T (k + 11) i_all_partings [.d (.int 4)] []) PN4 = true := by kernel_rfl
theorem tabA5 (k : Nat) : okL (callF T (k + 11) i_all_partings [.d (.int 5)] []) PN5 = true := by kernel_rfl
theorem tabA6 (k : Nat) : okL (callF T (k + 11) i_all_partings [.d (.int 6)] []) PN6 = true := by kernel_rfl
theorem PN_ok : ∀ n : Nat, 1 ≤ n → n ≤ 6 → (nodictL (PN n) && decide (depL (PN n) ≤ 3) && decide ((PN n).length ≤ 1000) && (PN n).all isTupB) = true := by
  intro n h1 h2
  obtain rfl | rfl | rfl | rfl | rfl | rfl : n = 1 ∨ n = 2 ∨ n = 3 ∨ n = 4 ∨ n = 5 ∨ n = 6 := by omega
  all_goals decide +kernel
theorem tabA (k n : Nat) (n1 : 1 ≤ n) (n6 : n ≤ 6) : callF T (k + 11) i_all_partings [.d (.int n)] [] = .ok (.fl (PN n)) [] := by
  obtain rfl | rfl | rfl | rfl | rfl | rfl : n = 1 ∨ n = 2 ∨ n = 3 ∨ n = 4 ∨ n = 5 ∨ n = 6 := by omega
  · exact okL_i (tabA1 k)
  · exact okL_i (tabA2 k)
  · exact okL_i (tabA3 k)
  · exact okL_i (tabA4 k)
  · exact okL_i (tabA5 k)
  · exact okL_i (tabA6 k)
theorem partings_ok (k n m : Nat) (n1 : 1 ≤ n) (n6 : n ≤ 6) (m1 : 1 ≤ m) (mn : m ≤ n) : callF T (k + 12) i_partings [.d (.int n), .d (.int m)] [] = .ok (.fl ((PN n).filter (lenD m))) [] := by
  have hu : isUpto (.int n) 1 6 = true := by simp [isUpto]; omega
  have ct := fun h => check_things_ok (k := k + 8) (.int n) h
  simp only [hu, if_true] at ct
  have hm : isUpto (.int m) 1 n = true := by simp [isUpto]; omega
  have iu := fun h => is_upto_ok (k := k + 9) (.int m) 1 n h
  rw [hm] at iu
  have ap := tabA k n n1 n6
  have pk := PN_ok n n1 n6
  simp only [Bool.and_eq_true, decide_eq_true_eq, List.all_eq_true] at pk
  have hl := lcS_filterE (α := PyData) (body := lcB (callF T (k + 11)) (.var 2) (.nm 2) (.cons (.cmp .eq (.bi .len (.cons (.var 2) .nil)) (.var 1)) .nil) [some (.d (.int n)), some (.d (.int m)), none]) (st := yes) (h := []) (fun y => y) (lenD m) (fun y => y) rfl (xs := PN n) fun y hy => by
    have ht := pk.2 y hy
    cases y with
    | tuple zs =>
      by_cases e : (zs.length : Int) = m <;> simp [lcB, aim, evalC, evalE, evalL, lenD, e]
    | _ => cases ht
  simp only [List.map_id'] at hl
  refine call_fl (h' := []) t_partings rfl rfl ?_ []
  generalize (PN n).filter (lenD m) = FL at *
  generalize PN n = P at *
  simp [entry, b_partings, evalS, evalT, evalE, evalL, ct, iu, ap, hl]
section
variable {k : Nat} {h t : Hs}
end
end Rk

/-! sorted(set(..)) of nested tuples: what it tells, plainly -/
namespace Rk
open PySem Mi
mutual
theorem tri_key {b : Bool} : ∀ (x y : PyData) (k l : NestedKey), keyD b x = some k → keyD b y = some l → PySem.W.alike x y = true → (PyData.eqv x y = true ∧ x = y) ∨ (PyData.eqv x y = false ∧ (PySem.W.dataLt x y = true ∨ PySem.W.dataLt y x = true))
  | .int i, y, k, l, e, e', h => by
    cases y with
    | int j =>
      rw [eqv_int, PySem.W.dataLt_int, PySem.W.dataLt_int, decide_eq_true_eq, decide_eq_true_eq, decide_eq_true_eq, decide_eq_false_iff_not]
      by_cases c : i = j
      · exact .inl ⟨c, by rw [c]⟩
      · exact .inr ⟨c, by omega⟩
    | _ => simp [PySem.W.alike] at h
  | .bool i, y, k, l, e, e', h => by
    cases y with
    | bool j =>
      rw [PySem.W.dataLt_bool, PySem.W.dataLt_bool]
      cases i <;> cases j <;> first | exact .inl ⟨by decide, rfl⟩ | exact .inr ⟨by decide, by decide⟩
    | _ => simp [PySem.W.alike] at h
  | .tuple xs, y, k, l, e, e', h => by
    cases y with
    | tuple ys =>
      obtain ⟨ks, e1, -⟩ := keyD_tup e
      obtain ⟨ls, e2, -⟩ := keyD_tup e'
      have hal : PySem.W.alikeAll xs ys = true := by simpa [PySem.W.alike] using h
      rw [PySem.W.dataLt_tuple, PySem.W.dataLt_tuple]
      have ee : PyData.eqv (.tuple xs) (.tuple ys) = PyData.eqvAll xs ys := by rw [PyData.eqv]
      rw [ee]
      rcases tri_keys xs ys ks ls e1 e2 hal with ⟨a, rfl⟩ | c
      · exact .inl ⟨a, rfl⟩
      · exact .inr c
    | _ => simp [PySem.W.alike] at h
  | .none, _, k, _, e, _, _ | .str _, _, k, _, e, _, _ | .list _, _, k, _, e, _, _ | .dict _, _, k, _, e, _, _ => by simp [keyD] at e
theorem tri_keys {b : Bool} : ∀ (xs ys : List PyData) (ks ls : List NestedKey), keysD b xs = some ks → keysD b ys = some ls → PySem.W.alikeAll xs ys = true →
    (PyData.eqvAll xs ys = true ∧ xs = ys) ∨ (PyData.eqvAll xs ys = false ∧ (PyProof.Rows.lexLt PyProof.Rows.itemOrd (PySem.W.keyToksAll xs) (PySem.W.keyToksAll ys) = true ∨ PyProof.Rows.lexLt PyProof.Rows.itemOrd (PySem.W.keyToksAll ys) (PySem.W.keyToksAll xs) = true))
  | [], [], _, _, _, _, _ => .inl ⟨by simp [PyData.eqvAll], rfl⟩
  | [], y :: ys, _, _, _, _, _ => .inr ⟨by simp [PyData.eqvAll], .inl (by simp [PySem.W.keyToksAll, PyProof.Rows.lexLt, PyProof.Rows.itemLt])⟩
  | x :: xs, [], _, _, _, _, _ => .inr ⟨by simp [PyData.eqvAll], .inr (by simp [PySem.W.keyToksAll, PyProof.Rows.lexLt, PyProof.Rows.itemLt])⟩
  | x :: xs, y :: ys, ks, ls, e, e', h => by
    obtain ⟨k, r, e1, e2, -⟩ := keysD_cons e
    obtain ⟨k', r', e1', e2', -⟩ := keysD_cons e'
    obtain ⟨h1, h2⟩ := PySem.W.alike_all_cons h
    have h1' : PySem.W.alike y x = true := by rw [PySem.W.alike_comm]; exact h1
    rw [PySem.W.dataLt_cons h1, PySem.W.dataLt_cons h1', PySem.W.eqv_all_cons, PySem.W.eqv_comm y x]
    rcases tri_key x y k k' e1 e1' h1 with ⟨a, rfl⟩ | ⟨a, c⟩
    · rw [a]
      simp only [Bool.true_and, if_true]
      rcases tri_keys xs ys r r' e2 e2' h2 with ⟨b, rfl⟩ | c
      · exact .inl ⟨b, rfl⟩
      · exact .inr c
    · rw [a]
      simp only [Bool.false_and, Bool.false_eq_true, if_false]
      exact .inr ⟨trivial, c⟩
end
/-- what is asked, and what is told -/
theorem nest_of {b : Bool} {xs : List PyData} {ks : List NestedKey} (kb : keysD b xs = some ks) (kd : ∀ k ∈ ks, k.depth ≤ 8) (ht : ∀ x ∈ xs, ∃ ys, x = .tuple ys) (few : (nub xs).length ≤ 306) (ord : ordOk xs = true) (hi : xs.all hasItem = true ∨ (nub xs).length ≤ 1) :
    nestO xs = some (.fl (sortD (nub xs))) ∧ (nub xs).Nodup ∧ (∀ x, x ∈ nub xs ↔ x ∈ xs) ∧ ∀ x ∈ xs, ∀ y ∈ xs, leD x y = true → leD y x = true → x = y := by
  obtain ⟨o1, o2⟩ := ordOk_i ord
  have tri : ∀ x ∈ xs, ∀ y ∈ xs, x = y ∨ PySem.W.dataLt x y = true ∨ PySem.W.dataLt y x = true := fun x hx y hy => by
    obtain ⟨k, -, e⟩ := keysD_mem kb x hx
    obtain ⟨l, -, e'⟩ := keysD_mem kb y hy
    rcases tri_key x y k l e e' (o1 x hx y hy) with ⟨-, z⟩ | ⟨-, z⟩
    · exact .inl z
    · exact .inr z
  obtain ⟨n1, n2⟩ := nub_ok kb
  refine ⟨?_, n1, n2, fun x hx y hy h1 h2 => ?_⟩
  · unfold nestO
    have k1 : keysOk b xs = true := by
      unfold keysOk
      rw [kb]
      exact List.all_eq_true.mpr fun k hk => decide_eq_true (kd k hk)
    have k2 : (keysOk false xs || keysOk true xs) = true := by cases b <;> simp [k1]
    have k3 : (xs.all fun x => !notTup x) = true := List.all_eq_true.mpr fun x hx => by
      obtain ⟨ys, rfl⟩ := ht x hx
      rfl
    have k4 : triOk xs = true := List.all_eq_true.mpr fun x hx => List.all_eq_true.mpr fun y hy => by
      rcases tri x hx y hy with rfl | z | z
      · obtain ⟨k, -, e⟩ := keysD_mem kb x hx
        rw [same_key x k e]
        rfl
      · rw [z]; simp
      · rw [z]; simp
    have k5 : (xs.all hasItem || decide ((nub xs).length ≤ 1)) = true := by
      rcases hi with h | h
      · rw [h]; rfl
      · rw [decide_eq_true h, Bool.or_true]
    have : nestOk xs = true := by
      unfold nestOk
      rw [k3, k2, decide_eq_true few, ord, k5, k4]
      rfl
    rw [if_pos this]
  · simp only [leD, Bool.not_eq_true'] at h1 h2
    rcases tri x hx y hy with z | z | z
    · exact z
    · rw [h2] at z; cases z
    · rw [h1] at z; cases z
end Rk

/-! k84: the ninety partings of six things into three lots -/
namespace Rk
open PySem Mi
def encP (L : List (List Int)) : PyData := .tuple (L.map fun is => .tuple (is.map .int))
theorem alike_tupI : ∀ L M : List (List Int), PySem.W.alikeAll (L.map fun is => .tuple (is.map .int)) (M.map fun is => .tuple (is.map .int)) = true
  | [], [] => by simp [PySem.W.alikeAll]
  | [], _ :: _ => by simp [PySem.W.alikeAll]
  | _ :: _, [] => by simp [PySem.W.alikeAll]
  | a :: L, b :: M => by
    have h : PySem.W.alike (.tuple (a.map .int)) (.tuple (b.map .int)) = true := by
      rw [PySem.W.alike]
      exact PySem.W.alike_ints a b
    simp only [List.map_cons, PySem.W.alikeAll, h, alike_tupI L M, Bool.and_self]
theorem ordOk_P (X : List (List (List Int))) (hd : ∀ L ∈ X, (encP L).depth ≤ 64) : ordOk (X.map encP) = true := by
  refine ordOk_of (fun x hx y hy => ?_) fun x hx => ?_
  · obtain ⟨L, -, rfl⟩ := List.mem_map.mp hx
    obtain ⟨M, -, rfl⟩ := List.mem_map.mp hy
    show PySem.W.alike (.tuple _) (.tuple _) = true
    rw [PySem.W.alike]
    exact alike_tupI L M
  · obtain ⟨L, hL, rfl⟩ := List.mem_map.mp hx
    exact ⟨hd L hL, fun e => by cases e⟩
theorem seq_nx {C : Cf} {a r : S} {env env' : Mi.Env} {h h' : Hs} (e : evalS C a env h = .nx env' h') : evalS C (.seq a r) env h = evalS C r env' h' := by
  rw [evalS, e]
  rfl
def X63 : List (List (List Int)) := [[[0], [1], [2, 3, 4, 5]], [[0], [1, 2], [3, 4, 5]], [[0], [1, 2, 3], [4, 5]], [[0], [1, 2, 3, 4], [5]], [[0], [1, 2, 3, 5], [4]], [[0], [1, 2, 4], [3, 5]], [[0], [1, 2, 4, 5], [3]], [[0], [1, 2, 5], [3, 4]], [[0], [1, 3], [2, 4, 5]], [[0], [1, 3, 4], [2, 5]], [[0], [1, 3, 4, 5], [2]], [[0], [1, 3, 5], [2, 4]], [[0], [1, 4], [2, 3, 5]], [[0], [1, 4, 5], [2, 3]], [[0], [1, 5], [2, 3, 4]], [[0, 1], [2], [3, 4, 5]], [[0, 1], [2, 3], [4, 5]], [[0, 1], [2, 3, 4], [5]], [[0, 1], [2, 3, 5], [4]], [[0, 1], [2, 4], [3, 5]], [[0, 1], [2, 4, 5], [3]], [[0, 1], [2, 5], [3, 4]], [[0, 1, 2], [3], [4, 5]], [[0, 1, 2], [3, 4], [5]], [[0, 1, 2], [3, 5], [4]], [[0, 1, 2, 3], [4], [5]], [[0, 1, 2, 4], [3], [5]], [[0, 1, 2, 5], [3], [4]], [[0, 1, 3], [2], [4, 5]], [[0, 1, 3], [2, 4], [5]], [[0, 1, 3], [2, 5], [4]], [[0, 1, 3, 4], [2], [5]], [[0, 1, 3, 5], [2], [4]], [[0, 1, 4], [2], [3, 5]], [[0, 1, 4], [2, 3], [5]], [[0, 1, 4], [2, 5], [3]], [[0, 1, 4, 5], [2], [3]], [[0, 1, 5], [2], [3, 4]], [[0, 1, 5], [2, 3], [4]], [[0, 1, 5], [2, 4], [3]], [[0, 2], [1], [3, 4, 5]], [[0, 2], [1, 3], [4, 5]], [[0, 2], [1, 3, 4], [5]], [[0, 2], [1, 3, 5], [4]], [[0, 2], [1, 4], [3, 5]], [[0, 2], [1, 4, 5], [3]], [[0, 2], [1, 5], [3, 4]], [[0, 2, 3], [1], [4, 5]], [[0, 2, 3], [1, 4], [5]], [[0, 2, 3], [1, 5], [4]], [[0, 2, 3, 4], [1], [5]], [[0, 2, 3, 5], [1], [4]], [[0, 2, 4], [1], [3, 5]], [[0, 2, 4], [1, 3], [5]], [[0, 2, 4], [1, 5], [3]], [[0, 2, 4, 5], [1], [3]], [[0, 2, 5], [1], [3, 4]], [[0, 2, 5], [1, 3], [4]], [[0, 2, 5], [1, 4], [3]], [[0, 3], [1], [2, 4, 5]], [[0, 3], [1, 2], [4, 5]], [[0, 3], [1, 2, 4], [5]], [[0, 3], [1, 2, 5], [4]], [[0, 3], [1, 4], [2, 5]], [[0, 3], [1, 4, 5], [2]], [[0, 3], [1, 5], [2, 4]], [[0, 3, 4], [1], [2, 5]], [[0, 3, 4], [1, 2], [5]], [[0, 3, 4], [1, 5], [2]], [[0, 3, 4, 5], [1], [2]], [[0, 3, 5], [1], [2, 4]], [[0, 3, 5], [1, 2], [4]], [[0, 3, 5], [1, 4], [2]], [[0, 4], [1], [2, 3, 5]], [[0, 4], [1, 2], [3, 5]], [[0, 4], [1, 2, 3], [5]], [[0, 4], [1, 2, 5], [3]], [[0, 4], [1, 3], [2, 5]], [[0, 4], [1, 3, 5], [2]], [[0, 4], [1, 5], [2, 3]], [[0, 4, 5], [1], [2, 3]], [[0, 4, 5], [1, 2], [3]], [[0, 4, 5], [1, 3], [2]], [[0, 5], [1], [2, 3, 4]], [[0, 5], [1, 2], [3, 4]], [[0, 5], [1, 2, 3], [4]], [[0, 5], [1, 2, 4], [3]], [[0, 5], [1, 3], [2, 4]], [[0, 5], [1, 3, 4], [2]], [[0, 5], [1, 4], [2, 3]]]
def Y63 : List (List (Int × Int)) := [[(3, 2), (4, 3), (5, 4)], [(2, 1), (4, 3), (5, 4)], [(2, 1), (3, 2), (5, 4)], [(2, 1), (3, 2), (4, 3)], [(2, 1), (3, 2), (5, 3)], [(2, 1), (4, 2), (5, 3)], [(2, 1), (4, 2), (5, 4)], [(2, 1), (4, 3), (5, 2)], [(3, 1), (4, 2), (5, 4)], [(3, 1), (4, 3), (5, 2)], [(3, 1), (4, 3), (5, 4)], [(3, 1), (4, 2), (5, 3)], [(3, 2), (4, 1), (5, 3)], [(3, 2), (4, 1), (5, 4)], [(3, 2), (4, 3), (5, 1)], [(1, 0), (4, 3), (5, 4)], [(1, 0), (3, 2), (5, 4)], [(1, 0), (3, 2), (4, 3)], [(1, 0), (3, 2), (5, 3)], [(1, 0), (4, 2), (5, 3)], [(1, 0), (4, 2), (5, 4)], [(1, 0), (4, 3), (5, 2)], [(1, 0), (2, 1), (5, 4)], [(1, 0), (2, 1), (4, 3)], [(1, 0), (2, 1), (5, 3)], [(1, 0), (2, 1), (3, 2)], [(1, 0), (2, 1), (4, 2)], [(1, 0), (2, 1), (5, 2)], [(1, 0), (3, 1), (5, 4)], [(1, 0), (3, 1), (4, 2)], [(1, 0), (3, 1), (5, 2)], [(1, 0), (3, 1), (4, 3)], [(1, 0), (3, 1), (5, 3)], [(1, 0), (4, 1), (5, 3)], [(1, 0), (3, 2), (4, 1)], [(1, 0), (4, 1), (5, 2)], [(1, 0), (4, 1), (5, 4)], [(1, 0), (4, 3), (5, 1)], [(1, 0), (3, 2), (5, 1)], [(1, 0), (4, 2), (5, 1)], [(2, 0), (4, 3), (5, 4)], [(2, 0), (3, 1), (5, 4)], [(2, 0), (3, 1), (4, 3)], [(2, 0), (3, 1), (5, 3)], [(2, 0), (4, 1), (5, 3)], [(2, 0), (4, 1), (5, 4)], [(2, 0), (4, 3), (5, 1)], [(2, 0), (3, 2), (5, 4)], [(2, 0), (3, 2), (4, 1)], [(2, 0), (3, 2), (5, 1)], [(2, 0), (3, 2), (4, 3)], [(2, 0), (3, 2), (5, 3)], [(2, 0), (4, 2), (5, 3)], [(2, 0), (3, 1), (4, 2)], [(2, 0), (4, 2), (5, 1)], [(2, 0), (4, 2), (5, 4)], [(2, 0), (4, 3), (5, 2)], [(2, 0), (3, 1), (5, 2)], [(2, 0), (4, 1), (5, 2)], [(3, 0), (4, 2), (5, 4)], [(2, 1), (3, 0), (5, 4)], [(2, 1), (3, 0), (4, 2)], [(2, 1), (3, 0), (5, 2)], [(3, 0), (4, 1), (5, 2)], [(3, 0), (4, 1), (5, 4)], [(3, 0), (4, 2), (5, 1)], [(3, 0), (4, 3), (5, 2)], [(2, 1), (3, 0), (4, 3)], [(3, 0), (4, 3), (5, 1)], [(3, 0), (4, 3), (5, 4)], [(3, 0), (4, 2), (5, 3)], [(2, 1), (3, 0), (5, 3)], [(3, 0), (4, 1), (5, 3)], [(3, 2), (4, 0), (5, 3)], [(2, 1), (4, 0), (5, 3)], [(2, 1), (3, 2), (4, 0)], [(2, 1), (4, 0), (5, 2)], [(3, 1), (4, 0), (5, 2)], [(3, 1), (4, 0), (5, 3)], [(3, 2), (4, 0), (5, 1)], [(3, 2), (4, 0), (5, 4)], [(2, 1), (4, 0), (5, 4)], [(3, 1), (4, 0), (5, 4)], [(3, 2), (4, 3), (5, 0)], [(2, 1), (4, 3), (5, 0)], [(2, 1), (3, 2), (5, 0)], [(2, 1), (4, 2), (5, 0)], [(3, 1), (4, 2), (5, 0)], [(3, 1), (4, 3), (5, 0)], [(3, 2), (4, 1), (5, 0)]]
def P63 : List PyData := X63.map encP
def S63 : List PyData := Y63.map encS
def keys63 : List NestedKey := (keysD false P63).getD []
theorem k63 : keysD false P63 = some keys63 := by kernel_rfl
theorem d63 : (keys63.all fun k => decide (k.depth ≤ 8)) = true := by kernel_rfl
theorem dd63 : (X63.all fun L => decide ((encP L).depth ≤ 64)) = true := by kernel_rfl
theorem i63 : P63.all hasItem = true := by kernel_rfl
theorem nub63 : (nub P63).length = 90 := by kernel_rfl
theorem nb63 : sameL (nub P63) P63 = true := by kernel_rfl
theorem so63 : sameL (sortD P63) P63 = true := by kernel_rfl
theorem set63 (h : Hs) : oneO .sortedSet (.v (.d (.list P63))) h = some (.fl P63) := by
  obtain ⟨h1, -⟩ := nest_of k63 (fun k hk => of_decide_eq_true (List.all_eq_true.mp d63 k hk)) (fun x hx => by
    obtain ⟨L, -, rfl⟩ := List.mem_map.mp hx
    exact ⟨_, rfl⟩) (by rw [nub63]; decide) (ordOk_P X63 fun L hL => of_decide_eq_true (List.all_eq_true.mp dd63 L hL)) (.inl i63)
  rw [sameL_eq nb63, sameL_eq so63] at h1
  have e1 : intsD P63 = none := by kernel_rfl
  have e2 : tupsD P63 = none := by kernel_rfl
  rw [show oneO .sortedSet = sortedSetO from rfl]
  unfold sortedSetO
  have lk : look h (.v (.d (.list P63))) = some (.list P63) := rfl
  rw [lk]
  dsimp only
  rw [e1, e2]
  exact h1
theorem ne63 : cmpD .ne (.list P63) (.list P63) = some false := by kernel_rfl
def E63 (w e6 e7 e8 e9 : Option Mi.W) : Mi.Env := env84 w 6 3 e6 e7 e8 e9
theorem f1_63 : (PN 6).filter (lenD 3) = P63 := by kernel_rfl
theorem a1_63 (k : Nat) (w e6 e7 e8 e9 : Option Mi.W) : evalS (callF T (k + 20)) (f0_law_k84.nth 0) (E63 w e6 e7 e8 e9) [] = .nx (E63 w (some (.d (.list P63))) e7 e8 e9) [] := by
  have q := partings_ok (k + 8) 6 3 (by decide) (by decide) (by decide) (by decide)
  rw [f1_63] at q
  have q2 : callF T (k + 20) i_partings [.d (.int 6), .d (.int 3)] [] = .ok (.fl P63) [] := q
  unfold E63 env84
  generalize P63 = P at *
  generalize b84 6 = B at *
  generalize m84 6 = M at *
  simp [f0_law_k84, S.nth, evalS, evalE, evalL, q, q2, line]
theorem a2_63 (k : Nat) (w e7 e8 e9 : Option Mi.W) : evalS (callF T (k + 20)) (f0_law_k84.nth 1) (E63 w (some (.d (.list P63))) e7 e8 e9) [] = .nx (E63 w (some (.d (.list P63))) (some (.d (.list S63))) e8 e9) [] := by kernel_rfl
theorem a3_63 (k : Nat) (w e8 e9 : Option Mi.W) : evalS (callF T (k + 20)) (f0_law_k84.nth 2) (E63 w (some (.d (.list P63))) (some (.d (.list S63))) e8 e9) [] = .nx (E63 w (some (.d (.list P63))) (some (.d (.list S63))) e8 e9) [] := by
  have ln : oneO .len (.v (.d (.list P63))) [] = some (.v (.d (.int 90))) := by kernel_rfl
  have ss := set63 []
  have ne := ne63
  have em : m84 6 = .list [.int 1, .int 15, .int 65, .int 90, .int 31, .int 1, .int 0] := rfl
  have ix : ixD [PyData.int 1, .int 15, .int 65, .int 90, .int 31, .int 1, .int 0] 3 = some (.int 90) := rfl
  unfold E63 env84
  rw [em]
  generalize P63 = P at *
  generalize S63 = Sd at *
  generalize b84 6 = B at *
  simp [f0_law_k84, S.nth, evalS, evalT, evalE, evalL, evalO, ln, ss, ne, ix]
theorem a4_63 (k : Nat) (w e8 e9 : Option Mi.W) : evalS (callF T (k + 20)) (f0_law_k84.nth 3) (E63 w (some (.d (.list P63))) (some (.d (.list S63))) e8 e9) [] = .nx (E63 w (some (.d (.list P63))) (some (.d (.list S63))) (g84 8 (evalS (callF T (k + 20)) (f0_law_k84.nth 3) (E63 w (some (.d (.list P63))) (some (.d (.list S63))) e8 e9) [])) (g84 9 (evalS (callF T (k + 20)) (f0_law_k84.nth 3) (E63 w (some (.d (.list P63))) (some (.d (.list S63))) e8 e9) []))) [] := by kernel_rfl
theorem a5_63 (k : Nat) (w e8 e9 : Option Mi.W) : evalS (callF T (k + 20)) (f0_law_k84.nth 4) (E63 w (some (.d (.list P63))) (some (.d (.list S63))) e8 e9) [] = .nx (E63 w (some (.d (.list P63))) (some (.d (.list S63))) e8 e9) [] := by kernel_rfl
theorem t84_6_3 (k : Nat) (w e6 e7 e8 e9 : Option Mi.W) : ∃ e6' e7' e8' e9', st84 k w 6 3 e6 e7 e8 e9 = .nx (env84 w 6 3 e6' e7' e8' e9') [] := by
  have hb : f0_law_k84 = .seq (f0_law_k84.nth 0) (.seq (f0_law_k84.nth 1) (.seq (f0_law_k84.nth 2) (.seq (f0_law_k84.nth 3) (.seq (f0_law_k84.nth 4) .skip)))) := rfl
  show ∃ e6' e7' e8' e9', evalS (callF T (k + 20)) f0_law_k84 (E63 w e6 e7 e8 e9) [] = .nx (E63 w e6' e7' e8' e9') []
  rw [hb, seq_nx (a1_63 k w e6 e7 e8 e9), seq_nx (a2_63 k w e7 e8 e9), seq_nx (a3_63 k w e8 e9), seq_nx (a4_63 k w e8 e9), seq_nx (a5_63 k w _ _)]
  exact ⟨_, _, _, _, rfl⟩
def X62 : List (List (List Int)) := [[[0], [1], [2], [3, 4, 5]], [[0], [1], [2, 3], [4, 5]], [[0], [1], [2, 3, 4], [5]], [[0], [1], [2, 3, 5], [4]], [[0], [1], [2, 4], [3, 5]], [[0], [1], [2, 4, 5], [3]], [[0], [1], [2, 5], [3, 4]], [[0], [1, 2], [3], [4, 5]], [[0], [1, 2], [3, 4], [5]], [[0], [1, 2], [3, 5], [4]], [[0], [1, 2, 3], [4], [5]], [[0], [1, 2, 4], [3], [5]], [[0], [1, 2, 5], [3], [4]], [[0], [1, 3], [2], [4, 5]], [[0], [1, 3], [2, 4], [5]], [[0], [1, 3], [2, 5], [4]], [[0], [1, 3, 4], [2], [5]], [[0], [1, 3, 5], [2], [4]], [[0], [1, 4], [2], [3, 5]], [[0], [1, 4], [2, 3], [5]], [[0], [1, 4], [2, 5], [3]], [[0], [1, 4, 5], [2], [3]], [[0], [1, 5], [2], [3, 4]], [[0], [1, 5], [2, 3], [4]], [[0], [1, 5], [2, 4], [3]], [[0, 1], [2], [3], [4, 5]], [[0, 1], [2], [3, 4], [5]], [[0, 1], [2], [3, 5], [4]], [[0, 1], [2, 3], [4], [5]], [[0, 1], [2, 4], [3], [5]], [[0, 1], [2, 5], [3], [4]], [[0, 1, 2], [3], [4], [5]], [[0, 1, 3], [2], [4], [5]], [[0, 1, 4], [2], [3], [5]], [[0, 1, 5], [2], [3], [4]], [[0, 2], [1], [3], [4, 5]], [[0, 2], [1], [3, 4], [5]], [[0, 2], [1], [3, 5], [4]], [[0, 2], [1, 3], [4], [5]], [[0, 2], [1, 4], [3], [5]], [[0, 2], [1, 5], [3], [4]], [[0, 2, 3], [1], [4], [5]], [[0, 2, 4], [1], [3], [5]], [[0, 2, 5], [1], [3], [4]], [[0, 3], [1], [2], [4, 5]], [[0, 3], [1], [2, 4], [5]], [[0, 3], [1], [2, 5], [4]], [[0, 3], [1, 2], [4], [5]], [[0, 3], [1, 4], [2], [5]], [[0, 3], [1, 5], [2], [4]], [[0, 3, 4], [1], [2], [5]], [[0, 3, 5], [1], [2], [4]], [[0, 4], [1], [2], [3, 5]], [[0, 4], [1], [2, 3], [5]], [[0, 4], [1], [2, 5], [3]], [[0, 4], [1, 2], [3], [5]], [[0, 4], [1, 3], [2], [5]], [[0, 4], [1, 5], [2], [3]], [[0, 4, 5], [1], [2], [3]], [[0, 5], [1], [2], [3, 4]], [[0, 5], [1], [2, 3], [4]], [[0, 5], [1], [2, 4], [3]], [[0, 5], [1, 2], [3], [4]], [[0, 5], [1, 3], [2], [4]], [[0, 5], [1, 4], [2], [3]]]
def Y62 : List (List (Int × Int)) := [[(4, 3), (5, 4)], [(3, 2), (5, 4)], [(3, 2), (4, 3)], [(3, 2), (5, 3)], [(4, 2), (5, 3)], [(4, 2), (5, 4)], [(4, 3), (5, 2)], [(2, 1), (5, 4)], [(2, 1), (4, 3)], [(2, 1), (5, 3)], [(2, 1), (3, 2)], [(2, 1), (4, 2)], [(2, 1), (5, 2)], [(3, 1), (5, 4)], [(3, 1), (4, 2)], [(3, 1), (5, 2)], [(3, 1), (4, 3)], [(3, 1), (5, 3)], [(4, 1), (5, 3)], [(3, 2), (4, 1)], [(4, 1), (5, 2)], [(4, 1), (5, 4)], [(4, 3), (5, 1)], [(3, 2), (5, 1)], [(4, 2), (5, 1)], [(1, 0), (5, 4)], [(1, 0), (4, 3)], [(1, 0), (5, 3)], [(1, 0), (3, 2)], [(1, 0), (4, 2)], [(1, 0), (5, 2)], [(1, 0), (2, 1)], [(1, 0), (3, 1)], [(1, 0), (4, 1)], [(1, 0), (5, 1)], [(2, 0), (5, 4)], [(2, 0), (4, 3)], [(2, 0), (5, 3)], [(2, 0), (3, 1)], [(2, 0), (4, 1)], [(2, 0), (5, 1)], [(2, 0), (3, 2)], [(2, 0), (4, 2)], [(2, 0), (5, 2)], [(3, 0), (5, 4)], [(3, 0), (4, 2)], [(3, 0), (5, 2)], [(2, 1), (3, 0)], [(3, 0), (4, 1)], [(3, 0), (5, 1)], [(3, 0), (4, 3)], [(3, 0), (5, 3)], [(4, 0), (5, 3)], [(3, 2), (4, 0)], [(4, 0), (5, 2)], [(2, 1), (4, 0)], [(3, 1), (4, 0)], [(4, 0), (5, 1)], [(4, 0), (5, 4)], [(4, 3), (5, 0)], [(3, 2), (5, 0)], [(4, 2), (5, 0)], [(2, 1), (5, 0)], [(3, 1), (5, 0)], [(4, 1), (5, 0)]]
def P62 : List PyData := X62.map encP
def S62 : List PyData := Y62.map encS
def keys62 : List NestedKey := (keysD false P62).getD []
theorem k62 : keysD false P62 = some keys62 := by kernel_rfl
theorem d62 : (keys62.all fun k => decide (k.depth ≤ 8)) = true := by kernel_rfl
theorem dd62 : (X62.all fun L => decide ((encP L).depth ≤ 64)) = true := by kernel_rfl
theorem i62 : P62.all hasItem = true := by kernel_rfl
theorem nub62 : (nub P62).length = 65 := by kernel_rfl
theorem nb62 : sameL (nub P62) P62 = true := by kernel_rfl
theorem so62 : sameL (sortD P62) P62 = true := by kernel_rfl
theorem set62 (h : Hs) : oneO .sortedSet (.v (.d (.list P62))) h = some (.fl P62) := by
  obtain ⟨h1, -⟩ := nest_of k62 (fun k hk => of_decide_eq_true (List.all_eq_true.mp d62 k hk)) (fun x hx => by
    obtain ⟨L, -, rfl⟩ := List.mem_map.mp hx
    exact ⟨_, rfl⟩) (by rw [nub62]; decide) (ordOk_P X62 fun L hL => of_decide_eq_true (List.all_eq_true.mp dd62 L hL)) (.inl i62)
  rw [sameL_eq nb62, sameL_eq so62] at h1
  have e1 : intsD P62 = none := by kernel_rfl
  have e2 : tupsD P62 = none := by kernel_rfl
  rw [show oneO .sortedSet = sortedSetO from rfl]
  unfold sortedSetO
  have lk : look h (.v (.d (.list P62))) = some (.list P62) := rfl
  rw [lk]
  dsimp only
  rw [e1, e2]
  exact h1
theorem ne62 : cmpD .ne (.list P62) (.list P62) = some false := by kernel_rfl
def E62 (w e6 e7 e8 e9 : Option Mi.W) : Mi.Env := env84 w 6 2 e6 e7 e8 e9
theorem f1_62 : (PN 6).filter (lenD 4) = P62 := by kernel_rfl
theorem a1_62 (k : Nat) (w e6 e7 e8 e9 : Option Mi.W) : evalS (callF T (k + 20)) (f0_law_k84.nth 0) (E62 w e6 e7 e8 e9) [] = .nx (E62 w (some (.d (.list P62))) e7 e8 e9) [] := by
  have q := partings_ok (k + 8) 6 4 (by decide) (by decide) (by decide) (by decide)
  rw [f1_62] at q
  have q2 : callF T (k + 20) i_partings [.d (.int 6), .d (.int 4)] [] = .ok (.fl P62) [] := q
  unfold E62 env84
  generalize P62 = P at *
  generalize b84 6 = B at *
  generalize m84 6 = M at *
  simp [f0_law_k84, S.nth, evalS, evalE, evalL, q, q2, line]
theorem a2_62 (k : Nat) (w e7 e8 e9 : Option Mi.W) : evalS (callF T (k + 20)) (f0_law_k84.nth 1) (E62 w (some (.d (.list P62))) e7 e8 e9) [] = .nx (E62 w (some (.d (.list P62))) (some (.d (.list S62))) e8 e9) [] := by kernel_rfl
theorem a3_62 (k : Nat) (w e8 e9 : Option Mi.W) : evalS (callF T (k + 20)) (f0_law_k84.nth 2) (E62 w (some (.d (.list P62))) (some (.d (.list S62))) e8 e9) [] = .nx (E62 w (some (.d (.list P62))) (some (.d (.list S62))) e8 e9) [] := by
  have ln : oneO .len (.v (.d (.list P62))) [] = some (.v (.d (.int 65))) := by kernel_rfl
  have ss := set62 []
  have ne := ne62
  have em : m84 6 = .list [.int 1, .int 15, .int 65, .int 90, .int 31, .int 1, .int 0] := rfl
  have ix : ixD [PyData.int 1, .int 15, .int 65, .int 90, .int 31, .int 1, .int 0] 2 = some (.int 65) := rfl
  unfold E62 env84
  rw [em]
  generalize P62 = P at *
  generalize S62 = Sd at *
  generalize b84 6 = B at *
  simp [f0_law_k84, S.nth, evalS, evalT, evalE, evalL, evalO, ln, ss, ne, ix]
theorem a4_62 (k : Nat) (w e8 e9 : Option Mi.W) : evalS (callF T (k + 20)) (f0_law_k84.nth 3) (E62 w (some (.d (.list P62))) (some (.d (.list S62))) e8 e9) [] = .nx (E62 w (some (.d (.list P62))) (some (.d (.list S62))) (g84 8 (evalS (callF T (k + 20)) (f0_law_k84.nth 3) (E62 w (some (.d (.list P62))) (some (.d (.list S62))) e8 e9) [])) (g84 9 (evalS (callF T (k + 20)) (f0_law_k84.nth 3) (E62 w (some (.d (.list P62))) (some (.d (.list S62))) e8 e9) []))) [] := by kernel_rfl
theorem a5_62 (k : Nat) (w e8 e9 : Option Mi.W) : evalS (callF T (k + 20)) (f0_law_k84.nth 4) (E62 w (some (.d (.list P62))) (some (.d (.list S62))) e8 e9) [] = .nx (E62 w (some (.d (.list P62))) (some (.d (.list S62))) e8 e9) [] := by kernel_rfl
theorem t84_6_2 (k : Nat) (w e6 e7 e8 e9 : Option Mi.W) : ∃ e6' e7' e8' e9', st84 k w 6 2 e6 e7 e8 e9 = .nx (env84 w 6 2 e6' e7' e8' e9') [] := by
  have hb : f0_law_k84 = .seq (f0_law_k84.nth 0) (.seq (f0_law_k84.nth 1) (.seq (f0_law_k84.nth 2) (.seq (f0_law_k84.nth 3) (.seq (f0_law_k84.nth 4) .skip)))) := rfl
  show ∃ e6' e7' e8' e9', evalS (callF T (k + 20)) f0_law_k84 (E62 w e6 e7 e8 e9) [] = .nx (E62 w e6' e7' e8' e9') []
  rw [hb, seq_nx (a1_62 k w e6 e7 e8 e9), seq_nx (a2_62 k w e7 e8 e9), seq_nx (a3_62 k w e8 e9), seq_nx (a4_62 k w e8 e9), seq_nx (a5_62 k w _ _)]
  exact ⟨_, _, _, _, rfl⟩
def X64 : List (List (List Int)) := [[[0], [1, 2, 3, 4, 5]], [[0, 1], [2, 3, 4, 5]], [[0, 1, 2], [3, 4, 5]], [[0, 1, 2, 3], [4, 5]], [[0, 1, 2, 3, 4], [5]], [[0, 1, 2, 3, 5], [4]], [[0, 1, 2, 4], [3, 5]], [[0, 1, 2, 4, 5], [3]], [[0, 1, 2, 5], [3, 4]], [[0, 1, 3], [2, 4, 5]], [[0, 1, 3, 4], [2, 5]], [[0, 1, 3, 4, 5], [2]], [[0, 1, 3, 5], [2, 4]], [[0, 1, 4], [2, 3, 5]], [[0, 1, 4, 5], [2, 3]], [[0, 1, 5], [2, 3, 4]], [[0, 2], [1, 3, 4, 5]], [[0, 2, 3], [1, 4, 5]], [[0, 2, 3, 4], [1, 5]], [[0, 2, 3, 4, 5], [1]], [[0, 2, 3, 5], [1, 4]], [[0, 2, 4], [1, 3, 5]], [[0, 2, 4, 5], [1, 3]], [[0, 2, 5], [1, 3, 4]], [[0, 3], [1, 2, 4, 5]], [[0, 3, 4], [1, 2, 5]], [[0, 3, 4, 5], [1, 2]], [[0, 3, 5], [1, 2, 4]], [[0, 4], [1, 2, 3, 5]], [[0, 4, 5], [1, 2, 3]], [[0, 5], [1, 2, 3, 4]]]
def Y64 : List (List (Int × Int)) := [[(2, 1), (3, 2), (4, 3), (5, 4)], [(1, 0), (3, 2), (4, 3), (5, 4)], [(1, 0), (2, 1), (4, 3), (5, 4)], [(1, 0), (2, 1), (3, 2), (5, 4)], [(1, 0), (2, 1), (3, 2), (4, 3)], [(1, 0), (2, 1), (3, 2), (5, 3)], [(1, 0), (2, 1), (4, 2), (5, 3)], [(1, 0), (2, 1), (4, 2), (5, 4)], [(1, 0), (2, 1), (4, 3), (5, 2)], [(1, 0), (3, 1), (4, 2), (5, 4)], [(1, 0), (3, 1), (4, 3), (5, 2)], [(1, 0), (3, 1), (4, 3), (5, 4)], [(1, 0), (3, 1), (4, 2), (5, 3)], [(1, 0), (3, 2), (4, 1), (5, 3)], [(1, 0), (3, 2), (4, 1), (5, 4)], [(1, 0), (3, 2), (4, 3), (5, 1)], [(2, 0), (3, 1), (4, 3), (5, 4)], [(2, 0), (3, 2), (4, 1), (5, 4)], [(2, 0), (3, 2), (4, 3), (5, 1)], [(2, 0), (3, 2), (4, 3), (5, 4)], [(2, 0), (3, 2), (4, 1), (5, 3)], [(2, 0), (3, 1), (4, 2), (5, 3)], [(2, 0), (3, 1), (4, 2), (5, 4)], [(2, 0), (3, 1), (4, 3), (5, 2)], [(2, 1), (3, 0), (4, 2), (5, 4)], [(2, 1), (3, 0), (4, 3), (5, 2)], [(2, 1), (3, 0), (4, 3), (5, 4)], [(2, 1), (3, 0), (4, 2), (5, 3)], [(2, 1), (3, 2), (4, 0), (5, 3)], [(2, 1), (3, 2), (4, 0), (5, 4)], [(2, 1), (3, 2), (4, 3), (5, 0)]]
def P64 : List PyData := X64.map encP
def S64 : List PyData := Y64.map encS
def keys64 : List NestedKey := (keysD false P64).getD []
theorem k64 : keysD false P64 = some keys64 := by kernel_rfl
theorem d64 : (keys64.all fun k => decide (k.depth ≤ 8)) = true := by kernel_rfl
theorem dd64 : (X64.all fun L => decide ((encP L).depth ≤ 64)) = true := by kernel_rfl
theorem i64 : P64.all hasItem = true := by kernel_rfl
theorem nub64 : (nub P64).length = 31 := by kernel_rfl
theorem nb64 : sameL (nub P64) P64 = true := by kernel_rfl
theorem so64 : sameL (sortD P64) P64 = true := by kernel_rfl
theorem set64 (h : Hs) : oneO .sortedSet (.v (.d (.list P64))) h = some (.fl P64) := by
  obtain ⟨h1, -⟩ := nest_of k64 (fun k hk => of_decide_eq_true (List.all_eq_true.mp d64 k hk)) (fun x hx => by
    obtain ⟨L, -, rfl⟩ := List.mem_map.mp hx
    exact ⟨_, rfl⟩) (by rw [nub64]; decide) (ordOk_P X64 fun L hL => of_decide_eq_true (List.all_eq_true.mp dd64 L hL)) (.inl i64)
  rw [sameL_eq nb64, sameL_eq so64] at h1
  have e1 : intsD P64 = none := by kernel_rfl
  have e2 : tupsD P64 = none := by kernel_rfl
  rw [show oneO .sortedSet = sortedSetO from rfl]
  unfold sortedSetO
  have lk : look h (.v (.d (.list P64))) = some (.list P64) := rfl
  rw [lk]
  dsimp only
  rw [e1, e2]
  exact h1
theorem ne64 : cmpD .ne (.list P64) (.list P64) = some false := by kernel_rfl
def E64 (w e6 e7 e8 e9 : Option Mi.W) : Mi.Env := env84 w 6 4 e6 e7 e8 e9
theorem f1_64 : (PN 6).filter (lenD 2) = P64 := by kernel_rfl
theorem a1_64 (k : Nat) (w e6 e7 e8 e9 : Option Mi.W) : evalS (callF T (k + 20)) (f0_law_k84.nth 0) (E64 w e6 e7 e8 e9) [] = .nx (E64 w (some (.d (.list P64))) e7 e8 e9) [] := by
  have q := partings_ok (k + 8) 6 2 (by decide) (by decide) (by decide) (by decide)
  rw [f1_64] at q
  have q2 : callF T (k + 20) i_partings [.d (.int 6), .d (.int 2)] [] = .ok (.fl P64) [] := q
  unfold E64 env84
  generalize P64 = P at *
  generalize b84 6 = B at *
  generalize m84 6 = M at *
  simp [f0_law_k84, S.nth, evalS, evalE, evalL, q, q2, line]
theorem a2_64 (k : Nat) (w e7 e8 e9 : Option Mi.W) : evalS (callF T (k + 20)) (f0_law_k84.nth 1) (E64 w (some (.d (.list P64))) e7 e8 e9) [] = .nx (E64 w (some (.d (.list P64))) (some (.d (.list S64))) e8 e9) [] := by kernel_rfl
theorem a3_64 (k : Nat) (w e8 e9 : Option Mi.W) : evalS (callF T (k + 20)) (f0_law_k84.nth 2) (E64 w (some (.d (.list P64))) (some (.d (.list S64))) e8 e9) [] = .nx (E64 w (some (.d (.list P64))) (some (.d (.list S64))) e8 e9) [] := by
  have ln : oneO .len (.v (.d (.list P64))) [] = some (.v (.d (.int 31))) := by kernel_rfl
  have ss := set64 []
  have ne := ne64
  have em : m84 6 = .list [.int 1, .int 15, .int 65, .int 90, .int 31, .int 1, .int 0] := rfl
  have ix : ixD [PyData.int 1, .int 15, .int 65, .int 90, .int 31, .int 1, .int 0] 4 = some (.int 31) := rfl
  unfold E64 env84
  rw [em]
  generalize P64 = P at *
  generalize S64 = Sd at *
  generalize b84 6 = B at *
  simp [f0_law_k84, S.nth, evalS, evalT, evalE, evalL, evalO, ln, ss, ne, ix]
theorem a4_64 (k : Nat) (w e8 e9 : Option Mi.W) : evalS (callF T (k + 20)) (f0_law_k84.nth 3) (E64 w (some (.d (.list P64))) (some (.d (.list S64))) e8 e9) [] = .nx (E64 w (some (.d (.list P64))) (some (.d (.list S64))) (g84 8 (evalS (callF T (k + 20)) (f0_law_k84.nth 3) (E64 w (some (.d (.list P64))) (some (.d (.list S64))) e8 e9) [])) (g84 9 (evalS (callF T (k + 20)) (f0_law_k84.nth 3) (E64 w (some (.d (.list P64))) (some (.d (.list S64))) e8 e9) []))) [] := by kernel_rfl
theorem a5_64 (k : Nat) (w e8 e9 : Option Mi.W) : evalS (callF T (k + 20)) (f0_law_k84.nth 4) (E64 w (some (.d (.list P64))) (some (.d (.list S64))) e8 e9) [] = .nx (E64 w (some (.d (.list P64))) (some (.d (.list S64))) e8 e9) [] := by kernel_rfl
theorem t84_6_4 (k : Nat) (w e6 e7 e8 e9 : Option Mi.W) : ∃ e6' e7' e8' e9', st84 k w 6 4 e6 e7 e8 e9 = .nx (env84 w 6 4 e6' e7' e8' e9') [] := by
  have hb : f0_law_k84 = .seq (f0_law_k84.nth 0) (.seq (f0_law_k84.nth 1) (.seq (f0_law_k84.nth 2) (.seq (f0_law_k84.nth 3) (.seq (f0_law_k84.nth 4) .skip)))) := rfl
  show ∃ e6' e7' e8' e9', evalS (callF T (k + 20)) f0_law_k84 (E64 w e6 e7 e8 e9) [] = .nx (E64 w e6' e7' e8' e9') []
  rw [hb, seq_nx (a1_64 k w e6 e7 e8 e9), seq_nx (a2_64 k w e7 e8 e9), seq_nx (a3_64 k w e8 e9), seq_nx (a4_64 k w e8 e9), seq_nx (a5_64 k w _ _)]
  exact ⟨_, _, _, _, rfl⟩
def X61 : List (List (List Int)) := [[[0], [1], [2], [3], [4, 5]], [[0], [1], [2], [3, 4], [5]], [[0], [1], [2], [3, 5], [4]], [[0], [1], [2, 3], [4], [5]], [[0], [1], [2, 4], [3], [5]], [[0], [1], [2, 5], [3], [4]], [[0], [1, 2], [3], [4], [5]], [[0], [1, 3], [2], [4], [5]], [[0], [1, 4], [2], [3], [5]], [[0], [1, 5], [2], [3], [4]], [[0, 1], [2], [3], [4], [5]], [[0, 2], [1], [3], [4], [5]], [[0, 3], [1], [2], [4], [5]], [[0, 4], [1], [2], [3], [5]], [[0, 5], [1], [2], [3], [4]]]
def Y61 : List (List (Int × Int)) := [[(5, 4)], [(4, 3)], [(5, 3)], [(3, 2)], [(4, 2)], [(5, 2)], [(2, 1)], [(3, 1)], [(4, 1)], [(5, 1)], [(1, 0)], [(2, 0)], [(3, 0)], [(4, 0)], [(5, 0)]]
def P61 : List PyData := X61.map encP
def S61 : List PyData := Y61.map encS
def keys61 : List NestedKey := (keysD false P61).getD []
theorem k61 : keysD false P61 = some keys61 := by kernel_rfl
theorem d61 : (keys61.all fun k => decide (k.depth ≤ 8)) = true := by kernel_rfl
theorem dd61 : (X61.all fun L => decide ((encP L).depth ≤ 64)) = true := by kernel_rfl
theorem i61 : P61.all hasItem = true := by kernel_rfl
theorem nub61 : (nub P61).length = 15 := by kernel_rfl
theorem nb61 : sameL (nub P61) P61 = true := by kernel_rfl
theorem so61 : sameL (sortD P61) P61 = true := by kernel_rfl
theorem set61 (h : Hs) : oneO .sortedSet (.v (.d (.list P61))) h = some (.fl P61) := by
  obtain ⟨h1, -⟩ := nest_of k61 (fun k hk => of_decide_eq_true (List.all_eq_true.mp d61 k hk)) (fun x hx => by
    obtain ⟨L, -, rfl⟩ := List.mem_map.mp hx
    exact ⟨_, rfl⟩) (by rw [nub61]; decide) (ordOk_P X61 fun L hL => of_decide_eq_true (List.all_eq_true.mp dd61 L hL)) (.inl i61)
  rw [sameL_eq nb61, sameL_eq so61] at h1
  have e1 : intsD P61 = none := by kernel_rfl
  have e2 : tupsD P61 = none := by kernel_rfl
  rw [show oneO .sortedSet = sortedSetO from rfl]
  unfold sortedSetO
  have lk : look h (.v (.d (.list P61))) = some (.list P61) := rfl
  rw [lk]
  dsimp only
  rw [e1, e2]
  exact h1
theorem ne61 : cmpD .ne (.list P61) (.list P61) = some false := by kernel_rfl
def E61 (w e6 e7 e8 e9 : Option Mi.W) : Mi.Env := env84 w 6 1 e6 e7 e8 e9
theorem f1_61 : (PN 6).filter (lenD 5) = P61 := by kernel_rfl
theorem a1_61 (k : Nat) (w e6 e7 e8 e9 : Option Mi.W) : evalS (callF T (k + 20)) (f0_law_k84.nth 0) (E61 w e6 e7 e8 e9) [] = .nx (E61 w (some (.d (.list P61))) e7 e8 e9) [] := by
  have q := partings_ok (k + 8) 6 5 (by decide) (by decide) (by decide) (by decide)
  rw [f1_61] at q
  have q2 : callF T (k + 20) i_partings [.d (.int 6), .d (.int 5)] [] = .ok (.fl P61) [] := q
  unfold E61 env84
  generalize P61 = P at *
  generalize b84 6 = B at *
  generalize m84 6 = M at *
  simp [f0_law_k84, S.nth, evalS, evalE, evalL, q, q2, line]
theorem a2_61 (k : Nat) (w e7 e8 e9 : Option Mi.W) : evalS (callF T (k + 20)) (f0_law_k84.nth 1) (E61 w (some (.d (.list P61))) e7 e8 e9) [] = .nx (E61 w (some (.d (.list P61))) (some (.d (.list S61))) e8 e9) [] := by kernel_rfl
theorem a3_61 (k : Nat) (w e8 e9 : Option Mi.W) : evalS (callF T (k + 20)) (f0_law_k84.nth 2) (E61 w (some (.d (.list P61))) (some (.d (.list S61))) e8 e9) [] = .nx (E61 w (some (.d (.list P61))) (some (.d (.list S61))) e8 e9) [] := by
  have ln : oneO .len (.v (.d (.list P61))) [] = some (.v (.d (.int 15))) := by kernel_rfl
  have ss := set61 []
  have ne := ne61
  have em : m84 6 = .list [.int 1, .int 15, .int 65, .int 90, .int 31, .int 1, .int 0] := rfl
  have ix : ixD [PyData.int 1, .int 15, .int 65, .int 90, .int 31, .int 1, .int 0] 1 = some (.int 15) := rfl
  unfold E61 env84
  rw [em]
  generalize P61 = P at *
  generalize S61 = Sd at *
  generalize b84 6 = B at *
  simp [f0_law_k84, S.nth, evalS, evalT, evalE, evalL, evalO, ln, ss, ne, ix]
theorem a4_61 (k : Nat) (w e8 e9 : Option Mi.W) : evalS (callF T (k + 20)) (f0_law_k84.nth 3) (E61 w (some (.d (.list P61))) (some (.d (.list S61))) e8 e9) [] = .nx (E61 w (some (.d (.list P61))) (some (.d (.list S61))) (g84 8 (evalS (callF T (k + 20)) (f0_law_k84.nth 3) (E61 w (some (.d (.list P61))) (some (.d (.list S61))) e8 e9) [])) (g84 9 (evalS (callF T (k + 20)) (f0_law_k84.nth 3) (E61 w (some (.d (.list P61))) (some (.d (.list S61))) e8 e9) []))) [] := by kernel_rfl
theorem a5_61 (k : Nat) (w e8 e9 : Option Mi.W) : evalS (callF T (k + 20)) (f0_law_k84.nth 4) (E61 w (some (.d (.list P61))) (some (.d (.list S61))) e8 e9) [] = .nx (E61 w (some (.d (.list P61))) (some (.d (.list S61))) e8 e9) [] := by kernel_rfl
theorem t84_6_1 (k : Nat) (w e6 e7 e8 e9 : Option Mi.W) : ∃ e6' e7' e8' e9', st84 k w 6 1 e6 e7 e8 e9 = .nx (env84 w 6 1 e6' e7' e8' e9') [] := by
  have hb : f0_law_k84 = .seq (f0_law_k84.nth 0) (.seq (f0_law_k84.nth 1) (.seq (f0_law_k84.nth 2) (.seq (f0_law_k84.nth 3) (.seq (f0_law_k84.nth 4) .skip)))) := rfl
  show ∃ e6' e7' e8' e9', evalS (callF T (k + 20)) f0_law_k84 (E61 w e6 e7 e8 e9) [] = .nx (E61 w e6' e7' e8' e9') []
  rw [hb, seq_nx (a1_61 k w e6 e7 e8 e9), seq_nx (a2_61 k w e7 e8 e9), seq_nx (a3_61 k w e8 e9), seq_nx (a4_61 k w e8 e9), seq_nx (a5_61 k w _ _)]
  exact ⟨_, _, _, _, rfl⟩
def X60 : List (List (List Int)) := [[[0], [1], [2], [3], [4], [5]]]
def Y60 : List (List (Int × Int)) := [[]]
def P60 : List PyData := X60.map encP
def S60 : List PyData := Y60.map encS
def keys60 : List NestedKey := (keysD false P60).getD []
theorem k60 : keysD false P60 = some keys60 := by kernel_rfl
theorem d60 : (keys60.all fun k => decide (k.depth ≤ 8)) = true := by kernel_rfl
theorem dd60 : (X60.all fun L => decide ((encP L).depth ≤ 64)) = true := by kernel_rfl
theorem i60 : P60.all hasItem = true := by kernel_rfl
theorem nub60 : (nub P60).length = 1 := by kernel_rfl
theorem nb60 : sameL (nub P60) P60 = true := by kernel_rfl
theorem so60 : sameL (sortD P60) P60 = true := by kernel_rfl
theorem set60 (h : Hs) : oneO .sortedSet (.v (.d (.list P60))) h = some (.fl P60) := by
  obtain ⟨h1, -⟩ := nest_of k60 (fun k hk => of_decide_eq_true (List.all_eq_true.mp d60 k hk)) (fun x hx => by
    obtain ⟨L, -, rfl⟩ := List.mem_map.mp hx
    exact ⟨_, rfl⟩) (by rw [nub60]; decide) (ordOk_P X60 fun L hL => of_decide_eq_true (List.all_eq_true.mp dd60 L hL)) (.inl i60)
  rw [sameL_eq nb60, sameL_eq so60] at h1
  have e1 : intsD P60 = none := by kernel_rfl
  have e2 : tupsD P60 = none := by kernel_rfl
  rw [show oneO .sortedSet = sortedSetO from rfl]
  unfold sortedSetO
  have lk : look h (.v (.d (.list P60))) = some (.list P60) := rfl
  rw [lk]
  dsimp only
  rw [e1, e2]
  exact h1
theorem ne60 : cmpD .ne (.list P60) (.list P60) = some false := by kernel_rfl
def E60 (w e6 e7 e8 e9 : Option Mi.W) : Mi.Env := env84 w 6 0 e6 e7 e8 e9
theorem f1_60 : (PN 6).filter (lenD 6) = P60 := by kernel_rfl
theorem a1_60 (k : Nat) (w e6 e7 e8 e9 : Option Mi.W) : evalS (callF T (k + 20)) (f0_law_k84.nth 0) (E60 w e6 e7 e8 e9) [] = .nx (E60 w (some (.d (.list P60))) e7 e8 e9) [] := by
  have q := partings_ok (k + 8) 6 6 (by decide) (by decide) (by decide) (by decide)
  rw [f1_60] at q
  have q2 : callF T (k + 20) i_partings [.d (.int 6), .d (.int 6)] [] = .ok (.fl P60) [] := q
  unfold E60 env84
  generalize P60 = P at *
  generalize b84 6 = B at *
  generalize m84 6 = M at *
  simp [f0_law_k84, S.nth, evalS, evalE, evalL, q, q2, line]
theorem a2_60 (k : Nat) (w e7 e8 e9 : Option Mi.W) : evalS (callF T (k + 20)) (f0_law_k84.nth 1) (E60 w (some (.d (.list P60))) e7 e8 e9) [] = .nx (E60 w (some (.d (.list P60))) (some (.d (.list S60))) e8 e9) [] := by kernel_rfl
theorem a3_60 (k : Nat) (w e8 e9 : Option Mi.W) : evalS (callF T (k + 20)) (f0_law_k84.nth 2) (E60 w (some (.d (.list P60))) (some (.d (.list S60))) e8 e9) [] = .nx (E60 w (some (.d (.list P60))) (some (.d (.list S60))) e8 e9) [] := by
  have ln : oneO .len (.v (.d (.list P60))) [] = some (.v (.d (.int 1))) := by kernel_rfl
  have ss := set60 []
  have ne := ne60
  have em : m84 6 = .list [.int 1, .int 15, .int 65, .int 90, .int 31, .int 1, .int 0] := rfl
  have ix : ixD [PyData.int 1, .int 15, .int 65, .int 90, .int 31, .int 1, .int 0] 0 = some (.int 1) := rfl
  unfold E60 env84
  rw [em]
  generalize P60 = P at *
  generalize S60 = Sd at *
  generalize b84 6 = B at *
  simp [f0_law_k84, S.nth, evalS, evalT, evalE, evalL, evalO, ln, ss, ne, ix]
theorem a4_60 (k : Nat) (w e8 e9 : Option Mi.W) : evalS (callF T (k + 20)) (f0_law_k84.nth 3) (E60 w (some (.d (.list P60))) (some (.d (.list S60))) e8 e9) [] = .nx (E60 w (some (.d (.list P60))) (some (.d (.list S60))) (g84 8 (evalS (callF T (k + 20)) (f0_law_k84.nth 3) (E60 w (some (.d (.list P60))) (some (.d (.list S60))) e8 e9) [])) (g84 9 (evalS (callF T (k + 20)) (f0_law_k84.nth 3) (E60 w (some (.d (.list P60))) (some (.d (.list S60))) e8 e9) []))) [] := by kernel_rfl
theorem a5_60 (k : Nat) (w e8 e9 : Option Mi.W) : evalS (callF T (k + 20)) (f0_law_k84.nth 4) (E60 w (some (.d (.list P60))) (some (.d (.list S60))) e8 e9) [] = .nx (E60 w (some (.d (.list P60))) (some (.d (.list S60))) e8 e9) [] := by kernel_rfl
theorem t84_6_0 (k : Nat) (w e6 e7 e8 e9 : Option Mi.W) : ∃ e6' e7' e8' e9', st84 k w 6 0 e6 e7 e8 e9 = .nx (env84 w 6 0 e6' e7' e8' e9') [] := by
  have hb : f0_law_k84 = .seq (f0_law_k84.nth 0) (.seq (f0_law_k84.nth 1) (.seq (f0_law_k84.nth 2) (.seq (f0_law_k84.nth 3) (.seq (f0_law_k84.nth 4) .skip)))) := rfl
  show ∃ e6' e7' e8' e9', evalS (callF T (k + 20)) f0_law_k84 (E60 w e6 e7 e8 e9) [] = .nx (E60 w e6' e7' e8' e9') []
  rw [hb, seq_nx (a1_60 k w e6 e7 e8 e9), seq_nx (a2_60 k w e7 e8 e9), seq_nx (a3_60 k w e8 e9), seq_nx (a4_60 k w e8 e9), seq_nx (a5_60 k w _ _)]
  exact ⟨_, _, _, _, rfl⟩
def X65 : List (List (List Int)) := [[[0, 1, 2, 3, 4, 5]]]
def Y65 : List (List (Int × Int)) := [[(1, 0), (2, 1), (3, 2), (4, 3), (5, 4)]]
def P65 : List PyData := X65.map encP
def S65 : List PyData := Y65.map encS
def keys65 : List NestedKey := (keysD false P65).getD []
theorem k65 : keysD false P65 = some keys65 := by kernel_rfl
theorem d65 : (keys65.all fun k => decide (k.depth ≤ 8)) = true := by kernel_rfl
theorem dd65 : (X65.all fun L => decide ((encP L).depth ≤ 64)) = true := by kernel_rfl
theorem i65 : P65.all hasItem = true := by kernel_rfl
theorem nub65 : (nub P65).length = 1 := by kernel_rfl
theorem nb65 : sameL (nub P65) P65 = true := by kernel_rfl
theorem so65 : sameL (sortD P65) P65 = true := by kernel_rfl
theorem set65 (h : Hs) : oneO .sortedSet (.v (.d (.list P65))) h = some (.fl P65) := by
  obtain ⟨h1, -⟩ := nest_of k65 (fun k hk => of_decide_eq_true (List.all_eq_true.mp d65 k hk)) (fun x hx => by
    obtain ⟨L, -, rfl⟩ := List.mem_map.mp hx
    exact ⟨_, rfl⟩) (by rw [nub65]; decide) (ordOk_P X65 fun L hL => of_decide_eq_true (List.all_eq_true.mp dd65 L hL)) (.inl i65)
  rw [sameL_eq nb65, sameL_eq so65] at h1
  have e1 : intsD P65 = none := by kernel_rfl
  have e2 : tupsD P65 = none := by kernel_rfl
  rw [show oneO .sortedSet = sortedSetO from rfl]
  unfold sortedSetO
  have lk : look h (.v (.d (.list P65))) = some (.list P65) := rfl
  rw [lk]
  dsimp only
  rw [e1, e2]
  exact h1
theorem ne65 : cmpD .ne (.list P65) (.list P65) = some false := by kernel_rfl
def E65 (w e6 e7 e8 e9 : Option Mi.W) : Mi.Env := env84 w 6 5 e6 e7 e8 e9
theorem f1_65 : (PN 6).filter (lenD 1) = P65 := by kernel_rfl
theorem a1_65 (k : Nat) (w e6 e7 e8 e9 : Option Mi.W) : evalS (callF T (k + 20)) (f0_law_k84.nth 0) (E65 w e6 e7 e8 e9) [] = .nx (E65 w (some (.d (.list P65))) e7 e8 e9) [] := by
  have q := partings_ok (k + 8) 6 1 (by decide) (by decide) (by decide) (by decide)
  rw [f1_65] at q
  have q2 : callF T (k + 20) i_partings [.d (.int 6), .d (.int 1)] [] = .ok (.fl P65) [] := q
  unfold E65 env84
  generalize P65 = P at *
  generalize b84 6 = B at *
  generalize m84 6 = M at *
  simp [f0_law_k84, S.nth, evalS, evalE, evalL, q, q2, line]
theorem a2_65 (k : Nat) (w e7 e8 e9 : Option Mi.W) : evalS (callF T (k + 20)) (f0_law_k84.nth 1) (E65 w (some (.d (.list P65))) e7 e8 e9) [] = .nx (E65 w (some (.d (.list P65))) (some (.d (.list S65))) e8 e9) [] := by kernel_rfl
theorem a3_65 (k : Nat) (w e8 e9 : Option Mi.W) : evalS (callF T (k + 20)) (f0_law_k84.nth 2) (E65 w (some (.d (.list P65))) (some (.d (.list S65))) e8 e9) [] = .nx (E65 w (some (.d (.list P65))) (some (.d (.list S65))) e8 e9) [] := by
  have ln : oneO .len (.v (.d (.list P65))) [] = some (.v (.d (.int 1))) := by kernel_rfl
  have ss := set65 []
  have ne := ne65
  have em : m84 6 = .list [.int 1, .int 15, .int 65, .int 90, .int 31, .int 1, .int 0] := rfl
  have ix : ixD [PyData.int 1, .int 15, .int 65, .int 90, .int 31, .int 1, .int 0] 5 = some (.int 1) := rfl
  unfold E65 env84
  rw [em]
  generalize P65 = P at *
  generalize S65 = Sd at *
  generalize b84 6 = B at *
  simp [f0_law_k84, S.nth, evalS, evalT, evalE, evalL, evalO, ln, ss, ne, ix]
theorem a4_65 (k : Nat) (w e8 e9 : Option Mi.W) : evalS (callF T (k + 20)) (f0_law_k84.nth 3) (E65 w (some (.d (.list P65))) (some (.d (.list S65))) e8 e9) [] = .nx (E65 w (some (.d (.list P65))) (some (.d (.list S65))) (g84 8 (evalS (callF T (k + 20)) (f0_law_k84.nth 3) (E65 w (some (.d (.list P65))) (some (.d (.list S65))) e8 e9) [])) (g84 9 (evalS (callF T (k + 20)) (f0_law_k84.nth 3) (E65 w (some (.d (.list P65))) (some (.d (.list S65))) e8 e9) []))) [] := by kernel_rfl
theorem a5_65 (k : Nat) (w e8 e9 : Option Mi.W) : evalS (callF T (k + 20)) (f0_law_k84.nth 4) (E65 w (some (.d (.list P65))) (some (.d (.list S65))) e8 e9) [] = .nx (E65 w (some (.d (.list P65))) (some (.d (.list S65))) e8 e9) [] := by kernel_rfl
theorem t84_6_5 (k : Nat) (w e6 e7 e8 e9 : Option Mi.W) : ∃ e6' e7' e8' e9', st84 k w 6 5 e6 e7 e8 e9 = .nx (env84 w 6 5 e6' e7' e8' e9') [] := by
  have hb : f0_law_k84 = .seq (f0_law_k84.nth 0) (.seq (f0_law_k84.nth 1) (.seq (f0_law_k84.nth 2) (.seq (f0_law_k84.nth 3) (.seq (f0_law_k84.nth 4) .skip)))) := rfl
  show ∃ e6' e7' e8' e9', evalS (callF T (k + 20)) f0_law_k84 (E65 w e6 e7 e8 e9) [] = .nx (E65 w e6' e7' e8' e9') []
  rw [hb, seq_nx (a1_65 k w e6 e7 e8 e9), seq_nx (a2_65 k w e7 e8 e9), seq_nx (a3_65 k w e8 e9), seq_nx (a4_65 k w e8 e9), seq_nx (a5_65 k w _ _)]
  exact ⟨_, _, _, _, rfl⟩
end Rk

/-! k84: the law -/
namespace Rk
open PySem Mi
def tl84 : S := match b_law_k84 with
  | .seq _ (.seq _ (.seq _ (.seq _ t))) => t
  | s => s
theorem tl84_1 (k : Nat) (w v4 e6 e7 e8 e9 : Option Mi.W) : evalS (callF T (k + 20)) tl84 [w, some (.d (.int (1 : Nat))), some (.d (b84 1)), some (.d (m84 1)), v4, none, e6, e7, e8, e9] [] = .rt (.v (.d (.bool true))) [] := by kernel_rfl
theorem sp84_1 (k : Nat) : callF T (k + 20) i_steps [.d (.int (1 : Nat))] [] = .ok (.v (.d (b84 1))) [] := by kernel_rfl
theorem ct84_1 (k : Nat) : callF T (k + 20) i_counts [.d (b84 1)] [] = .ok (.fl (match m84 1 with | .list xs => xs | _ => [])) [] := by kernel_rfl
theorem tl84_2 (k : Nat) (w v4 e6 e7 e8 e9 : Option Mi.W) : evalS (callF T (k + 20)) tl84 [w, some (.d (.int (2 : Nat))), some (.d (b84 2)), some (.d (m84 2)), v4, none, e6, e7, e8, e9] [] = .rt (.v (.d (.bool true))) [] := by kernel_rfl
theorem sp84_2 (k : Nat) : callF T (k + 20) i_steps [.d (.int (2 : Nat))] [] = .ok (.v (.d (b84 2))) [] := by kernel_rfl
theorem ct84_2 (k : Nat) : callF T (k + 20) i_counts [.d (b84 2)] [] = .ok (.fl (match m84 2 with | .list xs => xs | _ => [])) [] := by kernel_rfl
theorem tl84_3 (k : Nat) (w v4 e6 e7 e8 e9 : Option Mi.W) : evalS (callF T (k + 20)) tl84 [w, some (.d (.int (3 : Nat))), some (.d (b84 3)), some (.d (m84 3)), v4, none, e6, e7, e8, e9] [] = .rt (.v (.d (.bool true))) [] := by kernel_rfl
theorem sp84_3 (k : Nat) : callF T (k + 20) i_steps [.d (.int (3 : Nat))] [] = .ok (.v (.d (b84 3))) [] := by kernel_rfl
theorem ct84_3 (k : Nat) : callF T (k + 20) i_counts [.d (b84 3)] [] = .ok (.fl (match m84 3 with | .list xs => xs | _ => [])) [] := by kernel_rfl
theorem tl84_4 (k : Nat) (w v4 e6 e7 e8 e9 : Option Mi.W) : evalS (callF T (k + 20)) tl84 [w, some (.d (.int (4 : Nat))), some (.d (b84 4)), some (.d (m84 4)), v4, none, e6, e7, e8, e9] [] = .rt (.v (.d (.bool true))) [] := by kernel_rfl
theorem sp84_4 (k : Nat) : callF T (k + 20) i_steps [.d (.int (4 : Nat))] [] = .ok (.v (.d (b84 4))) [] := by kernel_rfl
theorem ct84_4 (k : Nat) : callF T (k + 20) i_counts [.d (b84 4)] [] = .ok (.fl (match m84 4 with | .list xs => xs | _ => [])) [] := by kernel_rfl
theorem tl84_5 (k : Nat) (w v4 e6 e7 e8 e9 : Option Mi.W) : evalS (callF T (k + 20)) tl84 [w, some (.d (.int (5 : Nat))), some (.d (b84 5)), some (.d (m84 5)), v4, none, e6, e7, e8, e9] [] = .rt (.v (.d (.bool true))) [] := by kernel_rfl
theorem sp84_5 (k : Nat) : callF T (k + 20) i_steps [.d (.int (5 : Nat))] [] = .ok (.v (.d (b84 5))) [] := by kernel_rfl
theorem ct84_5 (k : Nat) : callF T (k + 20) i_counts [.d (b84 5)] [] = .ok (.fl (match m84 5 with | .list xs => xs | _ => [])) [] := by kernel_rfl
theorem tl84_6 (k : Nat) (w v4 e6 e7 e8 e9 : Option Mi.W) : evalS (callF T (k + 20)) tl84 [w, some (.d (.int (6 : Nat))), some (.d (b84 6)), some (.d (m84 6)), v4, none, e6, e7, e8, e9] [] = .rt (.v (.d (.bool true))) [] := by kernel_rfl
theorem sp84_6 (k : Nat) : callF T (k + 20) i_steps [.d (.int (6 : Nat))] [] = .ok (.v (.d (b84 6))) [] := by kernel_rfl
theorem ct84_6 (k : Nat) : callF T (k + 20) i_counts [.d (b84 6)] [] = .ok (.fl (match m84 6 with | .list xs => xs | _ => [])) [] := by kernel_rfl
theorem all84 (k : Nat) (w : Option Mi.W) (n : Nat) (n1 : 1 ≤ n) (n6 : n ≤ 6) : (∀ z : Nat, z < n → ∀ e6 e7 e8 e9, ∃ e6' e7' e8' e9', st84 k w n z e6 e7 e8 e9 = .nx (env84 w n z e6' e7' e8' e9') []) ∧
    (∀ v4 e6 e7 e8 e9, evalS (callF T (k + 20)) tl84 [w, some (.d (.int n)), some (.d (b84 n)), some (.d (m84 n)), v4, none, e6, e7, e8, e9] [] = .rt (.v (.d (.bool true))) []) ∧
    callF T (k + 20) i_steps [.d (.int n)] [] = .ok (.v (.d (b84 n))) [] ∧ callF T (k + 20) i_counts [.d (b84 n)] [] = .ok (.fl (match m84 n with | .list xs => xs | _ => [])) [] := by
  match n, n1, n6 with
  | 1, _, _ =>
    refine ⟨fun z hz e6 e7 e8 e9 => ?_, fun v4 e6 e7 e8 e9 => tl84_1 k w v4 e6 e7 e8 e9, sp84_1 k, ct84_1 k⟩
    match z, hz with
    | 0, _ => exact ⟨_, _, _, _, t84_1_0 k w e6 e7 e8 e9⟩
  | 2, _, _ =>
    refine ⟨fun z hz e6 e7 e8 e9 => ?_, fun v4 e6 e7 e8 e9 => tl84_2 k w v4 e6 e7 e8 e9, sp84_2 k, ct84_2 k⟩
    match z, hz with
    | 0, _ => exact ⟨_, _, _, _, t84_2_0 k w e6 e7 e8 e9⟩
    | 1, _ => exact ⟨_, _, _, _, t84_2_1 k w e6 e7 e8 e9⟩
  | 3, _, _ =>
    refine ⟨fun z hz e6 e7 e8 e9 => ?_, fun v4 e6 e7 e8 e9 => tl84_3 k w v4 e6 e7 e8 e9, sp84_3 k, ct84_3 k⟩
    match z, hz with
    | 0, _ => exact ⟨_, _, _, _, t84_3_0 k w e6 e7 e8 e9⟩
    | 1, _ => exact ⟨_, _, _, _, t84_3_1 k w e6 e7 e8 e9⟩
    | 2, _ => exact ⟨_, _, _, _, t84_3_2 k w e6 e7 e8 e9⟩
  | 4, _, _ =>
    refine ⟨fun z hz e6 e7 e8 e9 => ?_, fun v4 e6 e7 e8 e9 => tl84_4 k w v4 e6 e7 e8 e9, sp84_4 k, ct84_4 k⟩
    match z, hz with
    | 0, _ => exact ⟨_, _, _, _, t84_4_0 k w e6 e7 e8 e9⟩
    | 1, _ => exact ⟨_, _, _, _, t84_4_1 k w e6 e7 e8 e9⟩
    | 2, _ => exact ⟨_, _, _, _, t84_4_2 k w e6 e7 e8 e9⟩
    | 3, _ => exact ⟨_, _, _, _, t84_4_3 k w e6 e7 e8 e9⟩
  | 5, _, _ =>
    refine ⟨fun z hz e6 e7 e8 e9 => ?_, fun v4 e6 e7 e8 e9 => tl84_5 k w v4 e6 e7 e8 e9, sp84_5 k, ct84_5 k⟩
    match z, hz with
    | 0, _ => exact ⟨_, _, _, _, t84_5_0 k w e6 e7 e8 e9⟩
    | 1, _ => exact ⟨_, _, _, _, t84_5_1 k w e6 e7 e8 e9⟩
    | 2, _ => exact ⟨_, _, _, _, t84_5_2 k w e6 e7 e8 e9⟩
    | 3, _ => exact ⟨_, _, _, _, t84_5_3 k w e6 e7 e8 e9⟩
    | 4, _ => exact ⟨_, _, _, _, t84_5_4 k w e6 e7 e8 e9⟩
  | 6, _, _ =>
    refine ⟨fun z hz e6 e7 e8 e9 => ?_, fun v4 e6 e7 e8 e9 => tl84_6 k w v4 e6 e7 e8 e9, sp84_6 k, ct84_6 k⟩
    match z, hz with
    | 0, _ => exact t84_6_0 k w e6 e7 e8 e9
    | 1, _ => exact t84_6_1 k w e6 e7 e8 e9
    | 2, _ => exact t84_6_2 k w e6 e7 e8 e9
    | 3, _ => exact t84_6_3 k w e6 e7 e8 e9
    | 4, _ => exact t84_6_4 k w e6 e7 e8 e9
    | 5, _ => exact t84_6_5 k w e6 e7 e8 e9
theorem loop84 (k : Nat) (w : Option Mi.W) (n : Nat) (n1 : 1 ≤ n) (n6 : n ≤ 6) : ∃ v4 e6 e7 e8 e9, forS (loopB (callF T (k + 20)) (.nm 4) f0_law_k84) yes (upto 0 n) [w, some (.d (.int n)), some (.d (b84 n)), some (.d (m84 n)), none, none, none, none, none, none] [] = .nx [w, some (.d (.int n)), some (.d (b84 n)), some (.d (m84 n)), v4, none, e6, e7, e8, e9] [] := by
  obtain ⟨hs, -⟩ := all84 k w n n1 n6
  obtain ⟨env', h', q, v4, e6, e7, e8, e9, rfl, rfl⟩ := forS_inv (body := loopB (callF T (k + 20)) (.nm 4) f0_law_k84) (fun env hh => ∃ v4 e6 e7 e8 e9, env = [w, some (.d (.int n)), some (.d (b84 n)), some (.d (m84 n)), v4, none, e6, e7, e8, e9] ∧ hh = []) (upto 0 n)
    [w, some (.d (.int n)), some (.d (b84 n)), some (.d (m84 n)), none, none, none, none, none, none] [] (fun y hy env hh ⟨v4, e6, e7, e8, e9, he, hhe⟩ => by
      subst he hhe
      obtain ⟨i, rfl, i0, i1⟩ := upto_mem hy
      obtain ⟨z, rfl⟩ := Int.eq_ofNat_of_zero_le i0
      obtain ⟨e6', e7', e8', e9', q⟩ := hs z (by omega) e6 e7 e8 e9
      exact ⟨_, _, q, _, _, _, _, _, rfl, rfl⟩) ⟨_, _, _, _, _, rfl, rfl⟩
  exact ⟨v4, e6, e7, e8, e9, q⟩
end Rk

/-! k84: the law -/
namespace Rk
open PySem Mi
theorem m84_list (n : Nat) : ∃ xs, m84 n = .list xs := by
  unfold m84
  split <;> exact ⟨_, rfl⟩
theorem law84_true {k : Nat} (ns : List Int) (hn : ns.length ≤ 63) : ∃ h, callF T (k + 21) i_law_k84 [.s ns] [] = .ok (.v (.d (.bool true))) h := by
  obtain ⟨c, hc, -⟩ := cell_ok (k := k + 19) ns 0 []
  have c0 : ((0 : Nat) : Int) = 0 := rfl
  rw [c0] at hc
  have m0 := Int.emod_nonneg c (b := 6) (by omega)
  have m1 := Int.emod_lt_of_pos c (b := 6) (by omega)
  obtain ⟨n, hN, n1, n6⟩ : ∃ n : Nat, 1 + c % 6 = (n : Int) ∧ 1 ≤ n ∧ n ≤ 6 := ⟨(1 + c % 6).toNat, by omega, by omega, by omega⟩
  obtain ⟨-, tl, sp, ct⟩ := all84 k (some (.s ns)) n n1 n6
  obtain ⟨v4, e6, e7, e8, e9, lp⟩ := loop84 k (some (.s ns)) n n1 n6
  obtain ⟨xs, em⟩ := m84_list n
  rw [em] at ct lp tl
  dsimp only at ct
  have hw : ∀ m, walk .rng1 [.v (.d (.int n))] m = some (upto 0 n, yes) := fun m => walk_rng1 (far_le (by omega) (by omega))
  have hb : b_law_k84 = .seq (b_law_k84.nth 0) (.seq (b_law_k84.nth 1) (.seq (b_law_k84.nth 2) (.seq (b_law_k84.nth 3) tl84))) := rfl
  have r1 : evalS (callF T (k + 20)) (b_law_k84.nth 0) [some (.s ns), none, none, none, none, none, none, none, none, none] [] = .nx [some (.s ns), some (.d (.int n)), none, none, none, none, none, none, none, none] [] := by
    simp [b_law_k84, S.nth, evalS, evalE, evalL, hc, hN]
  have r2 : evalS (callF T (k + 20)) (b_law_k84.nth 1) [some (.s ns), some (.d (.int n)), none, none, none, none, none, none, none, none] [] = .nx [some (.s ns), some (.d (.int n)), some (.d (b84 n)), none, none, none, none, none, none, none] [] := by
    generalize b84 n = B at *
    simp [b_law_k84, S.nth, evalS, evalE, evalL, sp]
  have r3 : evalS (callF T (k + 20)) (b_law_k84.nth 2) [some (.s ns), some (.d (.int n)), some (.d (b84 n)), none, none, none, none, none, none, none] [] = .nx [some (.s ns), some (.d (.int n)), some (.d (b84 n)), some (.d (.list xs)), none, none, none, none, none, none] [] := by
    generalize b84 n = B at *
    simp [b_law_k84, S.nth, evalS, evalE, evalL, ct]
  have r4 : evalS (callF T (k + 20)) (b_law_k84.nth 3) [some (.s ns), some (.d (.int n)), some (.d (b84 n)), some (.d (.list xs)), none, none, none, none, none, none] [] = .nx [some (.s ns), some (.d (.int n)), some (.d (b84 n)), some (.d (.list xs)), v4, none, e6, e7, e8, e9] [] := by
    have e3 : b_law_k84.nth 3 = .for_ (.nm 4) .rng1 (.cons (.var 1) .nil) f0_law_k84 := rfl
    rw [e3, evalS_for]
    generalize b84 n = B at *
    simp [evalE, evalL, hw, lp]
  refine ⟨[], ?_⟩
  rw [callF_still t_law_k84 rfl rfl]
  have e0 : entry ⟨1, 10, b_law_k84⟩ [.s ns] = [some (.s ns), none, none, none, none, none, none, none, none, none] := rfl
  rw [e0]
  show (runS 0 (evalS (callF T (k + 20)) b_law_k84 _ [])).put [] = _
  rw [hb, seq_nx r1, seq_nx r2, seq_nx r3, seq_nx r4, tl]
  rfl
end Rk


namespace Rk
theorem law_true (ns : List Int) (hn : ns.length ≤ 63) : ∃ h, Mi.callF T 200 i_law_k84 [.s ns] [] = .ok (.v (.d (.bool true))) h := law84_true (k := 179) ns hn
end Rk

open PySem PySem.W PyProof.Rows
set_option maxHeartbeats 0 in
theorem PySem.Challenge.cw_rooklands_k84_whole_partings_holds : PySem.Challenge.rw_rooklands_k84_whole_partings.Holds := by
  w_on; o_law; k_head; (case hw => w_witness2)
  k_fill
  refine L2.walk_of (l := PySem.Challenge.rw_rooklands_k84_whole_partings) (n := 63) (k := 200) (x := "_law_script") (CX := fun w => L2.CX PySem.Challenge.rw_rooklands_k84_whole_partings.prog w) (sp := fun w => Mi.spLaw _) rfl (by decide) rfl ⟨rfl, by decide, by decide⟩ (fun w h Y => PySem.W.kIn_of Y) ?F (fun _ _ a ns hl _ hS => ⟨a, ns, rfl, hS, hl, fun _ => rfl⟩) (fun _ _ _ _ _ h => Mi.noCX h)
  case F =>
    intro w mg fa h KX G hmg
    refine' Mi.law_of (h := h) (tab := Rk.tab) (g := Rk.g) (k := 200) (f := Rk.i_law_k84) (d := Rk.d_law_k84) rfl rfl rfl Rk.law_true hmg (Rk.facts KX G ?a0 ?l0 ?c0 ?k0 ?a1 ?l1 ?c1 ?k1 ?a2 ?l2 ?c2 ?k2 ?a3 ?l3 ?c3 ?k3 ?a4 ?l4 ?c4 ?k4 ?a5 ?l5 ?c5 ?k5 ?a6 ?l6 ?c6 ?k6 ?a7 ?l7 ?c7 ?k7 ?a8 ?l8 ?c8 ?k8 ?a9 ?l9 ?c9 ?k9 ?a10 ?l10 ?c10 ?k10 ?a11 ?l11 ?c11 ?k11 ?a12 ?l12 ?c12 ?k12 ?a13 ?l13 ?c13 ?k13 ?a14 ?l14 ?c14 ?k14 ?a15 ?l15 ?c15 ?k15 ?a16 ?l16 ?c16 ?k16 ?a17 ?l17 ?c17 ?k17 ?a18 ?l18 ?c18 ?k18 ?a19 ?l19 ?c19 ?k19 ?a20 ?l20 ?c20 ?k20 ?a21 ?l21 ?c21 ?k21 ?a22 ?l22 ?c22 ?k22 ?a23 ?l23 ?c23 ?k23 ?a24 ?l24 ?c24 ?k24 ?a25 ?l25 ?c25 ?k25 ?a26 ?l26 ?c26 ?k26 ?a27 ?l27 ?c27 ?k27 ?a28 ?l28 ?c28 ?k28 ?a29 ?l29 ?c29 ?k29 ?a30 ?l30 ?c30 ?k30 ?z0 ?z1 ?z2 ?z3 ?z4 ?z5 ?z6 ?z7 ?z8 ?z9 ?z10 ?z11 ?z12 ?z13 ?x1 ?y1 ?w1 ?s1 ?t1 ?x2 ?y2 ?w2 ?s2 ?t2 ?x3 ?y3 ?w3 ?s3 ?t3 ?x4 ?y4 ?w4 ?s4 ?t4 ?x5 ?y5 ?w5 ?s5 ?t5 ?x6 ?y6 ?w6 ?s6 ?t6 ?x7 ?y7 ?w7 ?s7 ?t7 ?v0 ?r0 ?v1 ?r1)
    (case a0 => k_is); (case l0 => k_is); (case c0 => k_is); (case k0 => k_is); (case a1 => k_is); (case l1 => k_is); (case c1 => k_is); (case k1 => k_is); (case a2 => k_is); (case l2 => k_is); (case c2 => k_is); (case k2 => k_is); (case a3 => k_is); (case l3 => k_is); (case c3 => k_is); (case k3 => k_is); (case a4 => k_is); (case l4 => k_is); (case c4 => k_is); (case k4 => k_is); (case a5 => k_is); (case l5 => k_is); (case c5 => k_is); (case k5 => k_is); (case a6 => k_is); (case l6 => k_is); (case c6 => k_is); (case k6 => k_is); (case a7 => k_is); (case l7 => k_is); (case c7 => k_is); (case k7 => k_is); (case a8 => k_is); (case l8 => k_is); (case c8 => k_is); (case k8 => k_is); (case a9 => k_is); (case l9 => k_is); (case c9 => k_is); (case k9 => k_is); (case a10 => k_is); (case l10 => k_is); (case c10 => k_is); (case k10 => k_is); (case a11 => k_is); (case l11 => k_is); (case c11 => k_is); (case k11 => k_is); (case a12 => k_is); (case l12 => k_is); (case c12 => k_is); (case k12 => k_is); (case a13 => k_is); (case l13 => k_is); (case c13 => k_is); (case k13 => k_is); (case a14 => k_is); (case l14 => k_is); (case c14 => k_is); (case k14 => k_is); (case a15 => k_is); (case l15 => k_is); (case c15 => k_is); (case k15 => k_is); (case a16 => k_is); (case l16 => k_is); (case c16 => k_is); (case k16 => k_is); (case a17 => k_is); (case l17 => k_is); (case c17 => k_is); (case k17 => k_is); (case a18 => k_is); (case l18 => k_is); (case c18 => k_is); (case k18 => k_is); (case a19 => k_is); (case l19 => k_is); (case c19 => k_is); (case k19 => k_is); (case a20 => k_is); (case l20 => k_is); (case c20 => k_is); (case k20 => k_is); (case a21 => k_is); (case l21 => k_is); (case c21 => k_is); (case k21 => k_is); (case a22 => k_is); (case l22 => k_is); (case c22 => k_is); (case k22 => k_is); (case a23 => k_is); (case l23 => k_is); (case c23 => k_is); (case k23 => k_is); (case a24 => k_is); (case l24 => k_is); (case c24 => k_is); (case k24 => k_is); (case a25 => k_is); (case l25 => k_is); (case c25 => k_is); (case k25 => k_is); (case a26 => k_is); (case l26 => k_is); (case c26 => k_is); (case k26 => k_is); (case a27 => k_is); (case l27 => k_is); (case c27 => k_is); (case k27 => k_is); (case a28 => k_is); (case l28 => k_is); (case c28 => k_is); (case k28 => k_is); (case a29 => k_is); (case l29 => k_is); (case c29 => k_is); (case k29 => k_is); (case a30 => k_is); (case l30 => k_is); (case c30 => k_is); (case k30 => k_is); (case z0 => k_is); (case z1 => k_is); (case z2 => k_is); (case z3 => k_is); (case z4 => k_is); (case z5 => k_is); (case z6 => k_is); (case z7 => k_is); (case z8 => k_is); (case z9 => k_is); (case z10 => k_is); (case z11 => k_is); (case z12 => k_is); (case z13 => k_is); (case x1 => k_is); (case y1 => k_exc); (case w1 => k_is); (case s1 => k_is); (case t1 => k_is); (case x2 => k_is); (case y2 => k_exc); (case w2 => k_is); (case s2 => k_is); (case t2 => k_is); (case x3 => k_is); (case y3 => k_exc); (case w3 => k_is); (case s3 => k_is); (case t3 => k_is); (case x4 => k_is); (case y4 => k_exc); (case w4 => k_is); (case s4 => k_is); (case t4 => k_is); (case x5 => k_is); (case y5 => k_exc); (case w5 => k_is); (case s5 => k_is); (case t5 => k_is); (case x6 => k_is); (case y6 => k_exc); (case w6 => k_is); (case s6 => k_is); (case t6 => k_is); (case x7 => k_is); (case y7 => k_exc); (case w7 => k_is); (case s7 => k_is); (case t7 => k_is); (case v0 => k_is); (case r0 => exact Mi.atom_int); (case v1 => k_is); (case r1 => exact Mi.atom_int)
