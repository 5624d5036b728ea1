import PyProof.Rows.All
import Wide.All
import OpenK.AllK
import Wide.FinOn
import HandS.ForMost
import HandS.Exc
import HandS.TryMany
import HandS.ExcOwn
import HandS.HeadHook4
import HandS.Zip
import KE.SortData
import KE.KDictKeyed
import KE.DataMinMax
import KE.DataCmp
import KE.DataFind
import HandS.IsInst
import HandS.Conv
import HandS.Style
import HandS.Deep
import HandS.TupSets
import KE.KeyNested
import KE.KDictCopyH
import KE.KDictList
import KE.KDictWalk
import HandS.TupAny
import HandS.TupMul
import HandS.TupLe
import HandS.TupLen
import KE.KDictPairs
import HandS.More
import HandS.Flow
import HandS.Dict
import KE.KDictDisplayH
import PyProof.DictTable
import KE.GoesMore
import KE.GoesZip
import HandS.Defaults
import HandS.HeadEnd
import HandS.Words
import HandS.WordsExc
import PyProof.ExcBaseAll.ValueError
import HandS.Head2
import KE.KStateDown
import KE.SortLaws
import OpenK.KEqL
import PySem.Challenge.RW_pastpictures_k15_whole_reached
set_option Elab.async false
set_option linter.all false
set_option maxRecDepth 100000
section
/-! A small evaluator of my own over plain data: results, operations, syntax, evaluation. -/
namespace PI
open PySem

abbrev D := PyData

/-- a result: a value, an exception (its class by number), or nothing is said -/
inductive R (α : Type) where
  | ok (a : α) | exc (c : Nat) | stuck

def R.bind {α β : Type} : R α → (α → R β) → R β
  | .ok a, f => f a
  | .exc c, _ => .exc c
  | .stuck, _ => .stuck
/-- an operation that may say nothing -/
def lift {α : Type} : Option α → R α
  | some a => .ok a
  | none => .stuck
/-- an exception is nothing said -/
def R.quiet {α : Type} : R α → Option α
  | .ok a => some a
  | _ => none
section
variable {α β : Type}
@[simp] theorem ok_bind (a : α) (f : α → R β) : R.bind (.ok a) f = f a := rfl
@[simp] theorem exc_bind (c : Nat) (f : α → R β) : R.bind (.exc c) f = .exc c := rfl
@[simp] theorem stuck_bind (f : α → R β) : R.bind .stuck f = .stuck := rfl
@[simp] theorem lift_some (a : α) : lift (some a) = .ok a := rfl
@[simp] theorem lift_none : lift (none : Option α) = .stuck := rfl
@[simp] theorem quiet_ok (a : α) : (R.ok a).quiet = some a := rfl
@[simp] theorem quiet_exc (c : Nat) : (R.exc c : R α).quiet = none := rfl
@[simp] theorem quiet_stuck : (R.stuck : R α).quiet = none := rfl
end
/-- said only where b is true -/
def gd {α : Type} (b : Bool) (x : α) : Option α := cond b (some x) none
@[simp] theorem gd_true {α : Type} (x : α) : gd true x = some x := rfl
@[simp] theorem gd_false {α : Type} (x : α) : gd false x = none := rfl
theorem gd_some {α : Type} {b : Bool} {x y : α} (h : gd b x = some y) : b = true ∧ x = y := by
  cases b with
  | false => cases h
  | true => exact ⟨rfl, Option.some.inj h⟩

def lim : Nat := 16000000

/-! ### operations on data -/
def truthD : D → Option Bool
  | .none => some false
  | .bool b => some b
  | .int i => some (i != 0)
  | .list xs => some (!xs.isEmpty)
  | .tuple xs => some (!xs.isEmpty)
  | _ => none

inductive BOp where | add | sub | mul | fdiv | mod | pow
  deriving DecidableEq
inductive COp where | eq | ne | lt | le | gt | ge | isN | notN | inn | nin | isB (b : Bool) | notB (b : Bool)
  deriving DecidableEq

def repL {α : Type} (xs : List α) (n : Nat) : List α := (List.replicate n xs).flatten
def smallI (i : Int) : Bool := decide (-(2 ^ 64) < i ∧ i < 2 ^ 64)

def binD : BOp → D → D → Option D
  | .add, .int a, .int b => some (.int (a + b))
  | .add, .str a, .str b => gd (decide (a.length + b.length ≤ lim)) (.str (a ++ b))
  | .add, .tuple a, .tuple b => gd (decide (a.length + b.length ≤ lim)) (.tuple (a ++ b))
  | .add, .list a, .list b => gd (decide (a.length + b.length ≤ lim)) (.list (a ++ b))
  | .sub, .int a, .int b => some (.int (a - b))
  | .mul, .int a, .int b => gd (smallI a || smallI b) (.int (a * b))
  | .mul, .list a, .int n => gd (decide (0 ≤ n ∧ n ≤ 1000 ∧ a.length ≤ 1000)) (.list (repL a n.toNat))
  | .mul, .str a, .int n => gd (decide (0 ≤ n ∧ n ≤ 1000 ∧ a.length ≤ 1000)) (.str (PySem.Txt.mul a n))
  | .mul, .tuple a, .int n => gd (decide (0 ≤ n ∧ n ≤ 1000 ∧ a.length ≤ 1000)) (.tuple (repL a n.toNat))
  | .fdiv, .int a, .int b => gd (decide (0 < b ∧ b < 1073741824)) (.int (a / b))
  | .mod, .int a, .int b => gd (decide (0 < b)) (.int (a % b))
  | .pow, .int a, .int b => gd (decide (0 ≤ b ∧ b ≤ 1000000 ∧ a.natAbs < 2 ^ 64)) (.int (a ^ b.toNat))
  | _, _, _ => none

def negD : D → Option D
  | .int i => some (.int (-i))
  | _ => none

/-- == -/
def eqD (a b : D) : Option Bool := match a, b with
  | .int i, .int j => some (decide (i = j))
  | .str x, .str y => some (decide (x = y))
  | .none, .none => some true
  | a, b => gd (SeqAt.shaped a && SeqAt.shaped b) (PyData.eqv a b)

def isNone : D → Bool
  | .none => true
  | _ => false

/-- x < y of data -/
def ltD (a b : D) : Option Bool := match a, b with
  | .int i, .int j => some (decide (i < j))
  | a, b => gd (W.alike a b && (!isNone a && (SeqAt.shaped a && SeqAt.shaped b))) (W.dataLt a b)
/-- x <= y -/
def leD (a b : D) : Option Bool := match a, b with
  | .int i, .int j => some (decide (i ≤ j))
  | a, b => gd (W.alike a b && (!isNone a && (SeqAt.shaped a && SeqAt.shaped b))) (!W.dataLt b a)
/-- x > y -/
def gtD (a b : D) : Option Bool := match a, b with
  | .int i, .int j => some (decide (j < i))
  | a, b => gd (W.alike a b && (!isNone a && (SeqAt.shaped a && SeqAt.shaped b))) (W.dataLt b a)
/-- x >= y -/
def geD (a b : D) : Option Bool := match a, b with
  | .int i, .int j => some (decide (j ≤ i))
  | a, b => gd (W.alike a b && (!isNone a && (SeqAt.shaped a && SeqAt.shaped b))) (!W.dataLt a b)

/-- the value of a key in a dict -/
def lookD (kvs : List (D × D)) (k : D) : Option D := match kvs with
  | [] => none
  | kv :: r => cond (PyData.eqv kv.1 k) (some kv.2) (lookD r k)
def storeD (kvs : List (D × D)) (k v : D) : List (D × D) :=
  cond (kvs.any fun kv => PyData.eqv kv.1 k) (kvs.map fun kv => cond (PyData.eqv kv.1 k) (kv.1, v) kv) (kvs ++ [(k, v)])

/-- an int, a text -/
def atomK : D → Bool
  | .int _ => true
  | .str _ => true
  | _ => false
mutual
/-- a datum as a key -/
def keyN : D → Option NestedKey
  | .none => some .none
  | .bool b => some (.num (if b = true then 1 else 0))
  | .int i => some (.num i)
  | .str x => some (.text x)
  | .tuple ds => (keysN ds).map .tup
  | .list _ => none
  | .dict _ => none
def keysN : List D → Option (List NestedKey)
  | [] => some []
  | d :: ds => (keyN d).bind fun k => (keysN ds).map fun ks => k :: ks
end
/-- a tuple as a key -/
def tupK (d : D) : Bool := match d with
  | .tuple ds => match keyN (.tuple ds) with
    | some k => decide (k.depth ≤ 8)
    | none => false
  | _ => false
/-- a list that stands ahead of the run is written so -/
def isFL (kvs : List (D × D)) : Bool := match kvs with
  | (.bool _, _) :: _ => true
  | _ => false
def flOf (kvs : List (D × D)) : Option (List D) := match kvs with
  | [(.bool true, .list xs)] => some xs
  | _ => none
theorem flOf_none {kvs : List (D × D)} (h : isFL kvs = false) : flOf kvs = none := by
  unfold flOf
  split
  · cases h
  · rfl
/-- a dict of tuple keys bears a mark ahead -/
def dictLook (kvs : List (D × D)) (x : D) : Option (Option D) := match kvs with
  | (.bool _, _) :: _ => none
  | (.none, .none) :: r => cond (tupK x) (some (lookD r x)) none
  | r => cond (atomK x) (some (lookD r x)) none
def dictStore (kvs : List (D × D)) (x v : D) : Option (List (D × D)) := match kvs with
  | (.bool _, _) :: _ => none
  | (.none, .none) :: r => gd (tupK x) ((.none, .none) :: storeD r x v)
  | r => gd (atomK x) (storeD r x v)
def dictBody (kvs : List (D × D)) : List (D × D) := match kvs with
  | (.none, .none) :: r => r
  | r => r
/-- in: the container second -/
def inD (x c : D) : Option Bool := match c with
  | .list ds => gd (SeqAt.shaped x && SeqAt.shaped (.list ds)) (ds.any fun z => PyData.eqv z x)
  | .tuple ds => gd (SeqAt.shaped x && SeqAt.shaped (.tuple ds)) (ds.any fun z => PyData.eqv z x)
  | .str y => match x with
    | .str z => gd (decide (z.cps.size = 1)) (decide (z.cps.getD 0 0 ∈ y.cps.toList))
    | _ => none
  | .dict kvs => (dictLook kvs x).map (·.isSome)
  | _ => none

def isBD (c : Bool) : D → Option Bool
  | .bool d => some (decide (d = c))
  | _ => none
def cmpD : COp → D → D → Option Bool
  | .eq, a, b => eqD a b
  | .ne, a, b => (eqD a b).map (!·)
  | .lt, a, b => ltD a b
  | .gt, a, b => gtD a b
  | .le, a, b => leD a b
  | .ge, a, b => geD a b
  | .isN, a, _ => some (isNone a)
  | .notN, a, _ => some (!isNone a)
  | .inn, a, b => inD a b
  | .nin, a, b => (inD a b).map (!·)
  | .isB c, a, _ => isBD c a
  | .notB c, a, _ => (isBD c a).map (!·)

def idxD (a i : D) : Option D := match a, i with
  | .list xs, .int k => L2.atI xs k
  | .tuple xs, .int k => L2.atI xs k
  | .str x, .int k => (cond (decide (x.length ≤ lim)) (L2.atI x.cps.toList k) none).map fun c => .str ⟨#[c]⟩
  | .dict kvs, k => match flOf kvs with
    | some xs => match k with
      | .int i => L2.atI xs i
      | _ => none
    | none => (dictLook kvs k).bind id
  | _, _ => none

def partD : D → Option (Option Int)
  | .int i => some (some i)
  | _ => none
def cutL {α : Type} (xs : List α) (lo hi : Option Int) : List α := (xs.drop (HT.sIx xs.length 0 lo)).take (HT.sIx xs.length xs.length hi - HT.sIx xs.length 0 lo)
def sliceD (a : D) (lo hi : Option Int) : Option D := match a with
  | .list xs => some (.list (cutL xs lo hi))
  | .tuple xs => some (.tuple (cutL xs lo hi))
  | .str x => gd (decide (x.length ≤ lim)) (.str (L2.cutS x lo hi))
  | _ => none
def revD : D → Option D
  | .list xs => some (.list xs.reverse)
  | .tuple xs => some (.tuple xs.reverse)
  | _ => none

def lenD : D → Option D
  | .list xs => some (.int xs.length)
  | .tuple xs => some (.int xs.length)
  | .str x => gd (decide (x.length ≤ lim)) (.int x.length)
  | .dict kvs => match flOf kvs with
    | some xs => some (.int xs.length)
    | none => gd (!isFL kvs) (.int (dictBody kvs).length)
  | _ => none

/-- what is walked -/
def itemsD : D → Option (List D)
  | .list xs => some xs
  | .tuple xs => some xs
  | .str x => gd (decide (x.cps.size ≤ lim)) (x.cps.toList.map fun c => .str ⟨#[c]⟩)
  | .dict kvs => match flOf kvs with
    | some xs => some xs
    | none => gd (!isFL kvs) ((dictBody kvs).map (·.1))
  | _ => none
def rangeL (n : Nat) : List D := (List.range n).map fun (i : Nat) => PyData.int (i : Int)
def rangeD : D → Option (List D)
  | .int n => gd (decide (-1000000 ≤ n ∧ n ≤ 1000000)) (rangeL n.toNat)
  | _ => none
def enumL : Nat → List D → List D
  | _, [] => []
  | k, x :: xs => .tuple [.int (k : Int), x] :: enumL (k + 1) xs
def zipL : List D → List D → List D
  | x :: xs, y :: ys => .tuple [x, y] :: zipL xs ys
  | _, _ => []

def enmD : D → Option (List D)
  | .list xs => some (enumL 0 xs)
  | _ => none
def zip3L : List D → List D → List D → List D
  | x :: xs, y :: ys, z :: zs => .tuple [x, y, z] :: zip3L xs ys zs
  | _, _, _ => []
def zip3D : D → D → D → Option (List D)
  | .tuple xs, .tuple ys, .tuple zs => some (zip3L xs ys zs)
  | _, _, _ => none
def zipD : D → D → Option (List D)
  | .list xs, .list ys => some (zipL xs ys)
  | .tuple xs, .tuple ys => some (zipL xs ys)
  | _, _ => none

/-! ### built-in functions and methods -/
inductive Ty where | int | bool | str | tuple | list
  deriving DecidableEq
def isIn : Ty → D → Bool
  | .int, .int _ => true
  | .int, .bool _ => true
  | .bool, .bool _ => true
  | .str, .str _ => true
  | .tuple, .tuple _ => true
  | .list, .list _ => true
  | .list, .dict kvs => isFL kvs
  | _, _ => false

inductive Bi where
  | len | list | tuple | sorted | max | min | int | str | setLen | sortedSet | sum | dictOf | listRange | values | sortedValues | min2 | max2
  deriving DecidableEq
inductive Mt where
  | count | index | get1 | get2 | join | split | partition | replace
  deriving DecidableEq

def intD : D → Option D
  | .int i => some (.int i)
  | .bool b => some (.int (if b then 1 else 0))
  | .str x => cond (decide (x.length ≤ 640)) ((PySem.intText? x).map .int) none
  | _ => none
def strD : D → Option D
  | .int i => gd (decide (i.natAbs.log2 < 1920)) (.str (toString i))
  | _ => none
def tupB (d : D) : Bool := match d with
  | .tuple (_ :: _) => true
  | _ => false
def othB (d : D) : Bool := match d with
  | .none => false
  | .tuple _ => false
  | .dict _ => false
  | _ => true
/-- what sorted wants of its items -/
def sortOk (xs : List D) : Bool := (xs.all fun x => xs.all fun y => W.alike x y) && ((xs.all tupB || xs.all othB) && xs.all SeqAt.shaped)
def sortD (xs : List D) : Option D := gd (sortOk xs) (.list (xs.mergeSort (W.dataLe false id)))
def maxL (xs : List D) : Option D := match xs with
  | [] => none
  | x :: r => gd (sortOk (x :: r)) (W.maxD x r)
def minL (xs : List D) : Option D := match xs with
  | [] => none
  | x :: r => gd (sortOk (x :: r)) (W.minD x r)
def mergeD : List (D × D) → List D → Option (List (D × D))
  | acc, [] => some acc
  | acc, .tuple [.int k, v] :: r => mergeD (storeD acc (.int k) v) r
  | _, _ => none
def valsD : D → Option (List D)
  | .dict kvs => gd (!isFL kvs) ((dictBody kvs).map (·.2))
  | _ => none
/-- the first of each equal ones -/
def firsts : List D → List D
  | [] => []
  | x :: r => x :: (firsts r).filter fun y => !PyData.eqv x y
def hashOk : D → Bool
  | .int _ => true
  | .str _ => true
  | .tuple _ => true
  | _ => false
def sumI : List D → Option Int
  | [] => some 0
  | .int i :: r => (sumI r).map fun t => i + t
  | _ => none

def keysOf (kvs : List (D × D)) : List D := (dictBody kvs).map (·.1)
def seqD : D → Option (List D)
  | .list xs => some xs
  | .tuple xs => some xs
  | _ => none
/-- each once, the first of it -/
def firstsE {α : Type} [DecidableEq α] : List α → List α
  | [] => []
  | x :: r => x :: (firstsE r).filter fun y => decide (y ≠ x)
def intsOf : List D → Option (List Int)
  | [] => some []
  | .int i :: r => (intsOf r).map (i :: ·)
  | _ :: _ => none
def tupsOf : List D → Option (List (List Int))
  | [] => some []
  | .tuple ds :: r => (intsOf ds).bind fun a => (tupsOf r).map (a :: ·)
  | _ :: _ => none
def sortU (ns : List Int) : List Int := (firstsE ns).mergeSort fun a b => decide (a ≤ b)
def sortR (as : List (List Int)) : List (List Int) := (firstsE as).mergeSort fun a b => decide (a ≤ b)
def intB : D → Bool
  | .int _ => true
  | _ => false
def setOk (xs : List D) : Bool := decide (xs.length ≤ 305) && (xs.all intB || xs.all tupK)
def rowD (a : List Int) : D := .tuple (a.map .int)
def sortedSetD (xs : List D) : Option D := match intsOf xs with
  | some ns => gd (decide (ns.length ≤ 63)) (.list ((sortU ns).map .int))
  | none => match tupsOf xs with
    | some as => gd (decide (as.length ≤ 305) && sortOk xs) (.list ((sortR as).map rowD))
    | none => none
def mergeN : List (D × D) → List D → Option (List (D × D))
  | acc, [] => some acc
  | acc, .tuple [k, v] :: r => cond (tupK k) (mergeN (storeD acc k v) r) none
  | _, _ => none
def biD : Bi → List D → Option D
  | .len, [a] => lenD a
  | .list, [.list xs] => some (.list xs)
  | .list, [.tuple xs] => some (.list xs)
  | .list, [.str x] => gd (decide (x.cps.size ≤ lim)) (.list (x.cps.toList.map fun c => .str ⟨#[c]⟩))
  | .tuple, [.list xs] => some (.tuple xs)
  | .tuple, [.tuple xs] => some (.tuple xs)
  | .sorted, [.list xs] => sortD xs
  | .sorted, [.dict kvs] => cond (isFL kvs) none (sortD (keysOf kvs))
  | .max, [.list xs] => maxL xs
  | .max, [.tuple xs] => maxL xs
  | .min, [.list xs] => minL xs
  | .min, [.tuple xs] => minL xs
  | .max2, [.int i, .int j] => some (.int (if j > i then j else i))
  | .min2, [a, b] => minL [a, b]
  | .int, [a] => intD a
  | .str, [a] => strD a
  | .setLen, [a] => (seqD a).bind fun xs => gd (setOk xs) (.int (firsts xs).length)
  | .sortedSet, [a] => (seqD a).bind sortedSetD
  | .sum, [.list xs] => (sumI xs).map .int
  | .dictOf, [.list xs] => match mergeD [] xs with
    | some kvs => some (.dict kvs)
    | none => (mergeN [] xs).map fun kvs => .dict ((.none, .none) :: kvs)
  | .listRange, [a] => (rangeD a).map .list
  | .values, [a] => (valsD a).map .list
  | .sortedValues, [a] => (valsD a).bind sortD
  | _, _ => none

def allStrs : List D → Option (List Str)
  | [] => some []
  | .str x :: r => (allStrs r).map (x :: ·)
  | _ :: _ => none
def idxOf (x : D) : Nat → List D → Option Nat
  | _, [] => none
  | k, y :: r => cond (PyData.eqv y x) (some k) (idxOf x (k + 1) r)
def mtD : Mt → D → List D → Option D
  | .count, .list xs, [x] => gd (SeqAt.shaped (.list xs) && SeqAt.shaped x) (.int (xs.countP fun y => PyData.eqv y x : Nat))
  | .index, .list xs, [x] => cond (SeqAt.shaped (.list xs) && SeqAt.shaped x) ((idxOf x 0 xs).map fun (n : Nat) => .int (n : Int)) none
  | .get1, .dict kvs, [k] => (dictLook kvs k).map fun o => o.getD .none
  | .get2, .dict kvs, [k, v] => (dictLook kvs k).map fun o => o.getD v
  | .join, .str s, [.list xs] => (allStrs xs).bind fun ys => gd (decide ((ys.map (·.length)).sum + ys.length * s.length ≤ lim)) (.str (PySem.Txt.join s ys))
  | .split, .str a, [.str b] => gd (!(b.length == 0) && decide (a.length ≤ lim)) (.list ((PySem.Txt.split a b).map .str))
  | .partition, .str a, [.str b] => gd (!(b.length == 0) && decide (a.length ≤ lim)) (.tuple [.str (PySem.Txt.partition a b).1, .str (PySem.Txt.partition a b).2.1, .str (PySem.Txt.partition a b).2.2])
  | _, _, _ => none

/-- it has the method -/
def mtFits : Mt → D → Bool
  | .count, .list _ => true
  | .index, .list _ => true
  | .get1, .dict kvs => !isFL kvs
  | .get2, .dict kvs => !isFL kvs
  | .join, .str _ => true
  | .split, .str _ => true
  | .partition, .str _ => true
  | _, _ => false

/-! ### syntax -/
inductive Pat where
  | nm (i : Nat) | tp (is : List Nat)
mutual
inductive E where
  | var (i : Nat) | bor (i : Nat)
  | con (d : D) | glb (x : Str) (d : D)
  | bin (o : BOp) (a b : E) | neg (a : E) | not (a : E) | and (a b : E) | or (a b : E)
  | cmp (o : COp) (a b : E) | chain (o o' : COp) (a b c : E) | ite (c a b : E)
  | tup (es : Es) | lst (es : Es) | dct (n : Bool) (ps : Es)
  | idx (a b : E) | slc (a : E) (lo hi : Eo) | rev (a : E)
  | call (x : Str) (g : List D → R D) (es : Es) | bi (b : Bi) (es : Es) | mt (m : Mt) (o : E) (es : Es) | isI (a : E) (t : Ty)
  | lc (elt : E) (pat : Pat) (it : It) (cond : E) (own : List Nat)
  | bad
inductive Eo where
  | non | som (e : E)
inductive Es where
  | nil | cons (e : E) (es : Es)
inductive It where
  | val (e : E) | rng (e : E) | enm (e : E) | zip (a b : E) | zip3 (a b c : E) | vls (e : E)
end
mutual
inductive S where
  | set (i : Nat) (e : E) | own (i : Nat) (e : E) | unp (is : List Nat) (e : E) | own2 (i j : Nat) (a b : E) | aug (i : Nat) (o : BOp) (e : E)
  | app (i : Nat) (e : E) | ext (i : Nat) (e : E) | stk (i : Nat) (k v : E) | sdf (i : Nat) (k v : E)
  | exp (e : E) | ret (e : E) | ret0
  | ite (c : E) (a b : Ss) | for (p : Pat) (it : It) (body : Ss) | whl (c : E) (body : Ss)
  | rse (c : Nat) | try (body : Ss) (hs : List (Nat × Nat × D))
  | frz (i : Nat) | pas | bad
inductive Ss where
  | nil | cons (s : S) (ss : Ss)
end

/-! ### evaluation -/
inductive Slot where
  | emp | val (d : D) | own (d : D)
abbrev En := List Slot
def slotAt : En → Nat → Slot
  | [], _ => .emp
  | s :: _, 0 => s
  | _ :: r, n + 1 => slotAt r n
def setAt : En → Nat → Slot → En
  | [], _, _ => []
  | _ :: r, 0, v => v :: r
  | s :: r, n + 1, v => s :: setAt r n v
def wipeE (env : En) : List Nat → En
  | [] => env
  | v :: vs => setAt (wipeE env vs) v .emp
def setAll : En → List Nat → List D → Option En
  | env, [], [] => some env
  | env, i :: is, d :: ds => setAll (setAt env i (.val d)) is ds
  | _, _, _ => none
def patSet (p : Pat) (d : D) (env : En) : Option En := match p with
  | .nm i => some (setAt env i (.val d))
  | .tp is => match d with
    | .tuple ds => setAll env is ds
    | _ => none
def lcGo (f : D → Option (Option D)) : List D → Option (List D)
  | [] => some []
  | x :: xs => (f x).bind fun o => (lcGo f xs).map fun r => match o with
    | some y => y :: r
    | none => r
def dctP : List D → List (D × D) → Option (List (D × D))
  | [], acc => some acc
  | k :: v :: r, acc => (dictStore acc k v).bind (dctP r)
  | _, _ => none
def valOf : Slot → Option D
  | .val d => some d
  | _ => none
def borOf : Slot → Option D
  | .val d => some d
  | .own d => some d
  | .emp => none
def noOwn : Slot → Bool
  | .own _ => false
  | _ => true
mutual
def evE : E → En → R D
  | .var i, env => lift (valOf (slotAt env i))
  | .bor i, env => lift (borOf (slotAt env i))
  | .con d, _ => .ok d
  | .glb _ d, _ => .ok d
  | .bin o a b, env => R.bind (evE a env) fun x => R.bind (evE b env) fun y => lift (binD o x y)
  | .neg a, env => R.bind (evE a env) fun x => lift (negD x)
  | .not a, env => R.bind (evE a env) fun x => R.bind (lift (truthD x)) fun t => .ok (.bool (!t))
  | .and a b, env => R.bind (evE a env) fun x => R.bind (lift (truthD x)) fun t => cond t (evE b env) (.ok x)
  | .or a b, env => R.bind (evE a env) fun x => R.bind (lift (truthD x)) fun t => cond t (.ok x) (evE b env)
  | .cmp o a b, env => R.bind (evE a env) fun x => R.bind (evE b env) fun y => R.bind (lift (cmpD o x y)) fun r => .ok (.bool r)
  | .chain o o' a b c, env => R.bind (evE a env) fun x => R.bind (evE b env) fun y => R.bind (lift (cmpD o x y)) fun r => cond r (R.bind (evE c env) fun z => R.bind (lift (cmpD o' y z)) fun r' => .ok (.bool r')) (.ok (.bool false))
  | .ite c a b, env => R.bind (evE c env) fun x => R.bind (lift (truthD x)) fun t => cond t (evE a env) (evE b env)
  | .tup es, env => R.bind (evEs es env) fun ds => .ok (.tuple ds)
  | .lst es, env => R.bind (evEs es env) fun ds => .ok (.list ds)
  | .dct n ps, env => R.bind (evEs ps env) fun ds => R.bind (lift (dctP ds (cond n [(.none, .none)] []))) fun kvs => .ok (.dict kvs)
  | .idx a b, env => R.bind (evE a env) fun x => R.bind (evE b env) fun y => lift (idxD x y)
  | .slc a lo hi, env => R.bind (evE a env) fun x => R.bind (evEo lo env) fun l => R.bind (evEo hi env) fun h => lift (sliceD x l h)
  | .rev a, env => R.bind (evE a env) fun x => lift (revD x)
  | .call _ g es, env => R.bind (evEs es env) g
  | .bi b es, env => R.bind (evEs es env) fun ds => lift (biD b ds)
  | .mt m o es, env => R.bind (evE o env) fun x => cond (mtFits m x) (R.bind (evEs es env) fun ds => lift (mtD m x ds)) .stuck
  | .isI a t, env => R.bind (evE a env) fun x => .ok (.bool (isIn t x))
  | .lc elt pat it c own, env => cond (own.all fun i => noOwn (slotAt env i)) (R.bind (evIt it env) fun xs => R.bind (lift (lcGo (fun x => (patSet pat x (wipeE env own)).bind fun env' => ((evE c env').quiet.bind truthD).bind fun t => cond t ((evE elt env').quiet.map some) (some none)) xs)) fun ys => .ok (.list ys)) .stuck
  | .bad, _ => .stuck
def evEo : Eo → En → R (Option Int)
  | .non, _ => .ok none
  | .som e, env => R.bind (evE e env) fun x => lift (partD x)
def evEs : Es → En → R (List D)
  | .nil, _ => .ok []
  | .cons e es, env => R.bind (evE e env) fun x => R.bind (evEs es env) fun xs => .ok (x :: xs)
def evIt : It → En → R (List D)
  | .val e, env => R.bind (evE e env) fun x => lift (itemsD x)
  | .rng e, env => R.bind (evE e env) fun x => lift (rangeD x)
  | .enm e, env => R.bind (evE e env) fun x => lift (enmD x)
  | .zip a b, env => R.bind (evE a env) fun x => R.bind (evE b env) fun y => lift (zipD x y)
  | .zip3 a b c, env => R.bind (evE a env) fun x => R.bind (evE b env) fun y => R.bind (evE c env) fun z => lift (zip3D x y z)
  | .vls e, env => R.bind (evE e env) fun x => lift (valsD x)
end
/-- behind a statement -/
inductive Rs where
  | nx (env : En) | rt (d : D) | ex (c : Nat) (env : En) | bad
/-- an expression's value in a statement -/
def Rs.of {α : Type} (r : R α) (env : En) (f : α → Rs) : Rs := match r with
  | .ok a => f a
  | .exc c => .ex c env
  | .stuck => .bad
def Rs.lf {α : Type} (r : Option α) (f : α → Rs) : Rs := match r with
  | some a => f a
  | none => .bad
def Rs.bind (r : Rs) (f : En → Rs) : Rs := match r with
  | .nx env => f env
  | .rt d => .rt d
  | .ex c env => .ex c env
  | .bad => .bad
section
variable {α : Type}
@[simp] theorem of_ok (a : α) (env : En) (f : α → Rs) : Rs.of (.ok a) env f = f a := rfl
@[simp] theorem of_exc (c : Nat) (env : En) (f : α → Rs) : Rs.of (.exc c) env f = .ex c env := rfl
@[simp] theorem of_stuck (env : En) (f : α → Rs) : Rs.of .stuck env f = .bad := rfl
@[simp] theorem lf_some (a : α) (f : α → Rs) : Rs.lf (some a) f = f a := rfl
@[simp] theorem lf_none (f : α → Rs) : Rs.lf none f = .bad := rfl
@[simp] theorem nx_bind (env : En) (f : En → Rs) : Rs.bind (.nx env) f = f env := rfl
@[simp] theorem rt_bind (d : D) (f : En → Rs) : Rs.bind (.rt d) f = .rt d := rfl
@[simp] theorem ex_bind (c : Nat) (env : En) (f : En → Rs) : Rs.bind (.ex c env) f = .ex c env := rfl
@[simp] theorem bad_bind (f : En → Rs) : Rs.bind .bad f = .bad := rfl
end
def forGo (f : D → En → Rs) : List D → En → Rs
  | [], env => .nx env
  | x :: xs, env => Rs.bind (f x env) fun env' => forGo f xs env'
def whlGo (t : En → R D) (f : En → Rs) : Nat → En → Rs
  | 0, _ => .bad
  | n + 1, env => Rs.of (t env) env fun x => Rs.lf (truthD x) fun b => cond b (Rs.bind (f env) fun env' => whlGo t f n env') (.nx env)
def augD : BOp → D → D → Option D
  | .add, .int a, .int b => some (.int (a + b))
  | _, _, _ => none
def appS (s : Slot) (d : D) : Option Slot := match s with
  | .own (.list xs) => gd (decide (xs.length < lim)) (.own (.list (xs ++ [d])))
  | _ => none
def extS (s : Slot) (d : D) : Option Slot := match s, d with
  | .own (.list xs), .list ys => gd (decide (xs.length + ys.length < lim)) (.own (.list (xs ++ ys)))
  | _, _ => none
def stkS (s : Slot) (k v : D) : Option Slot := match s with
  | .own (.dict kvs) => cond (decide (kvs.length < lim)) ((dictStore kvs k v).map fun r => .own (.dict r)) none
  | .own (.list xs) => match k with
    | .int i => (L2.ixN xs.length i).map fun j => .own (.list (xs.set j v))
    | _ => none
  | _ => none
def sdfS (s : Slot) (k v : D) : Option Slot := match s with
  | .own (.dict kvs) => (dictLook kvs k).bind fun o => match o with
    | some _ => some s
    | none => cond (decide (kvs.length < lim)) ((dictStore kvs k v).map fun r => .own (.dict r)) none
  | _ => none
def frzS : Slot → Slot
  | .own d => .val d
  | s => s
def catchGo (c : Nat) (env : En) : List (Nat × Nat × D) → Rs
  | [] => .ex c env
  | (c', i, d) :: r => cond (c' == c) (.nx (setAt env i (.val d))) (catchGo c env r)
def Rs.catch (r : Rs) (hs : List (Nat × Nat × D)) : Rs := match r with
  | .ex c env => catchGo c env hs
  | r => r
def isOwn : Slot → Bool
  | .own _ => true
  | _ => false
def ownL : Slot → Bool
  | .own (.list _) => true
  | _ => false
mutual
def evS (n : Nat) : S → En → Rs
  | .set i e, env => .of (evE e env) env fun d => .nx (setAt env i (.val d))
  | .own i e, env => .of (evE e env) env fun d => .nx (setAt env i (.own d))
  | .own2 i j a b, env => .of (evE a env) env fun x => .of (evE b env) env fun y => .nx (setAt (setAt env i (.own x)) j (.val y))
  | .unp is e, env => .of (evE e env) env fun d => .lf (patSet (.tp is) d env) .nx
  | .aug i o e, env => .lf (valOf (slotAt env i)) fun x => .of (evE e env) env fun y => .lf (augD o x y) fun z => .nx (setAt env i (.val z))
  | .app i e, env => cond (ownL (slotAt env i)) (.of (evE e env) env fun d => .lf (appS (slotAt env i) d) fun s => .nx (setAt env i s)) .bad
  | .ext i e, env => cond (ownL (slotAt env i)) (.of (evE e env) env fun d => .lf (extS (slotAt env i) d) fun s => .nx (setAt env i s)) .bad
  | .stk i k v, env => cond (isOwn (slotAt env i)) (.of (evE v env) env fun y => .of (evE k env) env fun x => .lf (stkS (slotAt env i) x y) fun s => .nx (setAt env i s)) .bad
  | .sdf i k v, env => cond (isOwn (slotAt env i)) (.of (evE k env) env fun x => .of (evE v env) env fun y => .lf (sdfS (slotAt env i) x y) fun s => .nx (setAt env i s)) .bad
  | .exp e, env => .of (evE e env) env fun _ => .nx env
  | .ret e, env => .of (evE e env) env .rt
  | .ret0, _ => .rt .none
  | .ite c a b, env => .of (evE c env) env fun x => .lf (truthD x) fun t => cond t (evSs n a env) (evSs n b env)
  | .for p it body, env => .of (evIt it env) env fun xs => forGo (fun x env => .lf (patSet p x env) fun env' => evSs n body env') xs env
  | .whl c body, env => whlGo (evE c) (evSs n body) n env
  | .rse c, env => .ex c env
  | .try body hs, env => (evSs n body env).catch hs
  | .frz i, env => .nx (setAt env i (frzS (slotAt env i)))
  | .pas, env => .nx env
  | .bad, _ => .bad
def evSs (n : Nat) : Ss → En → Rs
  | .nil, env => .nx env
  | .cons s ss, env => Rs.bind (evS n s env) fun env' => evSs n ss env'
end
def fin : Rs → R D
  | .nx _ => .ok .none
  | .rt d => .ok d
  | .ex c _ => .exc c
  | .bad => .stuck
def startE (k : Nat) (args : List D) : En := args.map .val ++ List.replicate (k - args.length) .emp
/-- a def: fuel of its whiles, its parameters, its slots, its body -/
def fnD (n ps k : Nat) (body : Ss) (args : List D) : R D := cond (decide (args.length = ps)) (fin (evSs n body (startE k args))) .stuck
end PI
end
section
/-! Open-addressed tables of sets, up to 305 members: pure. -/
namespace PI
open PySem PySem.Spec PyProof.Rows L2
/-- the masks of a set's table as it grows -/
def MaskK (m : Nat) : Prop := m = 7 ∨ m = 31 ∨ m = 127 ∨ m = 511
theorem MaskK.odd {m : Nat} (h : MaskK m) : m % 2 = 1 := by rcases h with rfl | rfl | rfl | rfl <;> rfl
theorem MaskK.le {m : Nat} (h : MaskK m) : m ≤ 511 := by rcases h with rfl | rfl | rfl | rfl <;> decide
/-- the slots from i on -/
def orb (m : Nat) : Nat → Nat → List Nat
  | 0, _ => []
  | f + 1, i => i :: orb m f ((i * 5 + 1) % (m + 1))
theorem lcgI_head (m : Nat) : ∀ b i, lcgI m ((i * 5 + 1) % (m + 1)) b = lcgI m i (b + 1)
  | 0, _ => rfl
  | b + 1, i => by
    show (lcgI m ((i * 5 + 1) % (m + 1)) b * 5 + 1) % (m + 1) = (lcgI m i (b + 1) * 5 + 1) % (m + 1)
    rw [lcgI_head m b i]
theorem orb_at (m : Nat) : ∀ {f i : Nat} {x : Nat}, x ∈ orb m f i → ∃ b, b < f ∧ lcgI m i b = x
  | 0, _, _, h => nomatch h
  | f + 1, i, x, h => by
    rcases List.mem_cons.mp h with rfl | h
    · exact ⟨0, Nat.succ_pos _, rfl⟩
    · obtain ⟨b, hb, e⟩ := orb_at m h
      exact ⟨b + 1, Nat.succ_lt_succ hb, by rw [← e, lcgI_head]⟩
theorem lcgN_I (m : Nat) : ∀ b, lcgN m b = lcgI m 0 b
  | 0 => rfl
  | b + 1 => congrArg (fun z => (z * 5 + 1) % (m + 1)) (lcgN_I m b)
/-- each slot stands in the orbit of 0, which then is round -/
def roundB (m : Nat) : Bool := ((List.range (m + 1)).all fun j => (orb m (m + 1) 0).contains j) && (lcgN m (m + 1) == 0)
theorem round7 : roundB 7 = true := by decide +kernel
theorem round31 : roundB 31 = true := by decide +kernel
theorem round127 : roundB 127 = true := by decide +kernel
theorem round511 : roundB 511 = true := by decide +kernel
theorem MaskK.round {m : Nat} (h : MaskK m) : (∀ j, j ≤ m → ∃ b, b ≤ m ∧ lcgN m b = j) ∧ lcgN m (m + 1) = 0 := by
  have r : roundB m = true := by 
    rcases h with rfl | rfl | rfl | rfl
    · exact round7
    · exact round31
    · exact round127
    · exact round511
  obtain ⟨r1, r2⟩ := Bool.and_eq_true_iff.mp r
  refine ⟨fun j hj => ?_, eq_of_beq r2⟩
  have := List.all_eq_true.mp r1 j (List.mem_range.mpr (Nat.lt_succ_of_le hj))
  obtain ⟨b, hb, e⟩ := orb_at m (List.contains_iff_mem.mp this)
  exact ⟨b, Nat.le_of_lt_succ hb, by rw [lcgN_I, e]⟩
theorem MaskK.again {m : Nat} (h : MaskK m) : ∀ k, lcgN m (m + 1 + k) = lcgN m k
  | 0 => h.round.2
  | k + 1 => congrArg (fun z => (z * 5 + 1) % (m + 1)) (MaskK.again h k)
/-- from any slot any other is met within a round -/
theorem MaskK.meets {m i j : Nat} (h : MaskK m) (hi : i ≤ m) (hj : j ≤ m) : ∃ k, k ≤ m ∧ lcgI m i k = j := by
  obtain ⟨a, ha, rfl⟩ := h.round.1 i hi
  obtain ⟨b, hb, rfl⟩ := h.round.1 j hj
  by_cases c : a ≤ b
  · exact ⟨b - a, by omega, by rw [lcgN_add, Nat.add_sub_cancel' c]⟩
  · refine ⟨b + (m + 1) - a, by omega, ?_⟩
    rw [lcgN_add, Nat.add_sub_cancel' (by omega), Nat.add_comm b, h.again]
theorem MaskK.runs {m : Nat} (h : MaskK m) (x : Int) {j : Nat} (hj : j ≤ m) : ∃ n, n ≤ m + 12 ∧ runI m (SetTable.bits x) n = j := by
  obtain ⟨k, hk, e⟩ := h.meets (runI_le m (SetTable.bits x) 12) hj
  exact ⟨12 + k, by omega, (runI_tail (bits_lt x) k).trans e⟩
theorem way_in (m : Nat) (x : Int) (k : Nat) : way m x k ≤ m := by
  have hi : SetTable.bits x % (m + 1) ≤ m := Nat.le_of_lt_succ (Nat.mod_lt _ (Nat.succ_pos _))
  have hr := runEnd_bd hi
  have := nth_in (m := m) k (runAt m (SetTable.bits x % (m + 1)) (SetTable.bits x)) (Nat.le_trans (Nat.le_of_eq (Nat.add_sub_cancel' hr.2.1)) hr.1)
  exact Nat.le_trans (Nat.le_add_right _ _) this
theorem MaskK.hits {m : Nat} (h : MaskK m) (x : Int) {j : Nat} (hj : j ≤ m) : ∃ k, k < 10 * SetTable.turns m ∧ way m x k = j := by
  obtain ⟨n, hn, e⟩ := h.runs x hj
  obtain ⟨k, hk, e2⟩ := run_nth m (SetTable.bits x) n
  exact ⟨k, by unfold SetTable.turns; omega, (congrArg SetTable.Probe.j e2).trans e⟩
/-- a table in which all hashes are found from their beginnings -/
structure TabK (t : SetTable) (hs : List Int) : Prop where
  up : Ris t.place.toList
  nd : t.dummies = #[]
  ln : t.place.size = hs.length
  ms : MaskK t.mask
  bd : ∀ x ∈ t.place.toList, x ≤ t.mask
  got : ∀ (i : Nat) (x : Int) (j : Nat), hs[i]? = some x → t.place.toList[i]? = some j → ∃ k, way t.mask x k = j ∧ ∀ c, c < k → way t.mask x c ∈ t.place.toList
section
variable {t : SetTable} {hs : List Int}
theorem TabK.ln' (T : TabK t hs) : t.place.toList.length = hs.length := by rw [Array.length_toList, T.ln]
/-- a hash's way comes to an empty slot -/
theorem TabK.empty (T : TabK t hs) (hl : hs.length ≤ t.mask) (x : Int) : ∃ K, K < 10 * SetTable.turns t.mask ∧ way t.mask x K ∉ t.place.toList ∧ ∀ k, k < K → way t.mask x k ∈ t.place.toList := by
  obtain ⟨j, hj, hn⟩ := st_missing t.place.toList (t.mask + 1) (by rw [T.ln']; omega)
  obtain ⟨k, hk, rfl⟩ := T.ms.hits x (Nat.le_of_lt_succ hj)
  obtain ⟨K, h1, h2, h3⟩ := st_least (p := fun k => way t.mask x k ∉ t.place.toList) k hn
  exact ⟨K, by omega, h2, fun c hc => Classical.byContradiction (h3 c hc)⟩
/-- what has the hash stands ahead of it -/
theorem TabK.ahead (T : TabK t hs) {x : Int} {K i j : Nat} (hK : way t.mask x K ∉ t.place.toList) (hi : hs[i]? = some x) (hj : t.place.toList[i]? = some j) : ∃ k, k < K ∧ way t.mask x k = j := by
  obtain ⟨k, rfl, hb⟩ := T.got i x j hi hj
  refine ⟨k, Classical.byContradiction fun c => ?_, rfl⟩
  rcases Nat.lt_or_ge K k with q | q
  · exact hK (hb K q)
  · have : k = K := by omega
    subst this
    exact hK (List.mem_of_getElem? hj)
/-- where it is put in -/
abbrev cutAt (t : SetTable) (j : Nat) : Nat := SetTable.below t.place j
theorem TabK.put (T : TabK t hs) {x : Int} {K : Nat} (hK : way t.mask x K ∉ t.place.toList) (hb : ∀ k, k < K → way t.mask x k ∈ t.place.toList) :
    cutAt t (way t.mask x K) ≤ hs.length ∧ TabK (t.put (way t.mask x K)).1 (hs.take (cutAt t (way t.mask x K)) ++ x :: hs.drop (cutAt t (way t.mask x K))) := by
  have jm : way t.mask x K ≤ t.mask := way_in _ _ _
  generalize hj : way t.mask x K = j at hK jm ⊢
  have c1 : cutAt t j ≤ t.place.size := (below_cut T.up j).1
  have ph : cutAt t j ≤ hs.length := by rw [← T.ln]; exact c1
  have pl : cutAt t j ≤ t.place.toList.length := by rw [T.ln']; exact ph
  have pp := put_place t j
  have old : ∀ z, z ∈ t.place.toList → z ∈ (t.put j).1.place.toList := fun z hz => by rw [pp]; exact mem_ins.mpr (.inr hz)
  refine ⟨ph, ris_insert T.up fun e => hK (List.mem_of_getElem? (by rw [Array.getElem?_toList]; exact e)), put_dm T.nd j, ?_, T.ms, fun z hz => ?_, fun i y k h1 h2 => ?_⟩
  · rw [← Array.length_toList, pp, len_ins _ pl, T.ln', len_ins _ ph]
  · rw [pp] at hz
    rcases mem_ins.mp hz with rfl | hz
    · exact jm
    · exact T.bd z hz
  · rw [tins_get hs ph] at h1
    rw [pp, tins_get _ pl] at h2
    have keep : ∀ (i' : Nat), hs[i']? = some y → t.place.toList[i']? = some k → ∃ c, way t.mask y c = k ∧ ∀ c', c' < c → way t.mask y c' ∈ (t.put j).1.place.toList := fun i' a b => by
      obtain ⟨c, e, q⟩ := T.got i' y k a b
      exact ⟨c, e, fun c' hc => old _ (q c' hc)⟩
    by_cases a : i < cutAt t j
    · rw [if_pos a] at h1 h2; exact keep i h1 h2
    · rw [if_neg a] at h1 h2
      by_cases b : i = cutAt t j
      · rw [if_pos b] at h1 h2
        cases h1; cases h2
        exact ⟨K, hj, fun c hc => old _ (hb c hc)⟩
      · rw [if_neg b] at h1 h2; exact keep _ h1 h2
/-! laying all anew -/
theorem free_at {m : Nat} (hm : MaskK m) (owner : Array (Option Nat)) (x : Int) {j : Nat} (hj : j ≤ m) (hf : oAt owner j = none) :
    ∃ K, SetTable.layClean.free m owner (SetTable.turns m) (SetTable.bits x % (m + 1)) (SetTable.bits x) = some (way m x K) ∧ oAt owner (way m x K) = none ∧ ∀ k, k < K → oAt owner (way m x k) ≠ none := by
  obtain ⟨n, hn, e⟩ := hm.runs x hj
  have hw : way m x (off m (SetTable.bits x % (m + 1)) (SetTable.bits x) n) = j := by
    show SetTable.Probe.j (nth m _ (off m _ _ n)) = j
    rw [nth_off, itL_run]
    exact e
  obtain ⟨K, k1, k2, k3⟩ := st_least (p := fun k => oAt owner (way m x k) = none) _ (show oAt owner (way m x _) = none by rw [hw]; exact hf)
  refine ⟨K, free_spec m owner _ n _ _ K (by unfold SetTable.turns; omega) k1 (fun k hk => ?_) (Option.isNone_iff_eq_none.mpr k2), k2, k3⟩
  cases z : (oAt owner (nth m (runAt m (SetTable.bits x % (m + 1)) (SetTable.bits x)) k).j) with
  | none => exact absurd z (k3 k hk)
  | some _ => rfl
theorem own_step {m : Nat} (hm : MaskK m) {dn : List Int} {owner : Array (Option Nat)} (O : Own m dn owner) (hl : dn.length ≤ m) (x : Int) :
    ∃ j, SetTable.layClean.free m owner (SetTable.turns m) (SetTable.bits x % (m + 1)) (SetTable.bits x) = some j ∧ Own m (dn ++ [x]) (owner.setIfInBounds j (some dn.length)) := by
  obtain ⟨ps, p1, p2⟩ := O.ps
  obtain ⟨j0, q0, n0⟩ := st_missing ps (m + 1) (by omega)
  have f0 : oAt owner j0 = none := Classical.byContradiction fun c => n0 (p2 j0 (Nat.le_of_lt_succ q0) c)
  obtain ⟨K, e1, e2, e3⟩ := free_at hm owner x (Nat.le_of_lt_succ q0) f0
  have wm : way m x K ≤ m := way_in m x K
  have me := oAt_set_self (owner := owner) (some dn.length) (show way m x K < owner.size by rw [O.sz]; omega)
  have oth : ∀ i, i ≠ way m x K → oAt (owner.setIfInBounds (way m x K) (some dn.length)) i = oAt owner i := fun i c => oAt_set_ne _ c
  have stay : ∀ i, oAt owner i ≠ none → oAt (owner.setIfInBounds (way m x K) (some dn.length)) i ≠ none := fun i hi => by
    by_cases c : i = way m x K
    · rw [c, me]; exact Option.some_ne_none _
    · rw [oth i c]; exact hi
  refine ⟨_, e1, by rw [Array.size_setIfInBounds, O.sz], fun j k hj e => ?_, fun k hk => ?_, way m x K :: ps, by rw [List.length_cons, List.length_append, p1, List.length_singleton], fun j hj e => ?_⟩
  · by_cases c : j = way m x K
    · rw [c, me] at e
      cases e
      exact ⟨x, K, by rw [List.getElem?_append_right (Nat.le_refl _), Nat.sub_self]; rfl, c.symm, fun c' hc => stay _ (e3 c' hc)⟩
    · rw [oth j c] at e
      obtain ⟨y, K', a1, a2, a3⟩ := O.at_ j k hj e
      exact ⟨y, K', by rw [List.getElem?_append_left (List.getElem?_eq_some_iff.mp a1).1, a1], a2, fun c' hc => stay _ (a3 c' hc)⟩
  · rw [List.length_append, List.length_singleton] at hk
    by_cases c : k < dn.length
    · obtain ⟨j, hj, e⟩ := O.all k c
      exact ⟨j, hj, by rw [oth j fun z => by rw [z, e2] at e; cases e]; exact e⟩
    · exact ⟨_, wm, by rw [me, show k = dn.length by omega]⟩
  · by_cases c : j = way m x K
    · rw [c]; exact List.mem_cons_self
    · rw [oth j c] at e; exact List.mem_cons_of_mem _ (p2 j hj e)
theorem lay_all {m : Nat} (hm : MaskK m) : ∀ (rs dn : List Int) (owner : Array (Option Nat)), Own m dn owner → dn.length + rs.length ≤ m → ∃ o', rs.foldl (stepF m) (some (owner, dn.length)) = some (o', (dn ++ rs).length) ∧ Own m (dn ++ rs) o'
  | [], dn, owner, O, _ => ⟨owner, by simp, by simpa using O⟩
  | x :: rs, dn, owner, O, hl => by
    rw [List.length_cons] at hl
    obtain ⟨j, e, O1⟩ := own_step hm O (by omega) x
    obtain ⟨o', f, O2⟩ := lay_all hm rs (dn ++ [x]) _ O1 (by rw [List.length_append, List.length_singleton]; omega)
    rw [List.append_assoc, List.length_append, List.length_singleton] at f
    rw [List.append_assoc] at O2
    exact ⟨o', by rw [List.foldl_cons, stepF_some e]; exact f, O2⟩
theorem lay_clean {m : Nat} (hm : MaskK m) {xs : Array Int} (hn : xs.size ≤ m) : ∃ owner, SetTable.layClean m xs = some owner ∧ Own m xs.toList owner := by
  obtain ⟨o', f, O⟩ := lay_all hm xs.toList [] _ (Own.init m) (by simpa using hn)
  refine ⟨o', ?_, by simpa using O⟩
  rw [layClean_eq, show (0 : Nat) = ([] : List Int).length from rfl, f]
  rfl
theorem relaid_tab (t : SetTable) {xs : Array Int} {wanted M : Nat} (hw : SetTable.sizeAbove wanted - 1 = M) (hM : MaskK M) (hn : xs.size ≤ M) :
    ∃ t' order, t.relaid xs wanted = some (t', order) ∧ order.toList.Perm (List.range xs.size) ∧ TabK t' (order.toList.map fun i => xs.getD i 0) ∧ t'.mask = M ∧ t'.led = t.led ∧ t'.plain = t.plain := by
  obtain ⟨owner, e, O⟩ := lay_clean hM hn
  obtain ⟨r1, r2⟩ : Ris ((liveOf M owner).map (·.1)) ∧ ∀ x ∈ (liveOf M owner).map (·.1), x ∈ List.range (M + 1) := ris_live (fun j => owner.getD j none) (List.range (M + 1)) List.pairwise_lt_range
  have live : ∀ {j k : Nat}, (j, k) ∈ liveOf M owner ↔ j ≤ M ∧ oAt owner j = some k := fun {_ _} => mem_live O.sz
  have each : ∀ k, k < xs.size → k ∈ (liveOf M owner).map (·.2) := fun k hk => by
    obtain ⟨j, a, b⟩ := O.all k (by rw [Array.length_toList]; exact hk)
    exact List.mem_map.mpr ⟨(j, k), live.mpr ⟨a, b⟩, rfl⟩
  have len : (liveOf M owner).length = xs.size := by
    obtain ⟨ps, p1, p2⟩ := O.ps
    have nd : ((liveOf M owner).map (·.1)).Nodup := List.Pairwise.imp (fun h => Nat.ne_of_lt h) r1
    have a := nat_nodup_len ((liveOf M owner).map (·.1)) ps nd fun x hx => by
      obtain ⟨⟨y, k⟩, hq, rfl⟩ := List.mem_map.mp hx
      obtain ⟨b1, b2⟩ := live.mp hq
      exact p2 y b1 (by rw [b2]; exact Option.some_ne_none _)
    have b := nat_nodup_len (List.range xs.size) ((liveOf M owner).map (·.2)) List.nodup_range fun k hk => each k (List.mem_range.mp hk)
    have a : (liveOf M owner).length ≤ xs.size := by simpa [p1] using a
    have b : xs.size ≤ (liveOf M owner).length := by simpa using b
    omega
  refine ⟨tabOf t M owner, ((liveOf M owner).map (·.2)).toArray, ?_, perm_range xs.size _ ?_ each, ⟨r1, rfl, ?_, hM, fun x hx => Nat.le_of_lt_succ (List.mem_range.mp (r2 x hx)), fun i x j h1 h2 => ?_⟩, rfl, rfl, rfl⟩
  · rw [relaid_eq, hw, e]; rfl
  · show ((liveOf M owner).map (·.2)).length = _
    rw [List.length_map, len]
  · show ((liveOf M owner).map (·.1)).toArray.size = (List.map _ ((liveOf M owner).map (·.2))).length
    simp
  · have h1 : ((liveOf M owner)[i]?.map (·.2)).map (fun i => xs.getD i 0) = some x := by rw [← List.getElem?_map, ← List.getElem?_map]; exact h1
    have h2 : (liveOf M owner)[i]?.map (·.1) = some j := by rw [← List.getElem?_map]; exact h2
    cases q : (liveOf M owner)[i]? with
    | none => rw [q] at h2; cases h2
    | some p =>
      obtain ⟨y, k⟩ := p
      rw [q] at h1 h2
      cases h2
      obtain ⟨b1, b2⟩ := live.mp (List.mem_of_getElem? q)
      obtain ⟨z, K, a1, a2, a3⟩ := O.at_ y k b1 b2
      have ez : xs.getD k 0 = z := by rw [Array.getD_eq_getD_getElem?, ← Array.getElem?_toList, a1]; rfl
      have h1 : some (xs.getD k 0) = some x := h1
      rw [ez] at h1
      have e3 : z = x := Option.some.inj h1
      subst e3
      refine ⟨K, a2, fun c hc => List.mem_map.mpr ?_⟩
      cases w : oAt owner (way M z c) with
      | none => exact absurd w (a3 c hc)
      | some k2 => exact ⟨(way M z c, k2), live.mpr ⟨way_in M z c, w⟩, rfl⟩
end
end PI
end
section
/-! Sets of tuples of any depth in the model's heap. -/
namespace PI
open PySem PySem.Spec PyProof.Rows L2
mutual
/-- a key without texts -/
def numsB : NestedKey → Bool
  | .none => true
  | .num _ => true
  | .text _ => false
  | .tup ks => numsAll ks
def numsAll : List NestedKey → Bool
  | [] => true
  | k :: ks => numsB k && numsAll ks
end
section
variable {P : Program} {w : World} {A : Around} {E : Value → Shared → Prop} {s : Shared}
/-- the tuple at a is the key k -/
abbrev IsK (P : Program) (w : World) (h : Heap) (k : NestedKey) (a : Addr) : Prop := (nestedKind P w).is h k a
/-! questions that a set asks of a key -/
def AskC (P : Program) (w : World) (s : Shared) (n : Nat) (v : Value) : Prop := ∀ (A : Around) (E : Value → Shared → Prop) (Q : Bool → Shared → Prop), Q false s → wpAny (model P w) A (ofAClassStatement n v) Q E s
def AskH (P : Program) (w : World) (s : Shared) (n : Nat) (v : Value) (b : Bool) : Prop := ∀ (A : Around) (E : Value → Shared → Prop) (Q : Bool → Shared → Prop), Q b s → wpAny (model P w) A (hashByValue n v) Q E s
theorem askC_flat {n : Nat} {v : Value} (h : ∀ a, v ≠ .ref a) : AskC P w s n v := fun A E Q q => by
  cases v with
  | ref a => exact absurd rfl (h a)
  | _ => cases n <;> exact wpAny_pure q
theorem askC_tup {n : Nat} {a : Addr} {o : Obj} {vs : Array Value} {m : Nat} (ho : s.heap.get? a = some o) (hc : o.cls = .type "tuple") (hd : o.data = .seq vs m) (hq : ∀ v ∈ vs.toList, AskC P w s n v) : AskC P w s (n + 1) (.ref a) := fun A E Q q => by
  unfold ofAClassStatement
  refine wpAny_bind (wpAny_typeOf ⟨o, ho, hc⟩ ?_)
  dsimp only
  simp only [show (("tuple" : String) == "tuple") = true from rfl, if_true, Bool.not_true, Bool.false_eq_true, if_false]
  try refine wpAny_bind (wpAny_pure ?_)
  try simp only [Bool.not_true, Bool.false_eq_true, if_false]
  show wpAny _ _ (seqItems? (.ref a) >>= _) _ _ s
  refine wpAny_bind (wpAny_seqItems ho hd ?_)
  dsimp only
  refine wpAny_bind ?_
  show wpAny _ _ (forIn vs _ _) _ _ s
  rw [← Array.forIn_toList]
  refine wpAny_forIn_list _ (fun l r s' => (r.1 = none ∧ s' = s) ∧ ∀ v ∈ l, AskC P w s n v) _ ?_ ?_ _ _ ⟨⟨rfl, rfl⟩, hq⟩
  · rintro v l r s' ⟨⟨hr, rfl⟩, all⟩
    refine wpAny_bind (all v List.mem_cons_self _ _ _ ?_)
    simp only [Bool.false_eq_true, if_false]
    exact wpAny_pure ⟨⟨rfl, rfl⟩, fun u hu => all u (List.mem_cons_of_mem _ hu)⟩
  · rintro ⟨r1, r2⟩ s' ⟨⟨hr, rfl⟩, _⟩
    simp only at hr
    subst hr
    exact wpAny_pure q
theorem askH_num {n : Nat} {v : Value} (h : v = .none ∨ (∃ b, v = .bool b) ∨ ∃ i t, v = .int i t) : AskH P w s n v true := fun A E Q q => by
  rcases h with rfl | ⟨b, rfl⟩ | ⟨i, t, rfl⟩ <;> cases n <;> exact wpAny_pure q
theorem askH_text {n : Nat} {x : Str} {t : Tok} : AskH P w s n (.str x t) false := fun A E Q q => by
  cases n <;> exact wpAny_pure q
theorem askH_allT {n : Nat} {a : Addr} {o : Obj} {vs : Array Value} {m : Nat} (ho : s.heap.get? a = some o) (hc : o.cls = .type "tuple") (hd : o.data = .seq vs m) (all : ∀ v ∈ vs.toList, AskH P w s n v true) : AskH P w s (n + 1) (.ref a) true := fun A E Q q => by
  have hT : s.TypeIs (.ref a) "tuple" := ⟨o, ho, hc⟩
  unfold hashByValue
  refine wpAny_bind (wpAny_specialOf hT F.slot_tuple_hash.lookup ?_)
  show wpAny _ _ (seqItems? (.ref a) >>= _) _ _ s
  refine wpAny_bind (wpAny_seqItems ho hd ?_)
  refine wpAny_bind ?_
  show wpAny _ _ (forIn vs _ _) _ _ s
  rw [← Array.forIn_toList]
  refine wpAny_forIn_list _ (fun l r s' => (r.1 = none ∧ s' = s) ∧ ∀ v ∈ l, AskH P w s n v true) _ ?_ ?_ _ _ ⟨⟨rfl, rfl⟩, all⟩
  · rintro v l r s' ⟨⟨hr, rfl⟩, all⟩
    refine wpAny_bind (all v List.mem_cons_self _ _ _ ?_)
    simp only [Bool.not_true, Bool.false_eq_true, if_false]
    exact wpAny_pure ⟨⟨rfl, rfl⟩, fun u hu => all u (List.mem_cons_of_mem _ hu)⟩
  · rintro ⟨r1, r2⟩ s' ⟨⟨hr, rfl⟩, _⟩
    simp only at hr
    subst hr
    exact wpAny_pure q
theorem askH_any {n : Nat} {a : Addr} {o : Obj} {vs : Array Value} {m : Nat} (ho : s.heap.get? a = some o) (hc : o.cls = .type "tuple") (hd : o.data = .seq vs m) (hq : ∀ v ∈ vs.toList, ∃ b, AskH P w s n v b) : ∃ b, AskH P w s (n + 1) (.ref a) b := by
  by_cases c : ∀ v ∈ vs.toList, AskH P w s n v true
  · exact ⟨true, askH_allT ho hc hd c⟩
  · have c : ∃ v ∈ vs.toList, ¬ AskH P w s n v true := Classical.byContradiction fun z => c fun v hv => Classical.byContradiction fun y => z ⟨v, hv, y⟩
    refine ⟨false, fun A E Q q => ?_⟩
    have hT : s.TypeIs (.ref a) "tuple" := ⟨o, ho, hc⟩
    unfold hashByValue
    refine wpAny_bind (wpAny_specialOf hT F.slot_tuple_hash.lookup ?_)
    show wpAny _ _ (seqItems? (.ref a) >>= _) _ _ s
    refine wpAny_bind (wpAny_seqItems ho hd ?_)
    refine wpAny_bind ?_
    show wpAny _ _ (forIn vs _ _) _ _ s
    rw [← Array.forIn_toList]
    refine wpAny_forIn_list _ (fun l r s' => ((r.1 = none ∧ s' = s) ∧ ∀ v ∈ l, ∃ b, AskH P w s n v b) ∧ ∃ v ∈ l, ¬ AskH P w s n v true) _ ?_ ?_ _ _ ⟨⟨⟨rfl, rfl⟩, hq⟩, c⟩
    · rintro v l r s' ⟨⟨⟨hr, rfl⟩, all⟩, u, hu, hn⟩
      obtain ⟨b, hb⟩ := all v List.mem_cons_self
      cases b with
      | false =>
        refine wpAny_bind (hb _ _ _ ?_)
        simp only [Bool.not_false, if_true]
        exact wpAny_pure (wpAny_pure q)
      | true =>
        refine wpAny_bind (hb _ _ _ ?_)
        simp only [Bool.not_true, Bool.false_eq_true, if_false]
        refine wpAny_pure ⟨⟨⟨rfl, rfl⟩, fun u hu => all u (List.mem_cons_of_mem _ hu)⟩, u, ?_, hn⟩
        rcases List.mem_cons.mp hu with rfl | hu
        · exact absurd hb hn
        · exact hu
    · rintro r s' ⟨_, u, hu, _⟩
      cases hu
mutual
theorem askC_key : ∀ (k : NestedKey) (v : Value) (n : Nat), NestedIs s.heap k v → k.depth ≤ n → AskC P w s n v
  | .none, _, n, x, _ => by cases x; exact askC_flat fun a h => nomatch h
  | .num i, _, n, x, _ => by cases x <;> exact askC_flat fun a h => nomatch h
  | .text y, _, n, x, _ => by cases x; exact askC_flat fun a h => nomatch h
  | .tup ks, _, n, x, hn => by
    cases x with
    | tup hg hc hd hk =>
      simp only [NestedKey.depth] at hn
      cases n with
      | zero => omega
      | succ n => exact askC_tup hg hc hd (askC_keys ks _ n hk (by omega))
theorem askC_keys : ∀ (ks : List NestedKey) (vs : List Value) (n : Nat), NestedAll s.heap ks vs → NestedKey.depthAll ks ≤ n → ∀ v ∈ vs, AskC P w s n v
  | [], _, n, x, _, v, hv => by cases x; cases hv
  | k :: ks, _, n, x, hn, v, hv => by
    cases x with
    | cons x1 x2 =>
      simp only [NestedKey.depthAll] at hn
      rcases List.mem_cons.mp hv with rfl | hv
      · exact askC_key k _ n x1 (by omega)
      · exact askC_keys ks _ n x2 (by omega) v hv
end
mutual
theorem askH_key : ∀ (k : NestedKey) (v : Value) (n : Nat), NestedIs s.heap k v → k.depth ≤ n → ∃ b, (numsB k = true → b = true) ∧ AskH P w s n v b
  | .none, _, n, x, _ => by cases x; exact ⟨true, fun _ => rfl, askH_num (.inl rfl)⟩
  | .num i, _, n, x, _ => by
    cases x with
    | int _ t => exact ⟨true, fun _ => rfl, askH_num (.inr (.inr ⟨_, _, rfl⟩))⟩
    | bool _ => exact ⟨true, fun _ => rfl, askH_num (.inr (.inl ⟨_, rfl⟩))⟩
  | .text y, _, n, x, _ => by cases x; exact ⟨false, (fun h => by cases h), askH_text⟩
  | .tup ks, _, n, x, hn => by
    cases x with
    | tup hg hc hd hk =>
      simp only [NestedKey.depth] at hn
      cases n with
      | zero => omega
      | succ n =>
        obtain ⟨q1, q2⟩ := askH_keys ks _ n hk (by omega)
        by_cases z : numsAll ks = true
        · exact ⟨true, fun _ => rfl, askH_allT hg hc hd (q2 z)⟩
        · obtain ⟨b, r⟩ := askH_any hg hc hd q1
          exact ⟨b, fun h => absurd h z, r⟩
theorem askH_keys : ∀ (ks : List NestedKey) (vs : List Value) (n : Nat), NestedAll s.heap ks vs → NestedKey.depthAll ks ≤ n → (∀ v ∈ vs, ∃ b, AskH P w s n v b) ∧ (numsAll ks = true → ∀ v ∈ vs, AskH P w s n v true)
  | [], _, n, x, _ => by cases x; exact ⟨(fun _ h => by cases h), (fun _ _ h => by cases h)⟩
  | k :: ks, _, n, x, hn => by
    cases x with
    | cons x1 x2 =>
      simp only [NestedKey.depthAll] at hn
      obtain ⟨b, h1, h2⟩ := askH_key k _ n x1 (by omega)
      obtain ⟨h3, h4⟩ := askH_keys ks _ n x2 (by omega)
      refine ⟨fun v hv => ?_, fun z v hv => ?_⟩
      · rcases List.mem_cons.mp hv with rfl | hv
        · exact ⟨b, h2⟩
        · exact h3 v hv
      · obtain ⟨z1, z2⟩ := Bool.and_eq_true_iff.mp (show (numsB k && numsAll ks) = true from z)
        rcases List.mem_cons.mp hv with rfl | hv
        · rw [h1 z1] at h2; exact h2
        · exact h4 z2 v hv
end
end
end PI
end
section
/-! Sets of tuples of any depth: putting in. -/
namespace PI
open PySem PySem.Spec PyProof.Rows L2
section
variable {P : Program} {w : World} {A : Around} {E : Value → Shared → Prop} {s : Shared} {a : Addr}
abbrev Mem := Addr × NestedKey
def rowsK (w : World) (L : List Mem) : List (Int × Value) := L.map fun p => (p.2.hash w, Value.ref p.1)
def hashK (w : World) (L : List Mem) : List Int := L.map fun p => p.2.hash w
/-- the set at a has the members L -/
structure SetN (P : Program) (w : World) (h : Heap) (a : Addr) (L : List Mem) (es : Array (Int × Value)) (ep : Nat) (t : SetTable) : Prop where
  ob : ∃ o, h.get? a = some o ∧ o.ExactSet ∧ o.data = .set es ep t
  rw_ : es.toList = rowsK w L
  tb : TabK t (hashK w L)
  nd : (L.map (·.2)).Nodup
  ky : ∀ p ∈ L, IsK P w h p.2 p.1
  pl : (∀ p ∈ L, numsB p.2 = true) → t.plain = true
  ld : w.params.followText "set-order" = true ∨ t.led = true
  rm : L.length * 5 < t.mask * 3
  fw : L.length ≤ 305
variable {L : List Mem} {es : Array (Int × Value)} {ep : Nat} {t : SetTable}
theorem rows_size {es : Array (Int × Value)} {L : List Mem} (h : es.toList = rowsK w L) : es.size = L.length := by
  rw [← Array.length_toList, h]; exact List.length_map ..
theorem SetN.sz (R : SetN P w s.heap a L es ep t) : es.size = L.length := rows_size R.rw_
theorem hashK_len : (hashK w L).length = L.length := List.length_map ..
theorem fits_of {t : SetTable} {n : Nat} (h1 : t.place.size = n) (h2 : t.dummies = #[]) (h3 : n ≤ t.mask) : t.fits n = true := by
  unfold SetTable.fits SetTable.fill
  rw [h1, h2]
  simpa using h3
theorem SetN.fits (R : SetN P w s.heap a L es ep t) : t.fits es.size = true := by
  have := R.rm
  have := R.tb.ln
  rw [hashK_len] at this
  exact fits_of (by rw [R.sz]; exact this) R.tb.nd (by rw [R.sz]; omega)
theorem SetN.at (R : SetN P w s.heap a L es ep t) {i : Nat} {p : Mem} (h : L[i]? = some p) : es[i]? = some (p.2.hash w, Value.ref p.1) := by
  rw [← Array.getElem?_toList, R.rw_, rowsK, List.getElem?_map, h]; rfl
theorem SetN.hAt (R : SetN P w s.heap a L es ep t) {i : Nat} {p : Mem} (h : L[i]? = some p) : (es[i]?.map (·.1)).getD 0 = p.2.hash w := by rw [R.at h]; rfl
theorem seen_key {k : NestedKey} {b : Addr} {Q : Bool → Shared → Prop} (hk : IsK P w s.heap k b) {ys : List Value} (hy : ∀ y ∈ ys, ∃ k' c, y = Value.ref c ∧ IsK P w s.heap k' c) (h : Q false s) :
    wpAny (model P w) A (searchCouldBeSeen (.ref b) ys) Q E s := by
  unfold searchCouldBeSeen
  refine wpAny_bind ?_
  refine wpAny_forIn_list _ (fun l r s' => (r.1 = none ∧ s' = s) ∧ ∀ y ∈ l, ∃ k' c, y = Value.ref c ∧ IsK P w s.heap k' c) _ ?_ ?_ _ _ ⟨⟨rfl, rfl⟩, hy⟩
  · rintro v l r s' ⟨⟨hr, rfl⟩, all⟩
    obtain ⟨k', c, rfl, hc⟩ := all v List.mem_cons_self
    have more : ∀ y ∈ l, ∃ k' c, y = Value.ref c ∧ IsK P w s'.heap k' c := fun u hu => all u (List.mem_cons_of_mem _ hu)
    dsimp only
    by_cases hv : (b == c || (carriedByValue (.ref b) && carriedByValue (.ref c))) = true
    · exact wp_if_pos hv (wpAny_pure ⟨⟨rfl, rfl⟩, more⟩)
    · refine wp_if_neg hv ?_
      refine wpAny_bind ((nestedKind P w).quiet hk ?_)
      simp only [Bool.not_true, Bool.false_eq_true, if_false]
      refine wpAny_bind ((nestedKind P w).quiet hc ?_)
      simp only [Bool.not_true, Bool.false_eq_true, if_false]
      refine wpAny_bind (askC_key _ _ 8 hk.1 hk.2 _ _ _ ?_)
      simp only [Bool.false_eq_true, if_false]
      refine wpAny_bind (askC_key _ _ 8 hc.1 hc.2 _ _ _ ?_)
      simp only [Bool.false_eq_true, if_false]
      exact wpAny_pure ⟨⟨rfl, rfl⟩, more⟩
  · rintro ⟨r1, r2⟩ s' ⟨⟨hr, rfl⟩, _⟩
    simp only at hr
    subst hr
    exact wpAny_pure h
/-- a hash's way, from its beginning -/
abbrev pr0 (m : Nat) (x : Int) : SetTable.Probe := runAt m (SetTable.bits x % (m + 1)) (SetTable.bits x)
theorem pr_dummy (m : Nat) : ∀ (n : Nat) (p : SetTable.Probe), p.dummy = none → (nth m p n).dummy = none
  | 0, _, h => h
  | n + 1, p, h => pr_dummy m n (adv m p) (by unfold adv; split <;> exact h)
/-- searching from the c-th step on, towards the empty slot at the K-th -/
theorem seek (R : SetN P w s.heap a L es ep t) {x : Addr} {k : NestedKey} (hx : IsK P w s.heap k x) (hu : A.units + 8 < cLine) {K : Nat} (kf : K < 10 * SetTable.turns t.mask)
    (hK : way t.mask (k.hash w) K ∉ t.place.toList) (hb : ∀ c, c < K → way t.mask (k.hash w) c ∈ t.place.toList) {Q : SetFound → Shared → Prop}
    (there : k ∈ L.map (·.2) → Q (.there none) s) (free : k ∉ L.map (·.2) → Q (.free (way t.mask (k.hash w) K) false) s) :
    ∀ (f c : Nat) (st : Option SetTable.Probe), st.getD (t.probeStart (k.hash w)) = nth t.mask (pr0 t.mask (k.hash w)) c → c ≤ K → K < c + f →
      (∀ (i : Nat) (p : Mem), L[i]? = some p → p.2 = k → ∃ c', c ≤ c' ∧ c' < K ∧ t.place.toList[i]? = some (way t.mask (k.hash w) c')) →
      wpAny (model P w) A (setSearchFrom a (.ref x) (k.hash w) true f st) Q E s := by
  intro f
  induction f with
  | zero => intro c st _ h1 h2; omega
  | succ f ih =>
    intro c st hst hc hf ahead
    obtain ⟨o, ho, hex, hd⟩ := R.ob
    have step : ∀ q, (nth t.mask (nth t.mask (pr0 t.mask (k.hash w)) c) q) = nth t.mask (pr0 t.mask (k.hash w)) (c + q) := fun q => (nth_add _ c _ q).symm
    have slotq : ∀ q, (nth t.mask (nth t.mask (pr0 t.mask (k.hash w)) c) q).j = way t.mask (k.hash w) (c + q) := fun q => congrArg SetTable.Probe.j (step q)
    have spec := go_spec t R.tb.up R.tb.nd (fun i => (es[i]?.map (·.1)).getD 0) (k.hash w) (10 * SetTable.turns t.mask) (K - c) (nth t.mask (pr0 t.mask (k.hash w)) c) (pr_dummy _ _ _ rfl) (by omega)
      (fun q hq => by rw [slotq]; exact hb _ (by omega)) (by rw [slotq, Nat.add_sub_cancel' hc]; exact hK)
    have pass : ∀ (i : Nat) (p : Mem) (c' : Nat), L[i]? = some p → p.2 = k → c ≤ c' → t.place.toList[i]? = some (way t.mask (k.hash w) c') → ∀ hi : c' - c < K - c ∨ True, (es[i]?.map (·.1)).getD 0 = k.hash w := fun i p c' hp hk _ _ _ => by rw [R.hAt hp, hk]
    rw [setSearchFrom_succ]
    refine wpAny_bind (wpAny_setState_of ho hd R.fits ?_)
    dsimp only
    refine wp_if_neg (by unfold SetTable.gaveWay; rw [R.tb.ms.odd]; decide) ?_
    try refine wpAny_bind (wpAny_pure ?_)
    rcases spec with ⟨q, i, hq, hi, hh, hno, hpr⟩ | ⟨hno, hpr⟩
    · have hpr' : t.probe (fun i => (es[i]?.map (·.1)).getD 0) (k.hash w) (st.getD (t.probeStart (k.hash w))) = some (.candidate (way t.mask (k.hash w) (c + q)) i (nth t.mask (pr0 t.mask (k.hash w)) (c + (q + 1)))) := by
        rw [hst, ← slotq, ← step]; exact hpr
      rw [slotq] at hi
      rw [hpr']
      dsimp only
      obtain ⟨p, hp⟩ : ∃ p, L[i]? = some p := ⟨_, List.getElem?_eq_getElem (by
        have h1 := (List.getElem?_eq_some_iff.mp hi).1
        rw [R.tb.ln', hashK_len] at h1
        exact h1)⟩
      have pm : p ∈ L := List.mem_of_getElem? hp
      have rest : wpAny (model P w) A (searchRest a (.ref x) (k.hash w) true f es t (way t.mask (k.hash w) (c + q)) i (nth t.mask (pr0 t.mask (k.hash w)) (c + (q + 1)))) Q E s := by
        unfold searchRest
        rw [R.at hp]
        dsimp only
        refine wpAny_bind (wpAny_holding ((nestedKind P w).eqBool hu (R.ky p pm) hx ?_))
        refine wpAny_bind (wpAny_setState_of ho hd R.fits ?_)
        dsimp only
        by_cases e : p.2 = k
        · exact wp_if_pos (by simp [e]) (wpAny_pure (there (List.mem_map.mpr ⟨p, pm, e⟩)))
        · refine wp_if_neg (by simp [e]) ?_
          try refine wpAny_bind (wpAny_pure ?_)
          have hsl : t.slot (way t.mask (k.hash w) (c + q)) = .live i := slot_live R.tb.up hi
          rw [sameMem]
          dsimp only
          simp only [if_true, hsl, R.at hp]
          refine wpAny_bind (wpAny_isSame_ref_self (wpAny_bind (wpAny_pure ?_)))
          simp only [if_true]
          refine wp_if_neg (by simp [e]) ?_
          refine ih (c + (q + 1)) _ rfl (by omega) (by omega) fun i0 p0 h0 e0 => ?_
          obtain ⟨c', a1, a2, a3⟩ := ahead i0 p0 h0 e0
          refine ⟨c', Classical.byContradiction fun z => ?_, a2, a3⟩
          by_cases y : c' = c + q
          · subst y
            have s0 := slot_live R.tb.up a3
            rw [hsl] at s0
            injection s0 with s0
            rw [← s0, hp] at h0
            cases h0
            exact e e0
          · exact hno (c' - c) i0 (by omega) (by rw [slotq, Nat.add_sub_cancel' a1]; exact a3) (by show (es[i0]?.map (·.1)).getD 0 = _; rw [R.hAt h0, e0])
      by_cases hl : t.led = true
      · refine wp_if_neg (by simp [hl]) ?_
        try refine wpAny_bind (wpAny_pure ?_)
        exact rest
      · refine wp_if_pos (by simp [hl]) ?_
        refine wpAny_bind (seen_key hx (fun y hy => ?_) ?_)
        · obtain ⟨e, he, rfl⟩ := List.mem_map.mp hy
          have he2 : e ∈ es.toList := by
            have : e ∈ es ∧ e.1 = k.hash w := by simpa using he
            simpa using this.1
          rw [R.rw_] at he2
          obtain ⟨p2, hp2, rfl⟩ := List.mem_map.mp he2
          exact ⟨p2.2, p2.1, rfl, R.ky p2 hp2⟩
        · refine wp_if_neg (by decide) ?_
          try refine wpAny_bind (wpAny_pure ?_)
          exact rest
    · have hpr' : t.probe (fun i => (es[i]?.map (·.1)).getD 0) (k.hash w) (st.getD (t.probeStart (k.hash w))) = some (.empty (way t.mask (k.hash w) K) none) := by
        have e2 := slotq (K - c)
        rw [Nat.add_sub_cancel' hc] at e2
        rw [hst, ← e2]; exact hpr
      rw [hpr']
      dsimp only
      refine wpAny_pure (free fun hm => ?_)
      obtain ⟨p0, h0, e0⟩ := List.mem_map.mp hm
      obtain ⟨i0, hi0⟩ := List.mem_iff_getElem?.mp h0
      obtain ⟨c', a1, a2, a3⟩ := ahead i0 p0 hi0 e0
      exact hno (c' - c) i0 (by omega) (by rw [slotq, Nat.add_sub_cancel' a1]; exact a3) (by show (es[i0]?.map (·.1)).getD 0 = _; rw [R.hAt hi0, e0])
theorem seek_all (R : SetN P w s.heap a L es ep t) {x : Addr} {k : NestedKey} (hx : IsK P w s.heap k x) (hu : A.units + 8 < cLine) {Q : SetFound → Shared → Prop} (there : k ∈ L.map (·.2) → Q (.there none) s)
    (free : ∀ K, k ∉ L.map (·.2) → way t.mask (k.hash w) K ∉ t.place.toList → (∀ c, c < K → way t.mask (k.hash w) c ∈ t.place.toList) → Q (.free (way t.mask (k.hash w) K) false) s) :
    wpAny (model P w) A (setSearch a (.ref x) (k.hash w) true) Q E s := by
  obtain ⟨K, kf, hK, hb⟩ := R.tb.empty (by have := R.rm; rw [hashK_len]; omega) (k.hash w)
  have big : K < 100000 := by
    have := R.tb.ms.le
    unfold SetTable.turns at kf
    omega
  refine seek R hx hu kf hK hb there (fun n => free K n hK hb) 100000 0 none rfl (Nat.zero_le _) (by omega) fun i p hp e => ?_
  have hi : (hashK w L)[i]? = some (k.hash w) := by rw [hashK, List.getElem?_map, hp, ← e]; rfl
  have hl := (List.getElem?_eq_some_iff.mp hi).1
  have hj := List.getElem?_eq_getElem (l := t.place.toList) (i := i) (by rw [R.tb.ln']; exact hl)
  obtain ⟨c, h1, h2⟩ := R.tb.ahead hK hi hj
  exact ⟨c, Nat.zero_le _, h1, by rw [hj, h2]⟩
end
end PI
end
section
/-! Sets of tuples of any depth: the table laid anew, adding, set(xs). -/
namespace PI
open PySem PySem.Spec PyProof.Rows L2
section
variable {P : Program} {w : World} {A : Around} {E : Value → Shared → Prop} {s : Shared} {a : Addr} {L : List Mem} {es : Array (Int × Value)} {ep : Nat} {t : SetTable}
/-- a tuple isn't the set that changes -/
theorem isK_but {h h' : Heap} {k : NestedKey} {b : Addr} {o : Obj} {es : Array (Int × Value)} {ep : Nat} {t : SetTable} (hb : IsK P w h k b) (ho : h.get? a = some o) (hd : o.data = .set es ep t) (hs : Heap.SameBut a h h') : IsK P w h' k b :=
  ⟨NestedIs.at (fun b ob vs n hg hv => (hs.2 b fun e => by subst e; rw [ho] at hg; cases hg; rw [hd] at hv; cases hv).trans hg) k _ hb.1, hb.2⟩
theorem isK_keep {h h' : Heap} {k : NestedKey} {b : Addr} (hb : IsK P w h k b) (hs : ∀ c o, h.get? c = some o → h'.get? c = some o) : IsK P w h' k b :=
  ⟨NestedIs.at (fun b ob vs n hg _ => hs b ob hg) k _ hb.1, hb.2⟩
theorem pick_rows {order : List Nat} (hr : es.toList = rowsK w L) (hp : ∀ i ∈ order, i < L.length) :
    ∃ L2 : List Mem, order.filterMap (fun i => es[i]?) = rowsK w L2 ∧ L2 = order.filterMap (fun i => L[i]?) ∧ hashK w L2 = order.map fun i => (es.map (·.1)).getD i 0 := by
  induction order with
  | nil => exact ⟨[], rfl, rfl, rfl⟩
  | cons i l ih =>
    obtain ⟨L2, e1, e2, e3⟩ := ih fun j hj => hp j (List.mem_cons_of_mem _ hj)
    have hi := hp i List.mem_cons_self
    have ent : es[i]? = some ((L[i]).2.hash w, Value.ref (L[i]).1) := by
      rw [← Array.getElem?_toList, hr, rowsK, List.getElem?_map, List.getElem?_eq_getElem hi]; rfl
    refine ⟨L[i] :: L2, by rw [List.filterMap_cons_some ent, e1]; rfl, by rw [List.filterMap_cons_some (List.getElem?_eq_getElem hi), e2], ?_⟩
    have e4 : (es.map (·.1)).getD i 0 = (L[i]).2.hash w := by
      rw [Array.getD_eq_getD_getElem?, Array.getElem?_map, ent]; rfl
    show (L[i]).2.hash w :: hashK w L2 = _
    rw [List.map_cons, e3, e4]
theorem pick_all (L : List Mem) : (List.range L.length).filterMap (fun i => L[i]?) = L := by
  have : ∀ n, n ≤ L.length → (List.range n).filterMap (fun i => L[i]?) = L.take n := by
    intro n
    induction n with
    | zero => intro _; rfl
    | succ n ih =>
      intro hn
      rw [List.range_succ, List.filterMap_append, ih (by omega), List.take_succ, List.getElem?_eq_getElem (show n < L.length by omega), List.filterMap_cons_some (List.getElem?_eq_getElem (show n < L.length by omega))]
      rfl
  rw [this _ (Nat.le_refl _), List.take_length]
/-- what stands in the heap, aside of the room -/
structure SetM (P : Program) (w : World) (h : Heap) (a : Addr) (L : List Mem) (es : Array (Int × Value)) (ep : Nat) (t : SetTable) : Prop where
  ob : ∃ o, h.get? a = some o ∧ o.ExactSet ∧ o.data = .set es ep t
  rw_ : es.toList = rowsK w L
  tb : TabK t (hashK w L)
  nd : (L.map (·.2)).Nodup
  ky : ∀ p ∈ L, IsK P w h p.2 p.1
  pl : (∀ p ∈ L, numsB p.2 = true) → t.plain = true
  ld : w.params.followText "set-order" = true ∨ t.led = true
  fw : L.length ≤ 305
theorem relay_set (R : SetM P w s.heap a L es ep t) (hl : L.length ≤ t.mask) {wanted M : Nat} (hw : SetTable.sizeAbove wanted - 1 = M) (hM : MaskK M) (hn : L.length * 5 < M * 3) {Q : Unit → Shared → Prop}
    (hQ : ∀ h' L' es' ep' t', Heap.SameBut a s.heap h' → SetN P w h' a L' es' ep' t' → L'.Perm L → Q () { s with heap := h' }) : wpAny (model P w) A (setRelay a wanted) Q E s := by
  obtain ⟨o, ho, hex, hd⟩ := R.ob
  have hsz := rows_size R.rw_
  have hf : t.fits es.size = true := fits_of (by rw [R.tb.ln, hashK_len, hsz]) R.tb.nd (by rw [hsz]; exact hl)
  obtain ⟨t', order, e, hp, T, e1, e2, e3⟩ := relaid_tab t (xs := es.map (·.1)) (wanted := wanted) hw hM (by rw [Array.size_map, hsz]; omega)
  rw [Array.size_map, hsz] at hp
  obtain ⟨L2, r1, r2, r3⟩ := pick_rows (w := w) (order := order.toList) R.rw_ fun i hi => List.mem_range.mp (hp.mem_iff.mp hi)
  have pm : L2.Perm L := by
    have := hp.filterMap (fun i => L[i]?)
    rw [pick_all, ← r2] at this
    exact this
  rw [← r3] at T
  have r1 : (order.filterMap (es[·]?)).toList = rowsK w L2 := by first | (rw [Array.toList_filterMap]; exact r1) | simpa using r1
  have hs2 : (order.filterMap (es[·]?)).size = es.size := by rw [rows_size r1, pm.length_eq, hsz]
  have hbig : SetTable.sizeAbove wanted ≤ 512 := by have := hM.le; omega
  have hfw := R.fw
  rw [setRelay_eq]
  refine wpAny_bind (wpAny_setState_of ho hd hf ?_)
  dsimp only
  refine wp_if_neg (by rw [sizeLine_eq]; omega) ?_
  try refine wpAny_bind (wpAny_pure ?_)
  rw [e]
  dsimp only
  refine wpAny_bind ?_
  refine wp_if_neg (by rw [hs2]; simp) ?_
  try refine wpAny_bind (wpAny_pure ?_)
  refine wpAny_pure ?_
  dsimp only
  refine wpAny_storeSet_of ho hd ?_ (by rw [hs2, hsz, sizeLine_eq]; omega)
  have sb : Heap.SameBut a s.heap (s.heap.update a (Obj.putSet (order.filterMap (es[·]?)) t')) := Heap.SameBut.update ..
  refine hQ _ L2 (order.filterMap (es[·]?)) (ep + 1) t' sb ?_ pm
  exact ⟨⟨_, store_at ho hd, ⟨hex.1, hex.2.1, hex.2.2⟩, rfl⟩, r1, T, (pm.map (·.2)).nodup_iff.mpr R.nd, fun p hpm => isK_but (R.ky p (pm.mem_iff.mp hpm)) ho hd sb, fun z => by rw [e3]; exact R.pl fun p hp => z p (pm.mem_iff.mpr hp), by rw [e2]; exact R.ld, by rw [pm.length_eq, e1]; exact hn, by rw [pm.length_eq]; exact hfw⟩
theorem above32 : SetTable.sizeAbove (SetTable.grown 5) - 1 = 31 := by decide +kernel
theorem above128 : SetTable.sizeAbove (SetTable.grown 19) - 1 = 127 := by decide +kernel
theorem above512 : SetTable.sizeAbove (SetTable.grown 77) - 1 = 511 := by decide +kernel
theorem add_set (R : SetN P w s.heap a L es ep t) {x : Addr} {k : NestedKey} (hx : IsK P w s.heap k x) (hu : A.units + 8 < cLine) (hfew : L.length + 1 ≤ 305) {Q : Bool → Shared → Prop}
    (hQ : ∀ b h' L' es' ep' t', Heap.SameBut a s.heap h' → SetN P w h' a L' es' ep' t' → (k ∈ L.map (·.2) → L' = L) → (k ∉ L.map (·.2) → L'.Perm ((x, k) :: L)) → Q b { s with heap := h' }) :
    wpAny (model P w) A (setAddHashed a (.ref x) (k.hash w)) Q E s := by
  obtain ⟨o, ho, hex, hd⟩ := R.ob
  have hsz := R.sz
  have hrm := R.rm
  unfold setAddHashed
  refine wpAny_holding ?_
  rw [show (100000 : Nat) = 99999 + 1 from rfl, setAddHashedIn_succ]
  refine wpAny_bind (wpAny_setState_of ho hd R.fits ?_)
  dsimp only
  refine wp_if_neg (by simp [byScan, Value.scannable]) ?_
  try refine wpAny_bind (wpAny_pure ?_)
  refine wpAny_bind (seek_all R hx hu (fun hm => ?_) fun K hm hK hb => ?_)
  · dsimp only
    exact wpAny_pure (hQ false s.heap L es ep t (Heap.SameBut.refl a s.heap) R (fun _ => rfl) fun z => absurd hm z)
  · dsimp only
    refine wpAny_bind (wpAny_setState_of ho hd R.fits ?_)
    dsimp only
    obtain ⟨q2, q3⟩ := R.tb.put hK hb
    obtain ⟨bv, hbv1, hbv2⟩ := askH_key (P := P) (w := w) (s := s) k (.ref x) 8 hx.1 hx.2
    have hln := R.tb.ln
    have p1 : (t.put (way t.mask (k.hash w) K)).2 = cutAt t (way t.mask (k.hash w) K) := rfl
    have p2 : (t.put (way t.mask (k.hash w) K)).1.mask = t.mask := rfl
    have p3 : (t.put (way t.mask (k.hash w) K)).1.led = t.led := rfl
    have p4 : (t.put (way t.mask (k.hash w) K)).1.plain = t.plain := rfl
    generalize (t.put (way t.mask (k.hash w) K)) = pt at q3 p1 p2 p3 p4 ⊢
    obtain ⟨t1, p⟩ := pt
    dsimp only at q3 p1 p2 p3 p4 ⊢
    subst p1
    have hin : (SetTable.insertAt es (cutAt t (way t.mask (k.hash w) K)) (k.hash w, Value.ref x)).toList = rowsK w (L.take (cutAt t (way t.mask (k.hash w) K)) ++ (x, k) :: L.drop (cutAt t (way t.mask (k.hash w) K))) := by
      rw [SetTable.toList_insertAt, R.rw_]
      unfold rowsK
      rw [List.map_append, List.map_cons, List.map_take, List.map_drop]
    have hhs : hashK w (L.take (cutAt t (way t.mask (k.hash w) K)) ++ (x, k) :: L.drop (cutAt t (way t.mask (k.hash w) K))) = (hashK w L).take (cutAt t (way t.mask (k.hash w) K)) ++ k.hash w :: (hashK w L).drop (cutAt t (way t.mask (k.hash w) K)) := by
      unfold hashK
      rw [List.map_append, List.map_cons, List.map_take, List.map_drop]
    rw [← hhs] at q3
    generalize cutAt t (way t.mask (k.hash w) K) = p at q2 q3 hin ⊢
    have pm := put_perm L p (x, k)
    generalize L.take p ++ (x, k) :: L.drop p = L1 at pm q3 hin
    have hlen : L1.length = L.length + 1 := pm.length_eq
    have nd1 : (L1.map (·.2)).Nodup := (pm.map (·.2)).nodup_iff.mpr (List.nodup_cons.mpr ⟨hm, R.nd⟩)
    have hes := rows_size hin
    generalize SetTable.insertAt es p (k.hash w, Value.ref x) = es1 at hin hes ⊢
    -- behind the question of the value
    have go : ∀ t2 : SetTable, TabK t2 (hashK w L1) → t2.mask = t.mask → t2.led = t.led → ((∀ p ∈ L1, numsB p.2 = true) → t2.plain = true) →
        wpAny (model P w) A (do storeSet a es1 t2; if (!false && t2.tooFull) = true then do setRelay a (SetTable.grown (es.size + 1)); pure true else pure true) Q E s := by
      intro t2 T2 m2 l2 pl2
      refine wpAny_bind (wpAny_storeSet_of ho hd ?_ (by rw [hes, hlen, sizeLine_eq]; omega))
      have sb : Heap.SameBut a s.heap (s.heap.update a (Obj.putSet es1 t2)) := Heap.SameBut.update ..
      have ho1 := store_at (es' := es1) (t' := t2) ho hd
      generalize s.heap.update a (Obj.putSet es1 t2) = h1 at sb ho1 ⊢
      have S1 : SetM P w h1 a L1 es1 (ep + 1) t2 := ⟨⟨_, ho1, ⟨hex.1, hex.2.1, hex.2.2⟩, rfl⟩, hin, T2, nd1, fun p hp => by
        rcases List.mem_cons.mp (pm.mem_iff.mp hp) with rfl | hp
        · exact isK_but hx ho hd sb
        · exact isK_but (R.ky p hp) ho hd sb, pl2, by rw [l2]; exact R.ld, by rw [hlen]; exact hfew⟩
      have fl : t2.tooFull = decide ((L.length + 1) * 5 ≥ t.mask * 3) := by
        unfold SetTable.tooFull SetTable.fill
        rw [T2.ln, T2.nd, hashK_len, hlen, m2]
        rfl
      by_cases hf : (L.length + 1) * 5 ≥ t.mask * 3
      · refine wp_if_pos (by rw [fl, decide_eq_true hf]; rfl) (wpAny_bind ?_)
        have big : ∃ M, SetTable.sizeAbove (SetTable.grown (es.size + 1)) - 1 = M ∧ MaskK M ∧ (L.length + 1) * 5 < M * 3 := by
          rw [hsz]
          rcases R.tb.ms with e | e | e | e
          · have : L.length = 4 := by rw [e] at hf hrm; omega
            rw [this]; exact ⟨31, above32, .inr (.inl rfl), by decide⟩
          · have : L.length = 18 := by rw [e] at hf hrm; omega
            rw [this]; exact ⟨127, above128, .inr (.inr (.inl rfl)), by decide⟩
          · have : L.length = 76 := by rw [e] at hf hrm; omega
            rw [this]; exact ⟨511, above512, .inr (.inr (.inr rfl)), by decide⟩
          · exfalso; rw [e] at hf; omega
        obtain ⟨M, b1, b2, b3⟩ := big
        refine relay_set (s := { s with heap := h1 }) S1 (by rw [m2, hlen]; omega) b1 b2 (by rw [hlen]; exact b3) fun h2 L2 es2 ep2 t2' sb2 R2 pm2 => ?_
        exact wpAny_pure (hQ true h2 L2 es2 ep2 t2' (sb.trans sb2) R2 (fun z => absurd z hm) fun _ => pm2.trans pm)
      · refine wp_if_neg (by rw [fl, decide_eq_false hf]; decide) ?_
        exact wpAny_pure (hQ true h1 L1 es1 (ep + 1) t2 sb ⟨S1.ob, S1.rw_, S1.tb, S1.nd, S1.ky, S1.pl, S1.ld, by rw [m2, hlen]; omega, S1.fw⟩ (fun z => absurd z hm) fun _ => pm)
    have old : (∀ p ∈ L1, numsB p.2 = true) → t.plain = true := fun z => R.pl fun q hq => z q (pm.mem_iff.mpr (List.mem_cons_of_mem _ hq))
    have new : (∀ p ∈ L1, numsB p.2 = true) → bv = true := fun z => hbv1 (z (x, k) (pm.mem_iff.mpr List.mem_cons_self))
    by_cases hp1 : t1.plain = true
    · first
        | (refine wpAny_bind ?_; refine wp_if_pos hp1 ?_; refine hbv2 _ _ _ ?_)
        | refine wp_if_pos hp1 (wpAny_bind (hbv2 _ _ _ ?_))
      cases bv with
      | true =>
        simp only [if_true]
        exact go t1 q3 p2 p3 fun _ => hp1
      | false =>
        simp only [Bool.false_eq_true, if_false]
        exact go { t1 with plain := false } ⟨q3.up, q3.nd, q3.ln, q3.ms, q3.bd, q3.got⟩ p2 p3 fun z => nomatch new z
    · first
        | (refine wpAny_bind ?_; refine wp_if_neg hp1 ?_; refine wpAny_pure ?_)
        | refine wp_if_neg hp1 (wpAny_bind (wpAny_pure ?_))
      simp only [if_true]
      exact go t1 q3 p2 p3 fun z => by rw [p4]; exact old z
end
end PI
end
section
/-! set(xs) of a list or a tuple, by what each put in brings. -/
namespace PI
open PySem PySem.Spec PyProof.Rows L2
section
variable {P : Program} {w : World} {A : Around} {E : Value → Shared → Prop} {s : Shared}
/-- the empty set as it is made -/
abbrev newSetO (w : World) : Obj := { cls := .type "set", dict := none, data := .set #[] 0 (.fresh 0 0 (!w.params.followText "set-order")) }
/-- what stands at S behind i items: by the object alone, over the heap h0 that stays -/
structure Grows (P : Program) (w : World) (A : Around) (h0 : Heap) (items : List Value) (Sv : Nat → Addr → Heap → Prop) : Prop where
  fst : ∀ S h, h.get? S = some (newSetO w) → (∀ b o, h0.get? b = some o → h.get? b = some o) → Sv 0 S h
  at_ : ∀ i S h h', Sv i S h → (∀ o, h.get? S = some o → h'.get? S = some o) → (∀ b o, h0.get? b = some o → h'.get? b = some o) → Sv i S h'
  add : ∀ (i : Nat) (v : Value) (S : Addr) (E : Value → Shared → Prop) (Q : Bool → Shared → Prop) (s : Shared), items[i]? = some v → h0.get? S = none → Sv i S s.heap → (∀ b o, h0.get? b = some o → s.heap.get? b = some o) →
    (∀ b h' tk, s.toks ≤ tk → Heap.SameBut S s.heap h' → Sv (i + 1) S h' → Q b { s with heap := h', toks := tk }) → wpAny (model P w) A (setAdd S v) Q E s
theorem grow_loop {I : Addr} {fp wr : List Addr} {G : Array GenState → Array GenState → Prop} {n : Nat} {Pv : Nat → Value → Prop} {St : Nat → Shared → Prop} {R : Result → Shared → Prop}
    (W : WalksS P w A.in1 I fp wr G n Pv St) (S : Addr) (hSf : S ∉ fp) {h0 : Heap} {items : List Value} {Sv : Nat → Addr → Heap → Prop} (g : Grows P w A.in1 h0 items Sv) (hn : n = items.length) (hval : ∀ i v, Pv i v → items[i]? = some v) (hS0 : h0.get? S = none) (hw0 : ∀ b ∈ wr, h0.get? b = none) :
    ∀ (k i : Nat) (s : Shared), i + k = n → St i s → (∀ b o, h0.get? b = some o → s.heap.get? b = some o) → Sv i S s.heap →
      (∀ s', Moved (S :: wr) G s s' → Sv n S s'.heap → (∀ b o, h0.get? b = some o → s'.heap.get? b = some o) → R (.ok (.ret .none)) s') →
      codeAny (model P w) A (.builtin "set.update.loop" ⟨[.ref S, .ref I], []⟩) R s := by
  have nS : S ∉ wr := fun h => hSf (W.sub _ h)
  have up : ∀ b ∈ wr, b ∈ S :: wr := fun b hb => List.mem_cons_of_mem _ hb
  have stay : ∀ {s s' : Shared}, Moved wr G s s' → (∀ b o, h0.get? b = some o → s.heap.get? b = some o) → ∀ b o, h0.get? b = some o → s'.heap.get? b = some o := fun m kp b o e =>
    m.heap b o (fun hb => by rw [hw0 b hb] at e; cases e) (kp b o e)
  intro k
  induction k with
  | zero =>
    intro i s hi st kp hS hR
    refine codeAny_builtin F.entry_set_update_loop ?_
    rw [Around.under_plainId F.plain_set_update_loop _]
    show wpAny _ A.in1 (pyNext (.ref I) >>= _) _ _ s
    obtain rfl : i = n := hi
    refine wpAny_bind (W.done s _ _ st fun s' m => ?_)
    show wpAny _ A.in1 (ret Value.none) _ _ s'
    have kp' := stay m kp
    exact wpAny_pure (hR s' (m.mono up) (g.at_ _ S _ _ hS (fun o e => m.heap S o nS e) kp') kp')
  | succ k ih =>
    intro i s hi st kp hS hR
    refine codeAny_builtin F.entry_set_update_loop ?_
    rw [Around.under_plainId F.plain_set_update_loop _]
    show wpAny _ A.in1 (pyNext (.ref I) >>= _) _ _ s
    refine wpAny_bind (W.item i s _ _ (by omega) st fun v s' pv st' m => ?_)
    have kp' := stay m kp
    show wpAny _ A.in1 (holding [v] (setAdd S v) >>= _) _ _ s'
    refine wpAny_bind (wpAny_holding ?_)
    refine g.add i v S _ _ s' (hval i v pv) hS0 (g.at_ _ S _ _ hS (fun o e => m.heap S o nS e) kp') kp' fun b h' tk tk1 sb S1 => ?_
    have kp2 : ∀ b o, h0.get? b = some o → h'.get? b = some o := fun b o e => (sb.2 b fun z => by rw [z, hS0] at e; cases e).trans (kp' b o e)
    refine wpAny_pure ⟨plainId_quiet F.plain_set_update_loop _, ih (i + 1) _ (by omega) (W.frame _ s' _ _ st' tk1 fun b hb o e => ?_) kp2 S1 fun s'' m2 S2 kp3 => ?_⟩
    · rw [sb.2 b fun z => hSf (by rw [← z]; exact hb)]; exact e
    · refine hR s'' (Moved.trans W.gtrans ((m.mono up).then_heap tk1 fun b o hb e => ?_) m2) S2 kp3
      rw [sb.2 b fun z => hb (by rw [z]; exact List.mem_cons_self)]; exact e
/-- a list or a tuple -/
inductive SeqIs (h : Heap) (l : Addr) (items : Array Value) : Prop
  | lst (x : h.IsList l items)
  | tup (x : h.IsTuple l items)
theorem SeqIs.lt {h : Heap} {l : Addr} {items : Array Value} : SeqIs h l items → l < h.objs.size
  | .lst ⟨_, h, _⟩ => Heap.lt_size h
  | .tup ⟨_, h, _⟩ => Heap.lt_size h
/-- the walk of such a thing -/
theorem SeqIs.walk {l : Addr} {items : Array Value} (hl : SeqIs s.heap l items) (hh : A.handled = none) :
    ∃ (oI : Obj) (n : Nat) (Pv : Nat → Value → Prop) (St : Nat → Heap → Prop), n = items.size ∧ (∀ i v, Pv i v → items[i]? = some v) ∧
      (∀ (A2 : Around) (E2 : Value → Shared → Prop) (Q : Value → Shared → Prop), Q (.ref s.heap.objs.size) { s with heap := s.heap.push oI } → wpAny (model P w) A2 (pyIter (.ref l)) Q E2 s) ∧
      Walks P w A s.heap.objs.size [s.heap.objs.size, l] [s.heap.objs.size] n Pv St ∧ St 0 (s.heap.push oI) := by
  have ne : l ≠ s.heap.objs.size := Nat.ne_of_lt hl.lt
  cases hl with
  | lst x => exact ⟨_, _, _, _, rfl, fun i v h => h, fun A2 E2 Q q => wpAny_pyIter_list x q, Walks.list hh _ l ne items, ⟨⟨_, Heap.get?_push_size _ rfl, rfl, rfl⟩, x.push _⟩⟩
  | tup x => exact ⟨_, _, _, _, rfl, fun i v h => h, fun A2 E2 Q q => wpAny_pyIter_tuple x q, Walks.tuple hh _ l ne items, ⟨⟨_, Heap.get?_push_size _ rfl, rfl, rfl⟩, x.push _⟩⟩
theorem SeqIs.push {h : Heap} {l : Addr} {items : Array Value} (x : SeqIs h l items) (o : Obj) : SeqIs (h.push o) l items := by
  cases x with
  | lst x => exact .lst (x.push o)
  | tup x => exact .tup (x.push o)
set_option maxHeartbeats 3200000 in
theorem make_set {l : Addr} {items : Array Value} {Q : Value → Shared → Prop} {Sv : Nat → Addr → Heap → Prop} (hh : A.handled = none) (hl : SeqIs s.heap l items) (g : ∀ A' : Around, A'.units ≤ A.units + 4 → Grows P w A' s.heap items.toList Sv)
    (h : ∀ (h' : Heap) (tk : Nat), Sv items.size s.heap.objs.size h' → (∀ b o, s.heap.get? b = some o → h'.get? b = some o) → Q (.ref s.heap.objs.size) { s with heap := h', toks := tk }) :
    wpAny (model P w) A (call (.type "set") [.ref l]) Q E s := by
  have hnil : s.heap.get? s.heap.objs.size = none := by
    cases q : s.heap.get? s.heap.objs.size with
    | none => rfl
    | some o => exact absurd (Heap.lt_size q) (Nat.lt_irrefl _)
  obtain ⟨c, tl, hmro⟩ := F.called_set.mro
  have hmade := F.called_set.made
  have hsub := F.called_set.sub
  refine wpAny_call (codeAny_of_tree ?_)
  show wpAny _ _ (callAny (.type "set") _) _ _ _
  refine wpAny_pure ⟨Code.quiet_builtin _ (by decide +kernel), codeAny_builtin F.entry_type_call ?_⟩
  rw [Around.under_plain (weight_type_call_type "set" [.ref l] []) rfl]
  have t1 := F.called_set.notType
  have t2 := F.called_set.canCreate
  have t3 := F.typeCall_set_1 (.ref l)
  repeat (any_goals (first | assumption | wp_step))
  refine codeAny_mono (code_set_led1 (.ref l) (E := E) (Q₁ := fun r z => r = .ref s.heap.objs.size ∧ z = { s with heap := s.heap.push (newSetO w) }) ⟨rfl, rfl⟩) fun r z hz => ?_
  match r, hz with
  | .error e, hz => exact hz
  | .ok (.ret r), hz =>
    obtain ⟨rfl, rfl⟩ := hz
    have hS : (s.heap.push (newSetO w)).get? s.heap.objs.size = some (newSetO w) := Heap.get?_push_size _ rfl
    have hT : Shared.TypeIs { s with heap := s.heap.push (newSetO w) } (.ref s.heap.objs.size) "set" := ⟨_, hS, rfl⟩
    have i1 := F.called_set.init.lookup
    have i2 := F.called_set.init.bind (.ref s.heap.objs.size)
    repeat (any_goals (first | assumption | wp_step))
    refine codeAny_mono (codeAny_call_builtin (R := wants (fun r z => r = .none ∧ ∃ h' tk, z = { s with heap := h', toks := tk } ∧ Sv items.size s.heap.objs.size h' ∧ ∀ b o, s.heap.get? b = some o → h'.get? b = some o) E)
      F.called_set.init.plain F.entry_set_init (check_set_init_1 hT ?_)) fun r2 z2 hr2 => ?_
    · have hl1 := hl.push (newSetO w)
      obtain ⟨oI, n, Pv, St, hn, hv, it, W, st0⟩ := SeqIs.walk (P := P) (w := w) (A := A.in1.in1.in1) (s := { s with heap := s.heap.push (newSetO w) }) hl1 (by simp [hh])
      have ty : ∃ T : String, Shared.TypeIs { s with heap := s.heap.push (newSetO w) } (.ref l) T ∧ isSubtype (.type T) (.type "set") = pure false ∧ isSubtype (.type T) (.type "frozenset") = pure false ∧ (Value.type T == Value.type "dict") = false := by
        cases hl1 with
        | lst x => exact ⟨"list", x.typeIs, F.sub_list_set, F.sub_list_frozenset, by decide⟩
        | tup x => exact ⟨"tuple", x.typeIs, F.sub_tuple_set, F.sub_tuple_frozenset, by decide⟩
      obtain ⟨T, T0, T1, T2, T3⟩ := ty
      obtain ⟨⟨oc, od, oda, osl⟩, g1, g2⟩ := T0
      simp only at g2
      subst g2
      unfold Builtin.«set.__init__» noKeywords Builtin.Frozenset.updateFrom
      generalize hPI : pyIter = PI
      wp_walk
      subst hPI
      refine it _ _ _ ?_
      refine wpAny_bind (wpAny_runValue ?_)
      have w0 : ∀ b, s.heap.objs.size ≤ b → s.heap.get? b = none := fun b hb => by
        cases q : s.heap.get? b with
        | none => rfl
        | some o => exact absurd (Heap.lt_size q) (Nat.not_lt_of_le hb)
      have hsz : (s.heap.push (newSetO w)).objs.size = s.heap.objs.size + 1 := Heap.size_push ..
      have gg := g A.in1.in1.in1 (by simp)
      have hget : ((s.heap.push (newSetO w)).push oI).get? s.heap.objs.size = some (newSetO w) := Heap.get?_push_of_some _ hS
      have hkeep : ∀ b o, s.heap.get? b = some o → ((s.heap.push (newSetO w)).push oI).get? b = some o := fun b o e => Heap.get?_push_of_some _ (Heap.get?_push_of_some _ e)
      refine grow_loop (A := A.in1.in1) W.toS s.heap.objs.size ?_ gg (by rw [hn]; simp) (fun i v e => by rw [Array.getElem?_toList]; exact hv i v e) hnil ?_ n 0 _ (by omega) st0 hkeep (gg.fst _ _ hget hkeep) ?_
      · have lt := hl.lt
        show s.heap.objs.size ∉ [(s.heap.push (newSetO w)).objs.size, l]
        rw [hsz]
        simp only [List.mem_cons, List.not_mem_nil, or_false, not_or]
        exact ⟨by omega, Nat.ne_of_gt lt⟩
      · intro b hb
        have e : b = (s.heap.push (newSetO w)).objs.size := by simpa using hb
        exact w0 b (by rw [e, hsz]; omega)
      · intro s' m q1 q2
        obtain ⟨h', g2, d', tk', os'⟩ := s'
        obtain rfl : g2 = s.gens := m.gens
        obtain rfl : d' = s.drawn := m.drawn
        obtain rfl : os' = s.os := m.os
        refine wpAny_pure ?_
        show wpAny _ _ (ret Value.none) _ _ _
        rw [hn] at q1
        exact wpAny_pure ⟨rfl, h', tk', rfl, q1, q2⟩
    · match r2, hr2 with
      | .error e, hr2 => exact hr2
      | .ok (.ret r), hr2 =>
        obtain ⟨rfl, h', tk, rfl, q1, q2⟩ := hr2
        repeat (any_goals (first | assumption | wp_step))
        exact h _ _ q1 q2
      | .ok .next, hr2 => exact hr2.elim
      | .ok .brk, hr2 => exact hr2.elim
      | .ok .cont, hr2 => exact hr2.elim
  | .ok .next, hz => exact hz.elim
  | .ok .brk, hz => exact hz.elim
  | .ok .cont, hz => exact hz.elim
end
end PI
end
section
/-! set(xs) of tuples and of ints; what is gathered of a set or a dict, sorted. -/
namespace PI
open PySem PySem.Spec PyProof.Rows L2
section
variable {P : Program} {w : World} {A : Around} {E : Value → Shared → Prop} {s : Shared}
/-- the set holds the first i of ks, each once -/
def HoldsT (P : Program) (w : World) (ks : List Mem) (i : Nat) (S : Addr) (h : Heap) : Prop :=
  ∃ L es ep t, SetN P w h S L es ep t ∧ (∀ p ∈ L, p ∈ ks.take i) ∧ (∀ p ∈ ks.take i, p.2 ∈ L.map (·.2)) ∧ L.length ≤ i
theorem take_one {α : Type} {l : List α} {i : Nat} {x : α} (h : l[i]? = some x) : l.take (i + 1) = l.take i ++ [x] := by rw [List.take_succ, h]; rfl
theorem freshT {h : Heap} {S : Addr} (ho : h.get? S = some (newSetO w)) : SetN P w h S [] #[] 0 (.fresh 0 0 (!w.params.followText "set-order")) where
  ob := ⟨_, ho, ⟨rfl, rfl, rfl⟩, rfl⟩
  rw_ := rfl
  tb := ⟨List.Pairwise.nil, rfl, rfl, .inl rfl, (fun x hx => by cases hx), (fun i x j h1 h2 => by cases h1)⟩
  nd := List.nodup_nil
  ky := fun p hp => nomatch hp
  pl := fun _ => rfl
  ld := by
    show _ ∨ (!w.params.followText "set-order") = true
    cases w.params.followText "set-order"
    · exact .inr rfl
    · exact .inl rfl
  rm := by show 0 * 5 < 7 * 3; decide
  fw := by show 0 ≤ 305; decide
theorem grows_T {h0 : Heap} {ks : List Mem} (hk : ∀ p ∈ ks, IsK P w h0 p.2 p.1) (hn : ks.length ≤ 305) (hu : A.units + 8 < cLine) : Grows P w A h0 (ks.map fun p => Value.ref p.1) (HoldsT P w ks) where
  fst := fun S h ho _ => ⟨[], _, _, _, freshT ho, (fun p hp => nomatch hp), (fun p hp => by simp at hp), Nat.le_refl _⟩
  at_ := fun i S h h' ⟨L, es, ep, t, R, g1, g2, g3⟩ ho kp => by
    obtain ⟨o, e, r⟩ := R.ob
    exact ⟨L, es, ep, t, ⟨⟨o, ho o e, r⟩, R.rw_, R.tb, R.nd, fun p hp => isK_keep (hk p (List.mem_of_mem_take (g1 p hp))) kp, R.pl, R.ld, R.rm, R.fw⟩, g1, g2, g3⟩
  add := fun i v S E Q s hv hS0 ⟨L, es, ep, t, R, g1, g2, g3⟩ kp q => by
    rw [List.getElem?_map] at hv
    obtain ⟨p, hp, rfl⟩ := Option.map_eq_some_iff.mp hv
    have hx : IsK P w s.heap p.2 p.1 := isK_keep (hk p (List.mem_of_getElem? hp)) kp
    have hi := (List.getElem?_eq_some_iff.mp hp).1
    unfold setAdd
    refine wpAny_holding ?_
    refine wpAny_bind ((nestedKind P w).pyHash hu hx ?_)
    refine add_set (s := { s with toks := s.toks + p.2.draws }) R hx hu (by omega) fun b h' L' es' ep' t' sb R' c1 c2 => q b h' _ (Nat.le_add_right _ _) sb ?_
    by_cases c : p.2 ∈ L.map (·.2)
    · obtain rfl := c1 c
      refine ⟨L', es', ep', t', R', fun z hz => ?_, fun z hz => ?_, by omega⟩
      · rw [take_one hp]; exact List.mem_append_left _ (g1 z hz)
      · rw [take_one hp] at hz
        rcases List.mem_append.mp hz with hz | hz
        · exact g2 z hz
        · rw [List.mem_singleton.mp hz]; exact c
    · have pm := c2 c
      refine ⟨L', es', ep', t', R', fun z hz => ?_, fun z hz => ?_, by rw [pm.length_eq]; exact Nat.succ_le_succ g3⟩
      · rw [take_one hp]
        rcases List.mem_cons.mp (pm.mem_iff.mp hz) with rfl | hz
        · exact List.mem_append_right _ (List.mem_singleton.mpr rfl)
        · exact List.mem_append_left _ (g1 z hz)
      · rw [(pm.map (·.2)).mem_iff, List.map_cons]
        rw [take_one hp] at hz
        rcases List.mem_append.mp hz with hz | hz
        · exact List.mem_cons_of_mem _ (g2 z hz)
        · rw [List.mem_singleton.mp hz]; exact List.mem_cons_self
/-- ints -/
def HoldsI (w : World) (ns : List Int) (i : Nat) (S : Addr) (h : Heap) : Prop := ∃ c, c ≤ i ∧ SetR w h S (fun j => decide (j ∈ ns.take i)) c
theorem grows_I {h0 : Heap} {us : List Value} {ns : List Int} (hk : IntsAre us ns) (hn : ns.length + 1 < scanBound) : Grows P w A h0 us (HoldsI w ns) where
  fst := fun S h ho _ => ⟨0, Nat.le_refl _, setR_new_at ho⟩
  at_ := fun i S h h' ⟨c, h1, R⟩ ho _ => ⟨c, h1, R.at ho⟩
  add := fun i v S E Q s hv _ ⟨c, h1, R⟩ _ q => by
    have hi : i < ns.length := by rw [← hk.length]; exact (List.getElem?_eq_some_iff.mp hv).1
    obtain ⟨t, rfl⟩ := PyProof.Rows.IntsAre.int_at hk i v hv
    have hz : ns[i]? = some (ns.getD i 0) := by rw [List.getD_eq_getElem?_getD, List.getElem?_eq_getElem hi]; rfl
    generalize ns.getD i 0 = z at hz ⊢
    unfold setAdd
    refine wpAny_holding ?_
    refine wpAny_bind ((intKind P w).pyHash (k := z) (intKind_is _ _ _ _) ?_)
    refine setR_add_hashed (s := { s with toks := s.toks + 1 }) R (by omega) fun h' sb R2 => q _ h' _ (Nat.le_add_right _ _) sb ⟨_, ?_, R2.congr fun j => ?_⟩
    · split <;> omega
    · rw [take_one hz]
      simp [List.mem_append]
/-- what is gathered of a thing that gives its items -/
def Gathers (P : Program) (w : World) (A : Around) (s : Shared) (r : Addr) (C : List Value → Prop) : Prop :=
  ∀ (E : Value → Shared → Prop) (Q : List Value → Shared → Prop), (∀ s' out, (∀ b o, s.heap.get? b = some o → s'.heap.get? b = some o) → s.heap.objs.size ≤ s'.heap.objs.size → s'.gens = s.gens → s'.os = s.os → C out → Q out s') →
    wpAny (model P w) A (collect (.ref r)) Q E s
theorem gather_T {a : Addr} {L : List Mem} {es : Array (Int × Value)} {ep : Nat} {t : SetTable} (R : SetN P w s.heap a L es ep t) (hp : ∀ p ∈ L, numsB p.2 = true) (hh : A.handled = none) : Gathers P w A s a (fun out => out.Perm (L.map fun p => Value.ref p.1)) := fun E Q q => by
  obtain ⟨o, ho, hex, hd⟩ := R.ob
  refine collect_set hh ⟨o, ho, hex.1, hd⟩ R.fits (by rw [R.sz]; have := R.fw; unfold scanBound; omega) R.tb.up R.ld fun s' out k hz g os pm => q s' out k hz g os ?_
  rw [R.rw_, rowsK, List.map_map] at pm
  exact pm
mutual
/-- what is read stands there -/
theorem reads_at {h : Heap} : ∀ (d : PyData) (v : Value) (as : List Addr), d.canLay0 = true → Reads h v d as → ∀ a ∈ as, ∃ o, h.get? a = some o
  | .none, _, _, _, r, a, ha => by cases r; cases ha
  | .bool _, _, _, _, r, a, ha => by cases r; cases ha
  | .int _, _, _, _, r, a, ha => by cases r; cases ha
  | .str _, _, _, _, r, a, ha => by cases r; cases ha
  | .list ds, _, _, c, r, a, ha => by
    cases r with
    | list h1 h2 h3 h4 =>
      rcases List.mem_cons.mp ha with rfl | ha
      · exact ⟨_, h1⟩
      · exact reads_ats ds _ _ (by simpa [PyData.canLay0] using c) h4 a ha
  | .tuple ds, _, _, c, r, a, ha => by
    cases r with
    | tuple h1 h2 h3 h4 => exact reads_ats ds _ _ (by simpa [PyData.canLay0] using c) h4 a ha
  | .dict _, _, _, c, _, _, _ => by simp [PyData.canLay0] at c
theorem reads_ats {h : Heap} : ∀ (ds : List PyData) (vs : List Value) (as : List Addr), PyData.canLayAll0 ds = true → ReadsAll h vs ds as → ∀ a ∈ as, ∃ o, h.get? a = some o
  | [], _, _, _, r, a, ha => by cases r; cases ha
  | d :: ds, _, _, c, r, a, ha => by
    simp only [PyData.canLayAll0, Bool.and_eq_true] at c
    cases r with
    | cons r1 r2 =>
      rcases List.mem_append.mp ha with ha | ha
      · exact reads_at d _ _ c.1 r1 a ha
      · exact reads_ats ds _ _ c.2 r2 a ha
end
theorem each_at {h : Heap} {p : Addr} (hp : h.get? p = none) : ∀ {ds : List PyData} {vs : List Value} {as : List Addr}, PyData.canLayAll0 ds = true → ReadsAll h vs ds as → ∀ {h' : Heap}, (∀ b o, h.get? b = some o → h'.get? b = some o) → W.EachIs (fun v d => ∃ as, Reads h' v (id d) as ∧ p ∉ as) vs ds
  | [], _, _, _, r, _, _ => by cases r; exact .nil
  | d :: ds, _, _, c, r, h', k => by
    simp only [PyData.canLayAll0, Bool.and_eq_true] at c
    cases r with
    | cons r1 r2 =>
      refine .cons ⟨_, PyProof.Rows.Reads.keeps k r1, fun z => ?_⟩ (each_at hp c.2 r2 k)
      obtain ⟨o, e⟩ := reads_at d _ _ c.1 r1 p z
      rw [hp] at e
      cases e
/-- sorted of what can be gathered -/
theorem sorted_gath {r : Addr} {C : List Value → Prop} (G : Gathers P w A.in1 s r C) {R : Value → PyData → Prop} {T : List PyData → Prop} {Q : Value → Shared → Prop}
    (hC : ∀ out, C out → ∃ ds as, T ds ∧ out.length ≤ sizeLine ∧ W.EachIs R out ds ∧ ReadsAll s.heap out ds as ∧ W.AllAlike ds ∧ W.Sortable ds ∧ PyData.canLayAll0 ds = true ∧ ∀ d ∈ ds, A.units + 4 + d.depth < cLine)
    (hQ : ∀ (s' : Shared) (p : Addr) (out : List Value) (c : Nat) (ds : List PyData), (∀ b o, s.heap.get? b = some o → s'.heap.get? b = some o) → s'.gens = s.gens → s'.os = s.os → s.heap.objs.size ≤ p → s'.heap.get? p = some (seqObj "list" out.toArray c) → T ds → out.length = ds.length →
      W.EachIs R out (ds.mergeSort (W.dataLe false id)) → Q (.ref p) s') :
    wpAny (model P w) A (call (.builtin "sorted") [.ref r]) Q E s := by
  refine Calls.call_function_entry kind_sorted plain_sorted entry_sorted (args_sorted1 _) ?_
  unfold Builtin.«sorted»
  refine wpAny_bind (m := checkCount "sorted" 1 1 _) (wpAny_pure ?_)
  refine wpAny_bind (G _ _ fun s1 vs k1 z1 g1 o1 c1 => ?_)
  obtain ⟨ds, as, tds, vl, ei, ra, al, so, cl, un⟩ := hC vs c1
  refine wpAny_bind (wpAny_newList ?_ vl)
  have hoL : (s1.heap.push (seqObj "list" vs.toArray 0)).get? s1.heap.objs.size = some (seqObj "list" vs.toArray 0) := Heap.get?_push_size _ rfl
  have hp : s.heap.get? s1.heap.objs.size = none := by
    cases q : s.heap.get? s1.heap.objs.size with
    | none => rfl
    | some o => exact absurd (Heap.lt_size q) (Nat.not_lt_of_le z1)
  have kk : ∀ b o, s.heap.get? b = some o → (s1.heap.push (seqObj "list" vs.toArray 0)).get? b = some o := fun b o e => Heap.get?_push_of_some _ (k1 b o e)
  refine wpAny_bind (wpAny_holding (W.list_sort_data (s := { s1 with heap := s1.heap.push (seqObj "list" vs.toArray 0) }) (enc := id) (R := R) hoL ei (each_at hp cl ra kk) (by rw [List.map_id]; exact al) (by rw [List.map_id]; exact so) (by rw [← ei.length]; exact vl) (fun d hd => by have := un d hd; show A.in1.units + 1 + d.depth < cLine; simp; omega) fun out lo eo => ?_))
  obtain ⟨c, hc⟩ := sortedHeap_at (vs := vs) (out := out.toArray) hoL
  refine wpAny_pure ⟨_, rfl, hQ _ s1.heap.objs.size out c ds (fun b u e => ?_) g1 o1 z1 hc tds lo eo⟩
  have q := k1 b u e
  have lt := Heap.lt_size q
  show (sortedHeap (s1.heap.push (seqObj "list" vs.toArray 0)) s1.heap.objs.size vs out.toArray).get? b = some u
  rw [sortedHeap_old (Nat.ne_of_lt lt) (by rw [size_push']; exact Nat.lt_succ_of_lt lt)]
  exact Heap.get?_push_of_some _ q
end
end PI
end
section
/-! What a dict gives when it is gathered. -/
namespace PI
open PySem PySem.Spec PyProof.Rows L2 PySem.W
section
variable {P : Program} {w : World} {A : Around} {E : Value → Shared → Prop} {s : Shared}
theorem gather_src {T : String} {r d : Addr} {n : Nat} {Pv : Nat → Value → Prop} {OK : Heap → Prop} (K : KdlSrc P w T r d n Pv OK) (hh : A.handled = none) (ok : OK s.heap) (hn : n ≤ sizeLine) : Gathers P w A s r (fun out => out.length = n ∧ ∀ i v, out[i]? = some v → Pv i v) := fun E Q q => by
  have lt := K.there _ ok
  unfold collect
  refine wpAny_bind (wpAny_runValue (codeAny_builtin F.entry_proto_collect ?_))
  rw [Around.under_plainId F.plain_proto_collect _]
  show wpAny _ A.in1 (newList [] >>= fun l => again (.builtin "list.__iadd__" ⟨[l, .ref r], []⟩)) _ _ s
  refine wpAny_bind (wpAny_newObj_type ?_)
  have hS : (s.heap.push { cls := .type "list", data := .seq ([] : List Value).toArray }).get? s.heap.objs.size = some { cls := .type "list", data := .seq ([] : List Value).toArray } := Heap.get?_push_size _ rfl
  have key : ∀ R : Result → Shared → Prop, (∀ h' tk acc c, (∀ b o, b ≠ s.heap.objs.size → (s.heap.push { cls := .type "list", data := .seq ([] : List Value).toArray }).get? b = some o → h'.get? b = some o) →
        h'.get? s.heap.objs.size = some { cls := .type "list", dict := none, data := .seq acc c, slots := #[] } → ItemsOf Pv acc n → R (.ok (.ret (.ref s.heap.objs.size))) { s with heap := h', toks := tk }) →
      codeAny (model P w) A (.builtin "list.__iadd__" ⟨[.ref s.heap.objs.size, .ref r], []⟩) R { s with heap := s.heap.push { cls := .type "list", data := .seq ([] : List Value).toArray } } := fun R hR => by
    refine codeAny_builtin F.entry_list_iadd ?_
    rw [Around.under_plainId F.plain_list_iadd _]
    exact kdl_extend (A := A) (s := { s with heap := s.heap.push { cls := .type "list", data := .seq ([] : List Value).toArray } }) K hh (K.keep _ _ ok fun b _ o e => Heap.get?_push_of_some _ e) s.heap.objs.size (Nat.ne_of_gt lt.1) (Nat.ne_of_gt lt.2) (.ref s.heap.objs.size) 0 hS (fun h' tk acc c k hS' it => hR h' tk acc c k hS' it) hn
  refine wpAny_pure ⟨plainId_quiet F.plain_list_iadd _, key _ fun h' tk acc c k hS' it => ?_⟩
  have hge : s.heap.objs.size ≤ h'.objs.size := Nat.le_of_lt (Heap.lt_size hS')
  show wpAny _ A (load s.heap.objs.size >>= _) _ _ _
  refine wpAny_bind (wpAny_load (s := { s with heap := h', toks := tk }) hS' ?_)
  exact wpAny_pure (q _ acc.toList (fun b o e => k b o (Nat.ne_of_lt (Heap.lt_size e)) (Heap.get?_push_of_some _ e)) hge rfl rfl ⟨by rw [Array.length_toList]; exact it.1, fun i v e => it.2 i v (by rw [← Array.getElem?_toList]; exact e)⟩)
end
end PI
end
section
/-! What a value stands for, in the abstract heap; slots and environments. -/
namespace PI
open PySem PySem.Spec PyProof.Rows L2

/-- what the things of a run share -/
structure Kt where
  K : PySem.W.Frag
  P : Program
  w : World
abbrev kt (X : Cx) : Kt := ⟨X.K, X.prog, X.w⟩
/-- a dict at a whose keys are tuples: the keys, where they stand, the values -/
def nPhi (P : Program) (w : World) (a : Addr) (kvs : List (NestedKey × Addr × V)) (h : Heap) : Prop :=
  (a == sysModules) = false ∧ ∃ xs : List (NestedKey × Addr × Value), Paired (fun (p : NestedKey × Addr × V) (q : NestedKey × Addr × Value) => p.1 = q.1 ∧ p.2.1 = q.2.1 ∧ RelV p.2.2 q.2.2) kvs xs ∧
    ∃ o es ep, h.get? a = some o ∧ o.ExactDict ∧ o.data = .dict es ep ∧ es.toList = xs.map (entryOfKey (nestedKind P w)) ∧ (xs.map (·.1)).Nodup
def nO (P : Program) (w : World) (a : Addr) (kvs : List (NestedKey × Addr × V)) : HO := .ext (nPhi P w a kvs)

def keyOfD : Key → D
  | .inl i => .int i
  | .inr x => .str x

/-- a list that stands ahead of the run -/
def KLs (K : PySem.W.Frag) (H : Hp) (a : Addr) (xs : List V) : Prop := (∃ o, H a = some (.frz o (.lst xs))) ∨
  ∃ (o : Obj) (its : Array Value) (n : Nat), K.lookup a = some o ∧ o.cls = .type "list" ∧ o.dict = none ∧ o.data = .seq its n ∧ its.size ≤ sizeLine ∧ Vals xs its.toList
theorem KLs.sq {K : PySem.W.Frag} {H : Hp} {a : Addr} {xs : List V} (h : KLs K H a xs) : SqL K H a xs := h.elim (fun h => .inl (.inr h)) .inr
mutual
/-- v stands for d; none of the lists and dicts within is one of S -/
inductive Rep (C : Kt) (S : Addr → Prop) (H : Hp) : V → D → Prop
  | non : Rep C S H .non .none
  | bl (b : Bool) : Rep C S H (.bl b) (.bool b)
  | int (i : Int) : Rep C S H (.int i) (.int i)
  | str (x : Str) : Rep C S H (.str x) (.str x)
  | lst {a : Addr} {xs : List V} {ds : List D} : ¬ S a → Rd H a (.lst xs) → xs.length ≤ sizeLine → RepL C S H xs ds → Rep C S H (.ref a) (.list ds)
  | tup {a : Addr} {xs : List V} {ds : List D} : SqT C.K H a xs → xs.length ≤ sizeLine → RepL C S H xs ds → Rep C S H (.ref a) (.tuple ds)
  | dK {a : Addr} {o : Obj} {kvs : List (Key × V)} {ds : List D} : ¬ S a → H a = some (.frz o (.dK kvs)) → kvs.length ≤ sizeLine → RepL C S H (kvs.map (·.2)) ds → Rep C S H (.ref a) (.dict ((kvs.map fun p => keyOfD p.1).zip ds))
  | dN {a : Addr} {o : Obj} {kvs : List (NestedKey × Addr × V)} {ks ds : List D} : ¬ S a → H a = some (.frz o (nO C.P C.w a kvs)) → kvs.length ≤ sizeLine → RepL C S H (kvs.map fun p => V.ref p.2.1) ks → keysN ks = some (kvs.map (·.1)) → (∀ p ∈ kvs, p.1.depth ≤ 8) → RepL C S H (kvs.map (·.2.2)) ds → Rep C S H (.ref a) (.dict ((.none, .none) :: ks.zip ds))
  | kl {a : Addr} {xs : List V} {ds : List D} : KLs C.K H a xs → xs.length ≤ sizeLine → RepL C S H xs ds → Rep C S H (.ref a) (.dict [(.bool true, .list ds)])
inductive RepL (C : Kt) (S : Addr → Prop) (H : Hp) : List V → List D → Prop
  | nil : RepL C S H [] []
  | cons {v : V} {vs : List V} {d : D} {ds : List D} : Rep C S H v d → RepL C S H vs ds → RepL C S H (v :: vs) (d :: ds)
end
section
variable {C : Kt} {S S' : Addr → Prop} {H H' : Hp}
theorem RepL.length : ∀ {vs : List V} {ds : List D}, RepL C S H vs ds → vs.length = ds.length
  | _, _, .nil => rfl
  | _, _, .cons _ t => by simp only [List.length_cons, RepL.length t]
/-- the tracked things that are neither tuples nor frozen -/
def Mu (o : HO) : Prop := (∀ xs, o ≠ .tup xs) ∧ ∀ ob u, o ≠ .frz ob u
theorem Mu.lst {xs : List V} : Mu (.lst xs) := ⟨fun _ h => (nomatch h), fun _ _ h => (nomatch h)⟩
theorem Mu.nO {P : Program} {w : World} {a : Addr} {kvs : List (NestedKey × Addr × V)} : Mu (nO P w a kvs) := ⟨fun _ h => (nomatch h), fun _ _ h => (nomatch h)⟩
theorem Mu.dK {kvs : List (Key × V)} : Mu (.dK kvs) := ⟨fun _ h => (nomatch h), fun _ _ h => (nomatch h)⟩
/-- H' tells all that H tells, but of S's -/
def Keep (S : Addr → Prop) (H H' : Hp) : Prop := ∀ b o, H b = some o → ¬ (S b ∧ Mu o) → H' b = some o
theorem Keep.of_same (h : Same H H') : Keep S H H' := fun b o e _ => h b o e
theorem Keep.rdL (k : Keep S H H') {a : Addr} {xs : List V} (n : ¬ S a) (r : Rd H a (.lst xs)) : Rd H' a (.lst xs) := by
  rcases r with r | ⟨o, r⟩
  · exact .inl (k _ _ r fun z => n z.1)
  · exact .inr ⟨o, k _ _ r fun z => n z.1⟩
theorem Keep.sqT (k : Keep S H H') {a : Addr} {xs : List V} (r : SqT C.K H a xs) : SqT C.K H' a xs := by
  rcases r with (r | ⟨o, r⟩) | r
  · exact .inl (.inl (k _ _ r fun z => z.2.1 _ rfl))
  · exact .inl (.inr ⟨o, k _ _ r fun z => z.2.2 _ _ rfl⟩)
  · exact .inr r
theorem KLs.keep (k : Keep S H H') {a : Addr} {xs : List V} (h : KLs C.K H a xs) : KLs C.K H' a xs := h.imp (fun ⟨o, r⟩ => ⟨o, k _ _ r fun z => z.2.2 _ _ rfl⟩) id
mutual
theorem Rep.keepN (k : Keep S H H') (m : ∀ a, S' a → S a ∨ H a = none) : ∀ {d : D} {v : V}, Rep C S H v d → Rep C S' H' v d
  | _, _, .non => .non
  | _, _, .bl b => .bl b
  | _, _, .int i => .int i
  | _, _, .str x => .str x
  | _, _, .lst n r z h => .lst (fun q => (m _ q).elim n fun e => by rcases r with r | ⟨o, r⟩ <;> rw [e] at r <;> cases r) (k.rdL n r) z (RepL.keepN k m h)
  | _, _, .tup r z h => .tup (k.sqT r) z (RepL.keepN k m h)
  | _, _, .dK n r z h => .dK (fun q => (m _ q).elim n fun e => by rw [e] at r; cases r) (k _ _ r fun q => n q.1) z (RepL.keepN k m h)
  | _, _, .dN n r z hk e hd h => .dN (fun q => (m _ q).elim n fun e => by rw [e] at r; cases r) (k _ _ r fun q => n q.1) z (RepL.keepN k m hk) e hd (RepL.keepN k m h)
  | _, _, .kl r z h => .kl (r.keep k) z (RepL.keepN k m h)
theorem RepL.keepN (k : Keep S H H') (m : ∀ a, S' a → S a ∨ H a = none) : ∀ {ds : List D} {vs : List V}, RepL C S H vs ds → RepL C S' H' vs ds
  | _, _, .nil => .nil
  | _, _, .cons h t => .cons (Rep.keepN k m h) (RepL.keepN k m t)
end
theorem Rep.keep (k : Keep S H H') (m : ∀ a, S' a → S a) {d : D} {v : V} (h : Rep C S H v d) : Rep C S' H' v d := h.keepN k fun a q => .inl (m a q)
theorem RepL.keep (k : Keep S H H') (m : ∀ a, S' a → S a) {ds : List D} {vs : List V} (h : RepL C S H vs ds) : RepL C S' H' vs ds := h.keepN k fun a q => .inl (m a q)
theorem Rep.same (s : Same H H') {d : D} {v : V} (r : Rep C S H v d) : Rep C S H' v d := r.keep (.of_same s) fun _ h => h
theorem RepL.same (s : Same H H') {ds : List D} {vs : List V} (r : RepL C S H vs ds) : RepL C S H' vs ds := r.keep (.of_same s) fun _ h => h
theorem RepL.get : ∀ {vs : List V} {ds : List D} {i : Nat} {d : D}, RepL C S H vs ds → ds[i]? = some d → ∃ v, vs[i]? = some v ∧ Rep C S H v d
  | _, _, _, _, .nil, e => by simp at e
  | _, _, 0, _, .cons r _, e => by simp at e; subst e; exact ⟨_, rfl, r⟩
  | _, _, i + 1, d, .cons _ t, e => by
    obtain ⟨v, h1, h2⟩ := RepL.get (i := i) (d := d) t (by simpa using e)
    exact ⟨v, by simpa using h1, h2⟩
theorem RepL.get' : ∀ {vs : List V} {ds : List D} {i : Nat} {v : V}, RepL C S H vs ds → vs[i]? = some v → ∃ d, ds[i]? = some d ∧ Rep C S H v d
  | _, _, _, _, .nil, e => by simp at e
  | _, _, 0, _, .cons r _, e => by simp at e; subst e; exact ⟨_, rfl, r⟩
  | _, _, i + 1, d, .cons _ t, e => by
    obtain ⟨v, h1, h2⟩ := RepL.get' (i := i) (v := d) t (by simpa using e)
    exact ⟨v, by simpa using h1, h2⟩
theorem RepL.append : ∀ {vs ws : List V} {ds es : List D}, RepL C S H vs ds → RepL C S H ws es → RepL C S H (vs ++ ws) (ds ++ es)
  | _, _, _, _, .nil, s => s
  | _, _, _, _, .cons r t, s => .cons r (RepL.append t s)
theorem RepL.take : ∀ {vs : List V} {ds : List D} (n : Nat), RepL C S H vs ds → RepL C S H (vs.take n) (ds.take n)
  | _, _, 0, _ => .nil
  | _, _, _ + 1, .nil => .nil
  | _, _, n + 1, .cons r t => .cons r (RepL.take n t)
theorem RepL.drop : ∀ {vs : List V} {ds : List D} (n : Nat), RepL C S H vs ds → RepL C S H (vs.drop n) (ds.drop n)
  | _, _, 0, r => r
  | _, _, _ + 1, .nil => .nil
  | _, _, n + 1, .cons _ t => RepL.drop n t
theorem RepL.reverse {vs : List V} {ds : List D} (r : RepL C S H vs ds) : RepL C S H vs.reverse ds.reverse := by
  have go : ∀ {vs : List V} {ds : List D}, RepL C S H vs ds → ∀ {ws : List V} {es : List D}, RepL C S H ws es → RepL C S H (vs.reverseAux ws) (ds.reverseAux es) := by
    intro vs
    induction vs with
    | nil => intro ds r ws es q; cases r; exact q
    | cons v vs ih => intro ds r ws es q; cases r with | cons r t => exact ih t (.cons r q)
  exact go r .nil
theorem RepL.set {v : V} {d : D} (q : Rep C S H v d) : ∀ {vs : List V} {ds : List D} (i : Nat), RepL C S H vs ds → RepL C S H (vs.set i v) (ds.set i d)
  | _, _, _, .nil => .nil
  | _, _, 0, .cons _ t => .cons q t
  | _, _, i + 1, .cons r t => .cons r (RepL.set q i t)
theorem RepL.one {v : V} {ds : List D} (r : RepL C S H [v] ds) : ∃ d, ds = [d] ∧ Rep C S H v d := by
  cases r with | cons r t => cases t; exact ⟨_, rfl, r⟩
theorem RepL.sing {vs : List V} {d : D} (r : RepL C S H vs [d]) : ∃ v, vs = [v] ∧ Rep C S H v d := by
  cases r with | cons r t => cases t; exact ⟨_, rfl, r⟩
theorem RepL.pair {vs : List V} {d e : D} (r : RepL C S H vs [d, e]) : ∃ v w, vs = [v, w] ∧ Rep C S H v d ∧ Rep C S H w e := by
  cases r with | cons r t => cases t with | cons r' t => cases t; exact ⟨_, _, rfl, r, r'⟩
theorem RepL.rep {vs : List V} {ds : List D} (r : RepL C S H vs ds) : ∀ n : Nat, RepL C S H (List.replicate n vs).flatten (List.replicate n ds).flatten
  | 0 => .nil
  | n + 1 => by rw [List.replicate_succ, List.replicate_succ, List.flatten_cons, List.flatten_cons]; exact r.append (RepL.rep r n)
/-- an object is laid at a free place -/
theorem Same.upd {p : Addr} {o : HO} (h : H p = none) : Same H (upd H p o) := fun b u e => by rw [upd_ne (ne_of_none e h)]; exact e
theorem Rep.upd {p : Addr} {o : HO} (h : H p = none) {v : V} {d : D} (r : Rep C S H v d) : Rep C S (L2.upd H p o) v d := r.same (Same.upd h)
theorem RepL.upd {p : Addr} {o : HO} (h : H p = none) {v : List V} {d : List D} (r : RepL C S H v d) : RepL C S (L2.upd H p o) v d := r.same (Same.upd h)
/-! the data without dicts, as the library's Dp -/
mutual
theorem Rep.dp : ∀ {d : D} {v : V}, Rep C S H v d → d.canLay0 = true → Dp C.K H v d
  | _, _, .non, _ => .non
  | _, _, .bl b, _ => .bl b
  | _, _, .int i, _ => .int i
  | _, _, .str x, _ => .str x
  | _, _, .lst _ r _ h, c => .lst (.inl r) (RepL.dp h (by simpa [PyData.canLay0] using c))
  | _, _, .tup r _ h, c => .tup r (RepL.dp h (by simpa [PyData.canLay0] using c))
  | _, _, .dK .., c => by simp [PyData.canLay0] at c
  | _, _, .dN .., c => by simp [PyData.canLay0] at c
  | _, _, .kl .., c => by simp [PyData.canLay0] at c
theorem RepL.dp : ∀ {ds : List D} {vs : List V}, RepL C S H vs ds → PyData.canLayAll0 ds = true → DpAll C.K H vs ds
  | _, _, .nil, _ => .nil
  | _, _, .cons h t, c => by
    simp only [PyData.canLayAll0, Bool.and_eq_true] at c
    exact .cons (Rep.dp h c.1) (RepL.dp t c.2)
end
theorem Rep.dpS {v : V} {d : D} (r : Rep C S H v d) (h : SeqAt.shaped d = true) : Dp C.K H v d := r.dp (SeqAt.canLay_of_shaped h)
/-- the scalars -/
theorem Rep.int_of {v : V} {i : Int} (r : Rep C S H v (.int i)) : v = .int i := by cases r; rfl
theorem Rep.str_of {v : V} {x : Str} (r : Rep C S H v (.str x)) : v = .str x := by cases r; rfl
theorem Rep.bool_of {v : V} {b : Bool} (r : Rep C S H v (.bool b)) : v = .bl b := by cases r; rfl
theorem Rep.none_of {v : V} (r : Rep C S H v .none) : v = .non := by cases r; rfl
theorem Rep.list_of {v : V} {ds : List D} (r : Rep C S H v (.list ds)) : ∃ a xs, v = .ref a ∧ ¬ S a ∧ Rd H a (.lst xs) ∧ xs.length ≤ sizeLine ∧ RepL C S H xs ds := by
  cases r with | lst n r z h => exact ⟨_, _, rfl, n, r, z, h⟩
theorem Rep.tuple_of {v : V} {ds : List D} (r : Rep C S H v (.tuple ds)) : ∃ a xs, v = .ref a ∧ SqT C.K H a xs ∧ xs.length ≤ sizeLine ∧ RepL C S H xs ds := by
  cases r with | tup r z h => exact ⟨_, _, rfl, r, z, h⟩
/-- what stands at a where a dict stands for ps -/
inductive DictAt (C : Kt) (S : Addr → Prop) (H : Hp) (a : Addr) : List (D × D) → Prop
  | k {kvs : List (Key × V)} {ds : List D} : Rd H a (.dK kvs) → kvs.length ≤ sizeLine → RepL C S H (kvs.map (·.2)) ds → DictAt C S H a ((kvs.map fun p => keyOfD p.1).zip ds)
  | n {kvs : List (NestedKey × Addr × V)} {ks ds : List D} : Rd H a (nO C.P C.w a kvs) → kvs.length ≤ sizeLine → RepL C S H (kvs.map fun p => V.ref p.2.1) ks → keysN ks = some (kvs.map (·.1)) → (∀ p ∈ kvs, p.1.depth ≤ 8) → RepL C S H (kvs.map (·.2.2)) ds → DictAt C S H a ((.none, .none) :: ks.zip ds)
theorem Rep.dict_of {v : V} {ps : List (D × D)} (r : Rep C S H v (.dict ps)) (hf : isFL ps = false) : ∃ a, v = .ref a ∧ ¬ S a ∧ DictAt C S H a ps := by
  cases r with
  | kl h => cases hf
  | dK n r z h => exact ⟨_, rfl, n, .k (.inr ⟨_, r⟩) z h⟩
  | dN n r z hk e hd h => exact ⟨_, rfl, n, .n (.inr ⟨_, r⟩) z hk e hd h⟩
theorem DictAt.nfl {a : Addr} {ps : List (D × D)} (d : DictAt C S H a ps) : isFL ps = false := by
  cases d with
  | @k kvs ds r z h =>
    cases kvs with
    | nil => rfl
    | cons p kvs =>
      cases ds with
      | nil => rfl
      | cons d ds => obtain ⟨k, v⟩ := p; cases k <;> rfl
  | n r z hk e hd h => rfl
theorem dictLook_fl {ps : List (D × D)} {x : D} {o : Option D} (h : dictLook ps x = some o) : isFL ps = false := by
  unfold dictLook at h
  split at h
  · cases h
  · rfl
  · rename_i h1 h2
    unfold isFL
    split
    · exact absurd rfl (h1 _ _ _)
    · rfl
/-- a list that stands ahead of the run -/
theorem RepB.kl_of0 {v : V} {ps : List (D × D)} (r : Rep C S H v (.dict ps)) (hf : isFL ps = true) : ∃ a xs ds, v = .ref a ∧ ps = [(.bool true, .list ds)] ∧ KLs C.K H a xs ∧ xs.length ≤ sizeLine ∧ RepL C S H xs ds := by
  generalize he : PyData.dict ps = d at r
  cases r with
  | kl h z r => cases he; exact ⟨_, _, _, rfl, rfl, h, z, r⟩
  | dK n r z h => cases he; rw [(DictAt.k (.inr ⟨_, r⟩) z h).nfl] at hf; cases hf
  | dN n r z hk e hd h => cases he; cases hf
  | _ => cases he
theorem DictAt.rep {a : Addr} {ps : List (D × D)} {o : Obj} {u : HO} (n : ¬ S a) (d : DictAt C S H a ps) (f : H a = some (.frz o u)) : Rep C S H (.ref a) (.dict ps) := by
  cases d with
  | k r z h =>
    rcases r with r | ⟨_, r⟩
    · rw [f] at r; cases r
    · exact .dK n r z h
  | n r z hk e hd h =>
    rcases r with r | ⟨_, r⟩
    · rw [f] at r; cases r
    · exact .dN n r z hk e hd h
theorem DictAt.keep (k : Keep S H H') (m : ∀ a, S' a → S a) {a : Addr} {ps : List (D × D)} (d : DictAt C S H a ps) (ha : ∀ o, H a = some o → H' a = some o) : DictAt C S' H' a ps := by
  cases d with
  | k r z h => exact .k (r.imp (ha _) fun ⟨o, e⟩ => ⟨o, ha _ e⟩) z (h.keep k m)
  | n r z hk e hd h => exact .n (r.imp (ha _) fun ⟨o, e⟩ => ⟨o, ha _ e⟩) z (hk.keep k m) e hd (h.keep k m)
/-- it may be written -/
def Fre (H : Hp) (a : Addr) : Prop := ∃ o, H a = some o ∧ Mu o ∧ Mut (some o)
theorem Fre.dK {a : Addr} {kvs : List (Key × V)} (h : H a = some (.dK kvs)) : Fre H a := ⟨_, h, .dK, True.intro⟩
theorem Fre.nO {a : Addr} {P : Program} {w : World} {kvs : List (NestedKey × Addr × V)} (h : H a = some (nO P w a kvs)) : Fre H a := ⟨_, h, .nO, True.intro⟩
end

/-! ### slots and environments -/
section
variable (C : Kt)
/-- what an owned thing at a holds -/
def OwnR (S : Addr → Prop) (H : Hp) (a : Addr) : D → Prop
  | .list ds => ∃ xs, H a = some (.lst xs) ∧ xs.length ≤ sizeLine ∧ RepL C S H xs ds
  | .dict ps => DictAt C S H a ps ∧ Fre H a
  | _ => False
def SlotR (S : Addr → Prop) (H : Hp) : Slot → Option (Option V) → Prop
  | .emp, _ => True
  | .val d, x => ∃ v, x = some (some v) ∧ Rep C S H v d
  | .own d, x => ∃ a, x = some (some (.ref a)) ∧ S a ∧ OwnR C S H a d
/-- what is kept from others: S0, and what the environment owns -/
def OS (S0 : Addr → Prop) (env : En) (σ : L2.St) (a : Addr) : Prop := S0 a ∨ ∃ i d, slotAt env i = .own d ∧ σ[i]? = some (some (.ref a))
/-- the environment at the slots σ, over the base B -/
structure ER (S0 : Addr → Prop) (B : Hp) (σ : L2.St) (H : Hp) (env : En) : Prop where
  len : σ.length = env.length
  slots : ∀ i, SlotR C (OS S0 env σ) H (slotAt env i) σ[i]?
  inj : ∀ i j d e a, slotAt env i = .own d → slotAt env j = .own e → σ[i]? = some (some (.ref a)) → σ[j]? = some (some (.ref a)) → i = j
  base : Same B H
  fresh : ∀ i d a, slotAt env i = .own d → σ[i]? = some (some (.ref a)) → B a = none
  s0 : ∀ a, S0 a → ∃ o, H a = some o
  sep : ∀ i d a, slotAt env i = .own d → σ[i]? = some (some (.ref a)) → ¬ S0 a
end
/-- v stands for d, or it is one of S that does -/
def RepB (C : Kt) (S : Addr → Prop) (H : Hp) (v : V) (d : D) : Prop := Rep C S H v d ∨ ∃ a, v = .ref a ∧ S a ∧ OwnR C S H a d
section
variable {C : Kt} {S : Addr → Prop} {H : Hp} {v : V}
theorem Rep.b {d : D} (r : Rep C S H v d) : RepB C S H v d := .inl r
theorem RepB.list_of {ds : List D} (r : RepB C S H v (.list ds)) : ∃ a xs, v = .ref a ∧ Rd H a (.lst xs) ∧ xs.length ≤ sizeLine ∧ RepL C S H xs ds := by
  rcases r with r | ⟨a, rfl, sa, xs, e, z, r⟩
  · obtain ⟨a, xs, e, _, h⟩ := r.list_of
    exact ⟨a, xs, e, h⟩
  · exact ⟨a, xs, rfl, .inl e, z, r⟩
theorem RepB.tuple_of {ds : List D} (r : RepB C S H v (.tuple ds)) : ∃ a xs, v = .ref a ∧ SqT C.K H a xs ∧ xs.length ≤ sizeLine ∧ RepL C S H xs ds := by
  rcases r with r | ⟨a, rfl, sa, h⟩
  · exact r.tuple_of
  · exact h.elim
theorem RepB.dict_of {ps : List (D × D)} (r : RepB C S H v (.dict ps)) (hf : isFL ps = false) : ∃ a, v = .ref a ∧ DictAt C S H a ps := by
  rcases r with r | ⟨a, rfl, sa, h⟩
  · obtain ⟨a, e, _, h⟩ := r.dict_of hf
    exact ⟨a, e, h⟩
  · exact ⟨a, rfl, h.1⟩
theorem RepB.kl_of {ps : List (D × D)} (r : RepB C S H v (.dict ps)) (hf : isFL ps = true) : ∃ a xs ds, v = .ref a ∧ ps = [(.bool true, .list ds)] ∧ KLs C.K H a xs ∧ xs.length ≤ sizeLine ∧ RepL C S H xs ds := by
  rcases r with r | ⟨a, rfl, sa, h⟩
  · exact RepB.kl_of0 r hf
  · rw [DictAt.nfl (show DictAt C S H a ps ∧ Fre H a from h).1] at hf; cases hf
theorem RepB.str_of {x : Str} (r : RepB C S H v (.str x)) : v = .str x := by
  rcases r with r | ⟨a, rfl, sa, h⟩
  · exact r.str_of
  · exact h.elim
theorem RepB.dp {d : D} (r : RepB C S H v d) (h : d.canLay0 = true) : Dp C.K H v d := by
  rcases r with r | ⟨a, rfl, sa, q⟩
  · exact r.dp h
  · cases d with
    | list ds =>
      obtain ⟨xs, e, z, r⟩ := q
      exact .lst (.inl (.inl e)) (r.dp (by simpa [PyData.canLay0] using h))
    | dict ps => simp [PyData.canLay0] at h
    | _ => exact q.elim
end
section
variable {C : Kt} {S S' S0 : Addr → Prop} {B H H' : Hp} {σ : L2.St} {env : En}
theorem OwnR.keep (k : Keep S H H') (m : ∀ a, S' a → S a) {a : Addr} {d : D} (h : OwnR C S H a d) (ha : ∀ o, H a = some o → H' a = some o) : OwnR C S' H' a d := by
  cases d with
  | list ds => obtain ⟨xs, e, z, r⟩ := h; exact ⟨xs, ha _ e, z, r.keep k m⟩
  | dict ps => exact ⟨DictAt.keep k m (show DictAt C S H a ps ∧ Fre H a from h).1 ha, let ⟨o, e, m⟩ := (show DictAt C S H a ps ∧ Fre H a from h).2; ⟨o, ha _ e, m⟩⟩
  | _ => exact h.elim
theorem OwnR.there {a : Addr} {d : D} (h : OwnR C S H a d) : ∃ o, H a = some o ∧ Mu o := by
  cases d with
  | list ds => obtain ⟨xs, e, _⟩ := h; exact ⟨_, e, .lst⟩
  | dict ps => exact let ⟨o, e, m, _⟩ := (show DictAt C S H a ps ∧ Fre H a from h).2; ⟨o, e, m⟩
  | _ => exact h.elim
theorem ER.same (e : ER C S0 B σ H env) (s : Same H H') : ER C S0 B σ H' env where
  len := e.len
  slots := fun i => by
    have q := e.slots i
    cases hs : slotAt env i with
    | emp => trivial
    | val d => rw [hs] at q; obtain ⟨v, h1, h2⟩ := q; exact ⟨v, h1, h2.same s⟩
    | own d => rw [hs] at q; obtain ⟨a, h1, h2, h3⟩ := q; exact ⟨a, h1, h2, h3.keep (.of_same s) (fun _ h => h) fun o h => s _ _ h⟩
  inj := e.inj
  base := fun b o h => s _ _ (e.base b o h)
  fresh := e.fresh
  s0 := fun a h => let ⟨o, q⟩ := e.s0 a h; ⟨o, s _ _ q⟩
  sep := e.sep
theorem ER.there (e : ER C S0 B σ H env) {a : Addr} (h : OS S0 env σ a) : ∃ o, H a = some o := by
  rcases h with h | ⟨i, d, h1, h2⟩
  · exact e.s0 a h
  · have q := e.slots i
    rw [h1] at q
    obtain ⟨b, q1, _, q2⟩ := q
    rw [h2] at q1
    have : a = b := by injection q1 with q1; injection q1 with q1; injection q1
    subst this
    obtain ⟨o, h, _⟩ := q2.there
    exact ⟨o, h⟩
theorem ER.var (e : ER C S0 B σ H env) {i : Nat} {d : D} (h : slotAt env i = .val d) : ∃ v, σ[i]? = some (some v) ∧ Rep C (OS S0 env σ) H v d := by
  have q := e.slots i
  rw [h] at q
  exact q
theorem slotAt_setAt_same : ∀ {env : En} {i : Nat} {s : Slot}, i < env.length → slotAt (setAt env i s) i = s
  | _ :: _, 0, _, _ => rfl
  | _ :: r, i + 1, s, h => slotAt_setAt_same (env := r) (i := i) (by simpa using h)
  | [], _, _, h => by simp at h
theorem slotAt_setAt_ne : ∀ {env : En} {i j : Nat} {s : Slot}, i ≠ j → slotAt (setAt env i s) j = slotAt env j
  | [], _, _, _, _ => rfl
  | _ :: _, 0, 0, _, h => absurd rfl h
  | _ :: _, 0, _ + 1, _, _ => rfl
  | _ :: _, _ + 1, 0, _, _ => rfl
  | _ :: r, i + 1, j + 1, s, h => slotAt_setAt_ne (env := r) (i := i) (j := j) fun e => h (by rw [e])
theorem setAt_length : ∀ (env : En) (i : Nat) (s : Slot), (setAt env i s).length = env.length
  | [], _, _ => rfl
  | _ :: _, 0, _ => rfl
  | _ :: r, i + 1, s => by simp only [setAt, List.length_cons, setAt_length r i s]
theorem slotAt_ge : ∀ {env : En} {i : Nat}, env.length ≤ i → slotAt env i = .emp
  | [], _, _ => rfl
  | _ :: _, 0, h => by simp at h
  | _ :: r, i + 1, h => slotAt_ge (env := r) (i := i) (by simpa using h)
theorem lt_of_slot {env : En} {i : Nat} {s : Slot} (h : slotAt env i = s) (n : s ≠ .emp) : i < env.length := by
  by_cases q : i < env.length
  · exact q
  · exact absurd (h.symm.trans (slotAt_ge (by omega))) n
/-- a slot is given a value that stands for d -/
theorem ER.set (e : ER C S0 B σ H env) {i : Nat} {v : V} {d : D} (r : Rep C (OS S0 env σ) H v d) : ER C S0 B (σ.set i (some v)) H (setAt env i (.val d)) := by
  have sub : ∀ a, OS S0 (setAt env i (.val d)) (σ.set i (some v)) a → OS S0 env σ a := fun a h => by
    rcases h with h | ⟨j, f, h1, h2⟩
    · exact .inl h
    · by_cases hj : i = j
      · subst hj
        have hi : i < env.length := by
          have := lt_of_slot h1 (by intro z; cases z)
          rwa [setAt_length] at this
        rw [slotAt_setAt_same hi] at h1
        cases h1
      · rw [slotAt_setAt_ne hj] at h1
        rw [List.getElem?_set_ne hj] at h2
        exact .inr ⟨j, f, h1, h2⟩
  refine ⟨by rw [List.length_set, setAt_length]; exact e.len, fun j => ?_, fun j k d1 d2 a h1 h2 h3 h4 => ?_, e.base, fun j d1 a h1 h2 => ?_, e.s0, fun j d1 a h1 h2 => ?_⟩
  · by_cases hj : i = j
    · subst hj
      by_cases hi : i < env.length
      · rw [slotAt_setAt_same hi, List.getElem?_set_self (by rw [e.len]; exact hi)]
        exact ⟨v, rfl, r.keep (.of_same fun _ _ h => h) sub⟩
      · rw [slotAt_ge (by rw [setAt_length]; omega)]
        trivial
    · rw [slotAt_setAt_ne hj, List.getElem?_set_ne hj]
      have q := e.slots j
      cases hs : slotAt env j with
      | emp => trivial
      | val f => rw [hs] at q; obtain ⟨u, h1, h2⟩ := q; exact ⟨u, h1, h2.keep (.of_same fun _ _ h => h) sub⟩
      | own f =>
        rw [hs] at q
        obtain ⟨a, h1, h2, h3⟩ := q
        exact ⟨a, h1, .inr ⟨j, f, by rw [slotAt_setAt_ne hj]; exact hs, by rw [List.getElem?_set_ne hj]; exact h1⟩, h3.keep (.of_same fun _ _ h => h) sub fun _ h => h⟩
  · have ne : ∀ k d1, slotAt (setAt env i (.val d)) k = .own d1 → i ≠ k := fun k d1 h z => by
      subst z
      have hi : i < env.length := by
        have := lt_of_slot h (by intro z; cases z)
        rwa [setAt_length] at this
      rw [slotAt_setAt_same hi] at h
      cases h
    have n1 := ne _ _ h1
    have n2 := ne _ _ h2
    rw [slotAt_setAt_ne n1] at h1
    rw [slotAt_setAt_ne n2] at h2
    rw [List.getElem?_set_ne n1] at h3
    rw [List.getElem?_set_ne n2] at h4
    exact e.inj j k d1 d2 a h1 h2 h3 h4
  · have n1 : i ≠ j := fun z => by
      subst z
      have hi : i < env.length := by
        have := lt_of_slot h1 (by intro z; cases z)
        rwa [setAt_length] at this
      rw [slotAt_setAt_same hi] at h1
      cases h1
    rw [slotAt_setAt_ne n1] at h1
    rw [List.getElem?_set_ne n1] at h2
    exact e.fresh j d1 a h1 h2
  · have n1 : i ≠ j := fun z => by
      subst z
      have hi : i < env.length := by
        have := lt_of_slot h1 (by intro z; cases z)
        rwa [setAt_length] at this
      rw [slotAt_setAt_same hi] at h1
      cases h1
    rw [slotAt_setAt_ne n1] at h1
    rw [List.getElem?_set_ne n1] at h2
    exact e.sep j d1 a h1 h2
/-- a slot is forgotten -/
theorem ER.wipe1 (e : ER C S0 B σ H env) (i : Nat) : ER C S0 B (σ.set i none) H (setAt env i .emp) := by
  have ne : ∀ k d1, slotAt (setAt env i .emp) k = .own d1 → i ≠ k := fun k d1 h z => by
    subst z
    have hi : i < env.length := by
      have := lt_of_slot h (by intro z; cases z)
      rwa [setAt_length] at this
    rw [slotAt_setAt_same hi] at h
    cases h
  have sub : ∀ a, OS S0 (setAt env i .emp) (σ.set i none) a → OS S0 env σ a := fun a h => by
    rcases h with h | ⟨j, f, h1, h2⟩
    · exact .inl h
    · have hj := ne _ _ h1
      rw [slotAt_setAt_ne hj] at h1
      rw [List.getElem?_set_ne hj] at h2
      exact .inr ⟨j, f, h1, h2⟩
  refine ⟨by rw [List.length_set, setAt_length]; exact e.len, fun j => ?_, fun j k d1 d2 a h1 h2 h3 h4 => ?_, e.base, fun j d1 a h1 h2 => ?_, e.s0, fun j d1 a h1 h2 => ?_⟩
  · by_cases hj : i = j
    · subst hj
      by_cases hi : i < env.length
      · rw [slotAt_setAt_same hi]; trivial
      · rw [slotAt_ge (by rw [setAt_length]; omega)]; trivial
    · rw [slotAt_setAt_ne hj, List.getElem?_set_ne hj]
      have q := e.slots j
      cases hs : slotAt env j with
      | emp => trivial
      | val f => rw [hs] at q; obtain ⟨u, h1, h2⟩ := q; exact ⟨u, h1, h2.keep (.of_same fun _ _ h => h) sub⟩
      | own f =>
        rw [hs] at q
        obtain ⟨a, h1, h2, h3⟩ := q
        exact ⟨a, h1, .inr ⟨j, f, by rw [slotAt_setAt_ne hj]; exact hs, by rw [List.getElem?_set_ne hj]; exact h1⟩, h3.keep (.of_same fun _ _ h => h) sub fun _ h => h⟩
  · have n1 := ne _ _ h1
    have n2 := ne _ _ h2
    rw [slotAt_setAt_ne n1] at h1
    rw [slotAt_setAt_ne n2] at h2
    rw [List.getElem?_set_ne n1] at h3
    rw [List.getElem?_set_ne n2] at h4
    exact e.inj j k d1 d2 a h1 h2 h3 h4
  · have n1 := ne _ _ h1
    rw [slotAt_setAt_ne n1] at h1
    rw [List.getElem?_set_ne n1] at h2
    exact e.fresh j d1 a h1 h2
  · have n1 := ne _ _ h1
    rw [slotAt_setAt_ne n1] at h1
    rw [List.getElem?_set_ne n1] at h2
    exact e.sep j d1 a h1 h2
theorem ER.wipe (e : ER C S0 B σ H env) : ∀ vs : List Nat, ER C S0 B (wipe σ vs) H (wipeE env vs)
  | [] => e
  | v :: vs => (ER.wipe e vs).wipe1 v
theorem wipe_OS {a : Addr} (vs : List Nat) (h : OS S0 (wipeE env vs) (wipe σ vs) a) (hl : σ.length = env.length) : OS S0 env σ a := by
  rcases h with h | ⟨i, d, h1, h2⟩
  · exact .inl h
  · have key : ∀ vs : List Nat, slotAt (wipeE env vs) i = .own d → slotAt env i = .own d := by
      intro vs
      induction vs with
      | nil => exact id
      | cons v vs ih =>
        intro h
        by_cases hv : v = i
        · subst hv
          have hi := lt_of_slot h (by intro z; cases z)
          unfold wipeE at h hi
          rw [setAt_length] at hi
          rw [slotAt_setAt_same hi] at h
          cases h
        · unfold wipeE at h
          rw [slotAt_setAt_ne hv] at h
          exact ih h
    exact .inr ⟨i, d, key vs h1, (wipe_some h2).1⟩
end
end PI
end
section
/-! Dicts of both kinds. -/
namespace PI
open PySem PySem.Spec PyProof.Rows L2

theorem lim_lt : lim < sizeLine := by rw [sizeLine_eq]; decide
def Trk (S : Addr → Prop) (H : Hp) : Prop := ∀ a, S a → ∃ o, H a = some o
/-! ### keys -/
mutual
theorem eqv_key : ∀ {d e : D} {k j : NestedKey}, keyN d = some k → keyN e = some j → PyData.eqv d e = decide (k = j)
  | .none, e, k, j, h1, h2 => by
    cases h1
    cases e with
    | none => cases h2; simp [PyData.eqv]
    | bool b => cases h2; simp [PyData.eqv]
    | int i => cases h2; simp [PyData.eqv]
    | str x => cases h2; simp [PyData.eqv]
    | tuple ds => obtain ⟨ks, _, rfl⟩ := Option.map_eq_some_iff.mp h2; simp [PyData.eqv]
    | list ds => cases h2
    | dict ds => cases h2
  | .bool a, e, k, j, h1, h2 => by
    cases h1
    cases e with
    | none => cases h2; simp [PyData.eqv]
    | bool b => cases h2; cases a <;> cases b <;> simp [PyData.eqv]
    | int i =>
      cases h2
      cases a <;> simp only [PyData.eqv, NestedKey.num.injEq, Bool.false_eq_true, if_false, if_true]
      all_goals (rw [Bool.eq_iff_iff]; simp)
    | str x => cases h2; simp [PyData.eqv]
    | tuple ds => obtain ⟨ks, _, rfl⟩ := Option.map_eq_some_iff.mp h2; simp [PyData.eqv]
    | list ds => cases h2
    | dict ds => cases h2
  | .int a, e, k, j, h1, h2 => by
    cases h1
    cases e with
    | none => cases h2; simp [PyData.eqv]
    | bool b =>
      cases h2
      cases b <;> simp only [PyData.eqv, NestedKey.num.injEq, Bool.false_eq_true, if_false, if_true]
      all_goals (rw [Bool.eq_iff_iff]; simp)
    | int i => cases h2; simp only [PyData.eqv, NestedKey.num.injEq]; rw [Bool.eq_iff_iff]; simp
    | str x => cases h2; simp [PyData.eqv]
    | tuple ds => obtain ⟨ks, _, rfl⟩ := Option.map_eq_some_iff.mp h2; simp [PyData.eqv]
    | list ds => cases h2
    | dict ds => cases h2
  | .str a, e, k, j, h1, h2 => by
    cases h1
    cases e with
    | none => cases h2; simp [PyData.eqv]
    | bool b => cases h2; simp [PyData.eqv]
    | int i => cases h2; simp [PyData.eqv]
    | str x => cases h2; simp only [PyData.eqv, NestedKey.text.injEq]; rw [Bool.eq_iff_iff]; simp
    | tuple ds => obtain ⟨ks, _, rfl⟩ := Option.map_eq_some_iff.mp h2; simp [PyData.eqv]
    | list ds => cases h2
    | dict ds => cases h2
  | .tuple ds, e, k, j, h1, h2 => by
    obtain ⟨ks, h1', rfl⟩ := Option.map_eq_some_iff.mp h1
    cases e with
    | none => cases h2; simp [PyData.eqv]
    | bool b => cases h2; simp [PyData.eqv]
    | int i => cases h2; simp [PyData.eqv]
    | str x => cases h2; simp [PyData.eqv]
    | tuple es =>
      obtain ⟨js, h2', rfl⟩ := Option.map_eq_some_iff.mp h2
      simp only [PyData.eqv, NestedKey.tup.injEq]
      exact eqv_keys h1' h2'
    | list ds => cases h2
    | dict ds => cases h2
  | .list _, _, _, _, h1, _ => by cases h1
  | .dict _, _, _, _, h1, _ => by cases h1
theorem eqv_keys : ∀ {ds es : List D} {ks js : List NestedKey}, keysN ds = some ks → keysN es = some js → PyData.eqvAll ds es = decide (ks = js)
  | [], [], _, _, h1, h2 => by cases h1; cases h2; simp [PyData.eqvAll]
  | [], e :: es, _, _, h1, h2 => by
    cases h1
    simp only [keysN] at h2
    obtain ⟨k, _, h2⟩ := Option.bind_eq_some_iff.mp h2
    obtain ⟨ks, _, rfl⟩ := Option.map_eq_some_iff.mp h2
    simp [PyData.eqvAll]
  | d :: ds, [], _, _, h1, h2 => by
    cases h2
    simp only [keysN] at h1
    obtain ⟨k, _, h1⟩ := Option.bind_eq_some_iff.mp h1
    obtain ⟨ks, _, rfl⟩ := Option.map_eq_some_iff.mp h1
    simp [PyData.eqvAll]
  | d :: ds, e :: es, _, _, h1, h2 => by
    simp only [keysN] at h1 h2
    obtain ⟨k, k1, h1⟩ := Option.bind_eq_some_iff.mp h1
    obtain ⟨ks, k2, rfl⟩ := Option.map_eq_some_iff.mp h1
    obtain ⟨j, j1, h2⟩ := Option.bind_eq_some_iff.mp h2
    obtain ⟨js, j2, rfl⟩ := Option.map_eq_some_iff.mp h2
    rw [PyData.eqvAll, eqv_key k1 j1, eqv_keys k2 j2]
    simp
end
section
variable {X : Cx} {pins : List (Addr × Obj)} {σ : L2.St} {H : Hp} {s : Shared} {S : Addr → Prop}
mutual
theorem Rep.key (I : Inv X pins σ H s) : ∀ {d : D} {v : V} {u : Value} {k : NestedKey}, Rep (kt X) S H v d → keyN d = some k → RelV v u → NestedIs s.heap k u
  | .none, _, _, _, r, h, q => by cases h; cases r; cases q; exact .none
  | .bool b, _, _, _, r, h, q => by cases h; cases r; cases q; exact .bool rfl
  | .int i, _, _, _, r, h, q => by cases h; cases r; obtain ⟨t, rfl⟩ := q; exact .int _ _
  | .str x, _, _, _, r, h, q => by cases h; cases r; obtain ⟨t, rfl⟩ := q; exact .text _ _
  | .tuple ds, _, _, _, r, h, q => by
    obtain ⟨ks, h', rfl⟩ := Option.map_eq_some_iff.mp h
    obtain ⟨a, xs, rfl, ha, _, ra⟩ := r.tuple_of
    cases q
    obtain ⟨its, rv, ⟨o, ho, hc, n, hd⟩, _⟩ := I.tuple ha
    exact .tup ho hc hd (by rw [List.toList_toArray]; exact RepL.keys I ra h' rv)
  | .list _, _, _, _, _, h, _ => by cases h
  | .dict _, _, _, _, _, h, _ => by cases h
theorem RepL.keys (I : Inv X pins σ H s) : ∀ {ds : List D} {vs : List V} {us : List Value} {ks : List NestedKey}, RepL (kt X) S H vs ds → keysN ds = some ks → Vals vs us → NestedAll s.heap ks us
  | [], _, _, _, r, h, q => by cases h; cases r; cases q; exact .nil
  | d :: ds, _, _, _, r, h, q => by
    simp only [keysN] at h
    obtain ⟨k, k1, h⟩ := Option.bind_eq_some_iff.mp h
    obtain ⟨ks, k2, rfl⟩ := Option.map_eq_some_iff.mp h
    cases r with
    | cons r1 r2 =>
      cases q with
      | cons q1 q2 => exact .cons (Rep.key I r1 k1 q1) (RepL.keys I r2 k2 q2)
end
end

/-! ### looking up -/
def RepO (C : Kt) (S : Addr → Prop) (H : Hp) : Option V → Option D → Prop
  | some v, some d => Rep C S H v d
  | none, none => True
  | _, _ => False
theorem RepO.isSome {C : Kt} {S : Addr → Prop} {H : Hp} {r : Option V} {o : Option D} (h : RepO C S H r o) : r.isSome = o.isSome := by
  cases r <;> cases o <;> first | rfl | exact h.elim
theorem RepO.getD {C : Kt} {S : Addr → Prop} {H : Hp} {r : Option V} {o : Option D} {v : V} {d : D} (h : RepO C S H r o) (q : Rep C S H v d) : Rep C S H (r.getD v) (o.getD d) := by
  cases r <;> cases o <;> first | exact q | exact h | exact h.elim
theorem eqv_keyOfD (k j : Key) : PyData.eqv (keyOfD k) (keyOfD j) = decide (k = j) := by
  cases k with
  | inl a =>
    cases j with
    | inl b => simp only [keyOfD, PyData.eqv]; rw [Bool.eq_iff_iff]; simp
    | inr b => simp [keyOfD, PyData.eqv]
  | inr a =>
    cases j with
    | inl b => simp [keyOfD, PyData.eqv]
    | inr b => simp only [keyOfD, PyData.eqv]; rw [Bool.eq_iff_iff]; simp
def valN (kvs : List (NestedKey × Addr × V)) (k : NestedKey) : Option V := (kvs.find? fun p => decide (p.1 = k)).map (·.2.2)
def putN (kvs : List (NestedKey × Addr × V)) (k : NestedKey) (a : Addr) (v : V) : List (NestedKey × Addr × V) :=
  if (kvs.any fun p => decide (p.1 = k)) then kvs.map (fun p => if p.1 = k then (p.1, p.2.1, v) else p) else kvs ++ [(k, a, v)]
theorem valN_pos {p : NestedKey × Addr × V} {r : List (NestedKey × Addr × V)} {k : NestedKey} (e : p.1 = k) : valN (p :: r) k = some p.2.2 := by simp [valN, List.find?_cons, e]
theorem valN_neg {p : NestedKey × Addr × V} {r : List (NestedKey × Addr × V)} {k : NestedKey} (e : ¬ p.1 = k) : valN (p :: r) k = valN r k := by simp [valN, List.find?_cons, e]
section
variable {C : Kt} {S : Addr → Prop} {H : Hp}
theorem lookK : ∀ {kvs : List (Key × V)} {ds : List D} (k : Key), RepL C S H (kvs.map (·.2)) ds → RepO C S H (valV kvs k) (lookD ((kvs.map fun p => keyOfD p.1).zip ds) (keyOfD k))
  | [], _, _, r => by cases r; trivial
  | p :: kvs, _, k, r => by
    cases r with
    | cons r1 r2 =>
      simp only [List.map_cons, List.zip_cons_cons, lookD]
      rw [eqv_keyOfD]
      by_cases e : p.1 = k
      · rw [valV_pos e, decide_eq_true e]; exact r1
      · rw [valV_neg e, decide_eq_false e]; exact lookK k r2
theorem anyK : ∀ {kvs : List (Key × V)} {ds : List D} (k : Key), RepL C S H (kvs.map (·.2)) ds → (((kvs.map fun p => keyOfD p.1).zip ds).any fun kv => PyData.eqv kv.1 (keyOfD k)) = kvs.any fun kv => decide (kv.1 = k)
  | [], _, _, r => by cases r; rfl
  | p :: kvs, _, k, r => by
    cases r with
    | cons r1 r2 => simp only [List.map_cons, List.zip_cons_cons, List.any_cons, eqv_keyOfD, anyK k r2]
theorem mapK : ∀ {kvs : List (Key × V)} {ds : List D} {k : Key} {v : V} {d : D}, RepL C S H (kvs.map (·.2)) ds → Rep C S H v d →
    ∃ ds', (((kvs.map fun p => keyOfD p.1).zip ds).map fun kv => cond (PyData.eqv kv.1 (keyOfD k)) (kv.1, d) kv) = ((kvs.map fun kv => if kv.1 = k then (kv.1, v) else kv).map fun p => keyOfD p.1).zip ds' ∧ RepL C S H ((kvs.map fun kv => if kv.1 = k then (kv.1, v) else kv).map (·.2)) ds'
  | [], _, _, _, _, r, _ => by cases r; exact ⟨[], rfl, .nil⟩
  | p :: kvs, _, k, v, d, r, q => by
    cases r with
    | @cons _ _ d1 ds1 r1 r2 =>
      obtain ⟨ds', h1, h2⟩ := mapK (k := k) r2 q
      by_cases e : p.1 = k
      · refine ⟨d :: ds', ?_, ?_⟩
        · simp only [List.map_cons, List.zip_cons_cons, eqv_keyOfD, decide_eq_true e, cond_true, if_pos e, h1]
        · simp only [List.map_cons, if_pos e]; exact .cons q h2
      · refine ⟨d1 :: ds', ?_, ?_⟩
        · simp only [List.map_cons, List.zip_cons_cons, eqv_keyOfD, decide_eq_false e, cond_false, if_neg e, h1]
        · simp only [List.map_cons, if_neg e]; exact .cons r1 h2
theorem storeK {kvs : List (Key × V)} {ds : List D} {k : Key} {v : V} {d : D} (r : RepL C S H (kvs.map (·.2)) ds) (q : Rep C S H v d) :
    ∃ ds', storeD ((kvs.map fun p => keyOfD p.1).zip ds) (keyOfD k) d = ((putK kvs k v).map fun p => keyOfD p.1).zip ds' ∧ RepL C S H ((putK kvs k v).map (·.2)) ds' := by
  unfold storeD putK
  rw [anyK k r]
  cases hb : kvs.any fun kv => decide (kv.1 = k) with
  | true =>
    rw [cond_true, if_pos rfl]
    exact mapK r q
  | false =>
    rw [cond_false, if_neg Bool.false_ne_true]
    refine ⟨ds ++ [d], ?_, ?_⟩
    · rw [List.map_append, List.zip_append (by rw [List.length_map]; have := r.length; rw [List.length_map] at this; exact this)]
      rfl
    · rw [List.map_append]; exact r.append (.cons q .nil)
theorem lookN : ∀ {kvs : List (NestedKey × Addr × V)} {ks ds : List D} {x : D} {k : NestedKey}, keysN ks = some (kvs.map (·.1)) → RepL C S H (kvs.map (·.2.2)) ds → keyN x = some k → RepO C S H (valN kvs k) (lookD (ks.zip ds) x)
  | [], ks, _, _, _, hk, r, _ => by
    cases r
    rw [List.zip_nil_right]
    trivial
  | p :: kvs, [], _, _, _, hk, _, _ => by cases hk
  | p :: kvs, d :: ks, _, x, k, hk, r, hx => by
    simp only [keysN] at hk
    obtain ⟨j, k1, hk⟩ := Option.bind_eq_some_iff.mp hk
    obtain ⟨js, k2, hk⟩ := Option.map_eq_some_iff.mp hk
    rw [List.map_cons] at hk
    injection hk with hj hjs
    subst hj hjs
    cases r with
    | cons r1 r2 =>
      simp only [List.zip_cons_cons, lookD]
      rw [eqv_key k1 hx]
      by_cases e : p.1 = k
      · rw [valN_pos e, decide_eq_true e]; exact r1
      · rw [valN_neg e, decide_eq_false e]; exact lookN k2 r2 hx
theorem anyN : ∀ {kvs : List (NestedKey × Addr × V)} {ks ds : List D} {x : D} {k : NestedKey}, keysN ks = some (kvs.map (·.1)) → RepL C S H (kvs.map (·.2.2)) ds → keyN x = some k → ((ks.zip ds).any fun kv => PyData.eqv kv.1 x) = kvs.any fun p => decide (p.1 = k)
  | [], ks, _, _, _, hk, r, _ => by cases r; rw [List.zip_nil_right]; rfl
  | p :: kvs, [], _, _, _, hk, _, _ => by cases hk
  | p :: kvs, d :: ks, _, x, k, hk, r, hx => by
    simp only [keysN] at hk
    obtain ⟨j, k1, hk⟩ := Option.bind_eq_some_iff.mp hk
    obtain ⟨js, k2, hk⟩ := Option.map_eq_some_iff.mp hk
    rw [List.map_cons] at hk
    injection hk with hj hjs
    subst hj hjs
    cases r with
    | cons r1 r2 => simp only [List.zip_cons_cons, List.any_cons, eqv_key k1 hx, anyN k2 r2 hx]
theorem mapN : ∀ {kvs : List (NestedKey × Addr × V)} {ks ds : List D} {x : D} {k : NestedKey} {v : V} {d : D}, keysN ks = some (kvs.map (·.1)) → RepL C S H (kvs.map (·.2.2)) ds → keyN x = some k → Rep C S H v d →
    ∃ ds', ((ks.zip ds).map fun kv => cond (PyData.eqv kv.1 x) (kv.1, d) kv) = ks.zip ds' ∧ RepL C S H ((kvs.map fun p => if p.1 = k then (p.1, p.2.1, v) else p).map (·.2.2)) ds'
  | [], ks, _, _, _, _, _, hk, r, _, _ => by cases r; exact ⟨[], by rw [List.zip_nil_right]; rfl, .nil⟩
  | p :: kvs, [], _, _, _, _, _, hk, _, _, _ => by cases hk
  | p :: kvs, e :: ks, _, x, k, v, d, hk, r, hx, q => by
    simp only [keysN] at hk
    obtain ⟨j, k1, hk⟩ := Option.bind_eq_some_iff.mp hk
    obtain ⟨js, k2, hk⟩ := Option.map_eq_some_iff.mp hk
    rw [List.map_cons] at hk
    injection hk with hj hjs
    subst hj hjs
    cases r with
    | @cons _ _ d1 ds1 r1 r2 =>
      obtain ⟨ds', h1, h2⟩ := mapN k2 r2 hx q
      by_cases c : p.1 = k
      · refine ⟨d :: ds', ?_, ?_⟩
        · simp only [List.map_cons, List.zip_cons_cons, eqv_key k1 hx, decide_eq_true c, cond_true, h1]
        · simp only [List.map_cons, if_pos c]; exact .cons q h2
      · refine ⟨d1 :: ds', ?_, ?_⟩
        · simp only [List.map_cons, List.zip_cons_cons, eqv_key k1 hx, decide_eq_false c, cond_false, h1]
        · simp only [List.map_cons, if_neg c]; exact .cons r1 h2
theorem keysN_append : ∀ {ks js : List D} {as bs : List NestedKey}, keysN ks = some as → keysN js = some bs → keysN (ks ++ js) = some (as ++ bs)
  | [], _, _, _, h1, h2 => by cases h1; exact h2
  | d :: ks, js, _, bs, h1, h2 => by
    simp only [keysN] at h1
    obtain ⟨j, k1, h1⟩ := Option.bind_eq_some_iff.mp h1
    obtain ⟨rs, k2, rfl⟩ := Option.map_eq_some_iff.mp h1
    rw [List.cons_append, keysN, k1, keysN_append k2 h2]
    rfl
theorem keysN_length : ∀ {ks : List D} {as : List NestedKey}, keysN ks = some as → ks.length = as.length
  | [], _, h => by cases h; rfl
  | d :: ks, _, h => by
    simp only [keysN] at h
    obtain ⟨j, k1, h⟩ := Option.bind_eq_some_iff.mp h
    obtain ⟨rs, k2, rfl⟩ := Option.map_eq_some_iff.mp h
    simp only [List.length_cons, keysN_length k2]
theorem keys_putN (kvs : List (NestedKey × Addr × V)) (k : NestedKey) (b : Addr) (v : V) : (kvs.map fun p => if p.1 = k then (p.1, p.2.1, v) else p).map (·.1) = kvs.map (·.1) := by
  rw [List.map_map]
  refine List.map_congr_left fun p _ => ?_
  show (if p.1 = k then (p.1, p.2.1, v) else p).1 = p.1
  split <;> rfl
theorem addrs_putN (kvs : List (NestedKey × Addr × V)) (k : NestedKey) (b : Addr) (v : V) : (kvs.map fun p => if p.1 = k then (p.1, p.2.1, v) else p).map (fun p => V.ref p.2.1) = kvs.map fun p => V.ref p.2.1 := by
  rw [List.map_map]
  refine List.map_congr_left fun p _ => ?_
  show V.ref (if p.1 = k then (p.1, p.2.1, v) else p).2.1 = V.ref p.2.1
  split <;> rfl
theorem storeN {kvs : List (NestedKey × Addr × V)} {ks ds : List D} {x : D} {k : NestedKey} {b : Addr} {v : V} {d : D} (hk : keysN ks = some (kvs.map (·.1))) (ra : RepL C S H (kvs.map fun p => V.ref p.2.1) ks) (hd : ∀ p ∈ kvs, p.1.depth ≤ 8) (r : RepL C S H (kvs.map (·.2.2)) ds) (hx : keyN x = some k) (hxd : k.depth ≤ 8) (rx : Rep C S H (.ref b) x) (q : Rep C S H v d) :
    ∃ ks' ds', storeD (ks.zip ds) x d = ks'.zip ds' ∧ keysN ks' = some ((putN kvs k b v).map (·.1)) ∧ RepL C S H ((putN kvs k b v).map fun p => V.ref p.2.1) ks' ∧ (∀ p ∈ putN kvs k b v, p.1.depth ≤ 8) ∧ RepL C S H ((putN kvs k b v).map (·.2.2)) ds' := by
  unfold storeD putN
  rw [anyN hk r hx]
  cases hb : kvs.any fun kv => decide (kv.1 = k) with
  | true =>
    rw [cond_true, if_pos rfl]
    obtain ⟨ds', h1, h2⟩ := mapN hk r hx q
    refine ⟨ks, ds', h1, by rw [keys_putN kvs k b v]; exact hk, by rw [addrs_putN kvs k b v]; exact ra, fun p hp => ?_, h2⟩
    obtain ⟨p', hp', e⟩ := List.mem_map.mp hp
    rw [← e]
    split
    · exact hd p' hp'
    · exact hd p' hp'
  | false =>
    rw [cond_false, if_neg Bool.false_ne_true]
    have hl : ks.length = ds.length := by
      rw [keysN_length hk, ← r.length, List.length_map, List.length_map]
    refine ⟨ks ++ [x], ds ++ [d], ?_, ?_, ?_, fun p hp => ?_, ?_⟩
    · rw [List.zip_append hl]; rfl
    · rw [List.map_append]
      refine keysN_append hk ?_
      simp only [keysN, hx]
      rfl
    · rw [List.map_append]; exact ra.append (.cons rx .nil)
    · rcases List.mem_append.mp hp with h | h
      · exact hd p h
      · rw [List.mem_singleton.mp h]; exact hxd
    · rw [List.map_append]; exact r.append (.cons q .nil)
theorem length_putN (kvs : List (NestedKey × Addr × V)) (k : NestedKey) (b : Addr) (v : V) : (putN kvs k b v).length ≤ kvs.length + 1 := by
  unfold putN
  split
  · rw [List.length_map]; omega
  · rw [List.length_append]; exact Nat.le_refl _
end

/-! ### the dict of tuple keys in the heap -/
abbrev PN (p : NestedKey × Addr × V) (q : NestedKey × Addr × Value) : Prop := p.1 = q.1 ∧ p.2.1 = q.2.1 ∧ RelV p.2.2 q.2.2
theorem pn_val : ∀ {kvs : List (NestedKey × Addr × V)} {xs : List (NestedKey × Addr × Value)} (k : NestedKey), Paired PN kvs xs → RelO (valN kvs k) ((atKey xs k).map (·.2))
  | _, _, _, .nil => trivial
  | p :: kvs, q :: xs, k, .cons h t => by
    by_cases e : p.1 = k
    · have e2 : q.1 = k := h.1 ▸ e
      rw [valN_pos e]
      have z : (atKey (q :: xs) k).map (·.2) = some q.2.2 := by simp [atKey, e2]
      rw [z]
      exact h.2.2
    · have e2 : ¬ q.1 = k := h.1 ▸ e
      rw [valN_neg e]
      have z : (atKey (q :: xs) k).map (·.2) = (atKey xs k).map (·.2) := by simp [atKey, e2]
      rw [z]
      exact pn_val k t
theorem pn_any {kvs : List (NestedKey × Addr × V)} {xs : List (NestedKey × Addr × Value)} (k : NestedKey) (r : Paired PN kvs xs) : (kvs.any fun p => decide (p.1 = k)) = (atKey xs k).isSome := by
  have h : ∀ {kvs : List (NestedKey × Addr × V)}, (kvs.any fun p => decide (p.1 = k)) = (valN kvs k).isSome := by
    intro kvs
    induction kvs with
    | nil => rfl
    | cons p kvs ih =>
      by_cases e : p.1 = k
      · rw [valN_pos e]; simp [e]
      · rw [valN_neg e]; simp [e, ih]
  rw [h, (pn_val k r).isSome_eq, Option.isSome_map]
theorem pn_map : ∀ {kvs : List (NestedKey × Addr × V)} {xs : List (NestedKey × Addr × Value)} (k : NestedKey) {v : V} {u : Value}, RelV v u → Paired PN kvs xs → Paired PN (kvs.map fun p => if p.1 = k then (p.1, p.2.1, v) else p) (xs.map (putAt k u))
  | _, _, _, _, _, _, .nil => .nil
  | p :: kvs, q :: xs, k, v, u, r, .cons h t => by
    refine .cons ?_ (pn_map k r t)
    show PN (if p.1 = k then (p.1, p.2.1, v) else p) (if q.1 = k then (q.1, q.2.1, u) else q)
    by_cases e : p.1 = k
    · have e2 : q.1 = k := h.1 ▸ e
      rw [if_pos e, if_pos e2]
      exact ⟨h.1, h.2.1, r⟩
    · have e2 : ¬ q.1 = k := h.1 ▸ e
      rw [if_neg e, if_neg e2]
      exact h
theorem pn_app : ∀ {kvs kvs' : List (NestedKey × Addr × V)} {xs xs' : List (NestedKey × Addr × Value)}, Paired PN kvs xs → Paired PN kvs' xs' → Paired PN (kvs ++ kvs') (xs ++ xs')
  | _, _, _, _, .nil, q => q
  | _, _, _, _, .cons h t, q => .cons h (pn_app t q)
theorem pn_put {kvs : List (NestedKey × Addr × V)} {xs : List (NestedKey × Addr × Value)} (k : NestedKey) (b : Addr) {v : V} {u : Value} (r : RelV v u) (p : Paired PN kvs xs) : Paired PN (putN kvs k b v) (storedH xs k b u) := by
  unfold putN storedH
  rw [pn_any k p]
  cases (atKey xs k).isSome with
  | true => rw [if_pos rfl, if_pos rfl]; exact pn_map k r p
  | false =>
    rw [if_neg Bool.false_ne_true, if_neg Bool.false_ne_true]
    exact pn_app p (.cons ⟨rfl, rfl, r⟩ .nil)
section
variable {X : Cx} {pins : List (Addr × Obj)} {σ : L2.St} {H : Hp} {s : Shared} {S : Addr → Prop} {a : Addr}
/-- the same, or the thing locked -/
def QL (Q : VK) : VK := fun v H1 => Q v H1 ∨ ∃ (a : Addr) (u : HO), v = .ref a ∧ H1 a = some u ∧ Mut (some u) ∧ ∀ o, Q v (upd H1 a (.frz o u))
theorem ep_lock {Q : VK} {u : Value} {s' : Shared} (h : EP X pins σ (QL Q) u s') : EP X pins σ Q u s' := by
  obtain ⟨v, H1, I1, r, q | ⟨a, w, rfl, e, m, q⟩⟩ := h
  · exact ⟨v, H1, I1, r, q⟩
  · obtain ⟨od, J⟩ := I1.lock e m
    exact ⟨_, _, J, r, q od⟩
theorem wp_lock {Q : VK} {t : Sem Value} {s' : Shared} {E : Value → Shared → Prop} (h : wpAny (model X.prog X.w) X.A t (EP X pins σ (QL Q)) E s') : wpAny (model X.prog X.w) X.A t (EP X pins σ Q) E s' := wpAny_mono h (fun _ _ => ep_lock) fun _ _ x => x
/-- what is read is as it is told -/
theorem rd_ok (I : Inv X pins σ H s) {u : HO} (e : Rd H a u) : ObjOk X.prog X.w H s.heap a u := by
  rcases e with e | ⟨o, e⟩
  · exact I.hok a _ e
  · exact (show _ ∧ ObjOk X.prog X.w H s.heap a u from I.hok a _ e).2
/-- a dict of tuple keys, as the library tells it -/
theorem dictN_at (I : Inv X pins σ H s) {kvs : List (NestedKey × Addr × V)} {ks : List D} (e : Rd H a (nO X.prog X.w a kvs)) (ra : RepL (kt X) S H (kvs.map fun p => V.ref p.2.1) ks) (hk : keysN ks = some (kvs.map (·.1))) (hd : ∀ p ∈ kvs, p.1.depth ≤ 8) :
    (a == sysModules) = false ∧ ∃ xs, Paired PN kvs xs ∧ s.heap.DictOfH (nestedKind X.prog X.w) a xs := by
  obtain ⟨⟨hs, xs, p, o, es, ep, h1, h2, h3, h4, h5⟩, _⟩ := (show ObjOk X.prog X.w H s.heap a (nO X.prog X.w a kvs) from rd_ok I e)
  refine ⟨hs, xs, p, o, es, ep, h1, h2, h3, h4, ?_, h5⟩
  have go : ∀ {kvs : List (NestedKey × Addr × V)} {xs : List (NestedKey × Addr × Value)} {ks : List D}, Paired PN kvs xs → RepL (kt X) S H (kvs.map fun p => V.ref p.2.1) ks → keysN ks = some (kvs.map (·.1)) → (∀ p ∈ kvs, p.1.depth ≤ 8) → ∀ x ∈ xs, (nestedKind X.prog X.w).is s.heap x.1 x.2.1 := by
    intro kvs
    induction kvs with
    | nil => intro xs ks p _ _ _ x hx; cases p; cases hx
    | cons y kvs ih =>
      intro xs ks p ra hk hd x hx
      cases p with
      | @cons _ q _ qs h t =>
        cases ra with
        | @cons _ _ d ks' r1 r2 =>
          simp only [keysN] at hk
          obtain ⟨j, k1, hk⟩ := Option.bind_eq_some_iff.mp hk
          obtain ⟨js, k2, hk⟩ := Option.map_eq_some_iff.mp hk
          rw [List.map_cons] at hk
          injection hk with hj hjs
          subst hj hjs
          rcases List.mem_cons.mp hx with rfl | hx
          · refine ⟨?_, ?_⟩
            · have z := Rep.key I (u := .ref y.2.1) r1 k1 rfl
              rw [← h.1, ← h.2.1]
              exact z
            · rw [← h.1]; exact hd y List.mem_cons_self
          · exact ih t r2 k2 (fun p hp => hd p (List.mem_cons_of_mem _ hp)) x hx
  exact go p ra hk hd
theorem nO_new {P : Program} {w : World} {H : Hp} (h : Heap) (hb : sysModules < h.objs.size) : ObjOk P w H (h.push { cls := .type "dict", data := .dict #[] }) h.objs.size (nO P w h.objs.size []) := by
  have e : (h.push { cls := .type "dict", data := .dict #[] }).get? h.objs.size = some { cls := .type "dict", data := .dict #[] } := Heap.get?_push_size _ rfl
  refine ⟨⟨beq_eq_false_iff_ne.mpr (Nat.ne_of_gt hb), [], .nil, _, #[], 0, e, ⟨rfl, rfl, rfl⟩, rfl, rfl, List.nodup_nil⟩, ⟨_, e⟩, ?_⟩
  rintro h1 h2 ⟨hs, xs, p, o, es, ep, q1, q2⟩ k
  exact ⟨hs, xs, p, o, es, ep, k o q1, q2⟩
theorem nO_ok {P : Program} {w : World} {H : Hp} {h : Heap} {a : Addr} {kvs : List (NestedKey × Addr × V)} {xs : List (NestedKey × Addr × Value)} (hs : (a == sysModules) = false) (p : Paired PN kvs xs) (d : h.DictOfH (nestedKind P w) a xs) : ObjOk P w H h a (nO P w a kvs) := by
  obtain ⟨o, es, ep, h1, h2, h3, h4, _, h5⟩ := d
  refine ⟨⟨hs, xs, p, o, es, ep, h1, h2, h3, h4, h5⟩, ⟨_, h1⟩, ?_⟩
  rintro h1 h2 ⟨hs, xs, p, o, es, ep, q1, q2⟩ k
  exact ⟨hs, xs, p, o, es, ep, k o q1, q2⟩

/-- what a look into the dict at a gives -/
structure Look (X : Cx) (pins : List (Addr × Obj)) (σ : L2.St) (H : Hp) (s : Shared) (a : Addr) (u : Value) (r : Option V) : Prop where
  ins : ∀ (Q : Value → Shared → Prop) (E : Value → Shared → Prop), (∀ s', Inv X pins σ H s' → Q (.bool r.isSome) s') → wpAny (model X.prog X.w) X.A (compareOp .In u (.ref a)) Q E s
  nin : ∀ (Q : Value → Shared → Prop) (E : Value → Shared → Prop), (∀ s', Inv X pins σ H s' → Q (.bool (!r.isSome)) s') → wpAny (model X.prog X.w) X.A (compareOp .NotIn u (.ref a)) Q E s
  get : ∀ (v : V) (Q : Value → Shared → Prop) (E : Value → Shared → Prop), r = some v → (∀ w' s', Inv X pins σ H s' → RelV v w' → Q w' s') → wpAny (model X.prog X.w) X.A (getItem (.ref a) u) Q E s
  get1 : ∀ (Q : Value → Shared → Prop) (E : Value → Shared → Prop), (∀ w' s', Inv X pins σ H s' → RelV (r.getD .non) w' → Q w' s') → wpAny (model X.prog X.w) X.A (call (.builtin "dict.get") [.ref a, u]) Q E s
  get2 : ∀ (v : V) (w : Value) (Q : Value → Shared → Prop) (E : Value → Shared → Prop), RelV v w → (∀ w' s', Inv X pins σ H s' → RelV (r.getD v) w' → Q w' s') → wpAny (model X.prog X.w) X.A (call (.builtin "dict.get") [.ref a, u, w]) Q E s
  ty : s.TypeIs (.ref a) "dict"
theorem tupK_of {x : D} (h : tupK x = true) : ∃ ds k, x = .tuple ds ∧ keyN x = some k ∧ k.depth ≤ 8 := by
  cases x with
  | tuple ds =>
    unfold tupK at h
    simp only at h
    cases e : keyN (.tuple ds) with
    | none => rw [e] at h; cases h
    | some k => rw [e] at h; exact ⟨ds, k, rfl, rfl, of_decide_eq_true h⟩
  | _ => cases h
theorem dictLook_K {kvs : List (Key × V)} {ds : List D} (x : D) : dictLook ((kvs.map fun p => keyOfD p.1).zip ds) x = cond (atomK x) (some (lookD ((kvs.map fun p => keyOfD p.1).zip ds) x)) none := by
  cases kvs with
  | nil => rfl
  | cons p kvs =>
    cases ds with
    | nil => rfl
    | cons d ds =>
      obtain ⟨k, v⟩ := p
      cases k <;> rfl
theorem dictStore_K {kvs : List (Key × V)} {ds : List D} (x v : D) : dictStore ((kvs.map fun p => keyOfD p.1).zip ds) x v = gd (atomK x) (storeD ((kvs.map fun p => keyOfD p.1).zip ds) x v) := by
  cases kvs with
  | nil => rfl
  | cons p kvs =>
    cases ds with
    | nil => rfl
    | cons d ds =>
      obtain ⟨k, v⟩ := p
      cases k <;> rfl
theorem dictBody_K {kvs : List (Key × V)} {ds : List D} : dictBody ((kvs.map fun p => keyOfD p.1).zip ds) = (kvs.map fun p => keyOfD p.1).zip ds := by
  cases kvs with
  | nil => rfl
  | cons p kvs =>
    cases ds with
    | nil => rfl
    | cons d ds =>
      obtain ⟨k, v⟩ := p
      cases k <;> rfl
theorem atomK_of {x : D} (h : atomK x = true) : ∃ k : Key, x = keyOfD k := by
  cases x with
  | int i => exact ⟨.inl i, rfl⟩
  | str z => exact ⟨.inr z, rfl⟩
  | _ => cases h
theorem rep_keyOfD {C : Kt} {y : V} {k : Key} (r : Rep C S H y (keyOfD k)) : y = kV k := by
  cases k with
  | inl i => exact r.int_of
  | inr z => exact r.str_of
theorem look_run (hu : X.A.units + 20 < cLine) (I : Inv X pins σ H s) {S' : Addr → Prop} {ps : List (D × D)} (da : DictAt (kt X) S H a ps) {y : V} {x : D} {u : Value} (rx : Rep (kt X) S' H y x) (ry : RelV y u) {o : Option D} (e : dictLook ps x = some o) :
    ∃ r : Option V, RepO (kt X) S H r o ∧ Look X pins σ H s a u r := by
  cases da with
  | @k kvs ds h z hv =>
    rw [dictLook_K] at e
    cases ha : atomK x with
    | false => rw [ha] at e; cases e
    | true =>
      rw [ha] at e
      cases e
      obtain ⟨k, rfl⟩ := atomK_of ha
      cases rep_keyOfD rx
      have g : DGet H a (kV k) (valV kvs k) := .inl ⟨kvs, k, h, rfl, rfl⟩
      refine ⟨valV kvs k, lookK k hv, fun Q E q => d_in (by omega) I g ry q, fun Q E q => d_notIn (by omega) I g ry q, fun v Q E hr q => d_getItem (by omega) I (by rw [← hr]; exact g) ry q, fun Q E q => d_get1 (by omega) I g ry q, fun v w Q E rw' q => d_get2 (by omega) I g ry rw' q, dict_typeIs I g⟩
  | @n kvs ks ds h z ra hk hd hv =>
    have e' : cond (tupK x) (some (lookD (ks.zip ds) x)) none = some o := e
    cases ha : tupK x with
    | false => rw [ha] at e'; cases e'
    | true =>
      rw [ha] at e'
      cases e'
      obtain ⟨es, k, rfl, hk', hd'⟩ := tupK_of ha
      obtain ⟨b, xs, rfl, hb, zb, rb⟩ := rx.tuple_of
      have rx' : Rep (kt X) S' H (.ref b) (.tuple es) := rx
      cases ry
      obtain ⟨hs, ys, p, dd⟩ := dictN_at I h ra hk hd
      have key : (nestedKind X.prog X.w).is s.heap k b := ⟨Rep.key I rx' hk' rfl, hd'⟩
      have kd : s.heap.DictKeyed (nestedKind X.prog X.w) a (pairsH ys) := ⟨ys, dd, rfl⟩
      have rel := pn_val k p
      have ev : valueAt (pairsH ys) k = (atKey ys k).map (·.2) := valueAt_pairsH ys k
      have room : (nestedKind X.prog X.w).room X.A.in1 := by show X.A.units + 1 + 8 < cLine; omega
      refine ⟨valN kvs k, lookN hk hv hk', fun Q E q => ?_, fun Q E q => ?_, fun v Q E hr q => ?_, fun Q E q => ?_, fun v w Q E rw' q => ?_, kd.typeIs⟩
      · refine in_keyed room key hs kd ?_
        rw [ev, ← rel.isSome_eq]
        exact q _ (I.tok _)
      · refine notIn_keyed room key hs kd ?_
        rw [ev, ← rel.isSome_eq]
        exact q _ (I.tok _)
      · rw [hr] at rel
        obtain ⟨w', hw, rw'⟩ := rel.some_of
        exact getItem_keyed room key kd (by rw [ev]; exact hw) (q w' _ (I.tok _) rw')
      · refine get_keyed room key hs kd ?_
        rw [ev]
        exact q _ _ (I.tok _) (rel.getD rfl)
      · refine getOr_keyed room key hs kd ?_
        rw [ev]
        exact q _ _ (I.tok _) (rel.getD rw')
/-- d[x] = v, the dict at a being of S -/
theorem store_run (hu : X.A.units + 20 < cLine) (I : Inv X pins σ H s) {ps ps' : List (D × D)} (hS : S a) (da : DictAt (kt X) S H a ps) (un : Fre H a) {y w : V} {x d : D} {u r : Value} (rx : Rep (kt X) S H y x) (ry : RelV y u) (rd : Rep (kt X) S H w d) (rw' : RelV w r) (e : dictStore ps x d = some ps') (hl : ps.length < lim)
    {Q : Unit → Shared → Prop} {E : Value → Shared → Prop} (q : ∀ s' o', Mu o' → Inv X pins σ (upd H a o') s' → DictAt (kt X) S (upd H a o') a ps' ∧ Fre (upd H a o') a → Q () s') : wpAny (model X.prog X.w) X.A (setItem (.ref a) u r) Q E s := by
  have ls := lim_lt
  obtain ⟨o0, h0, m0, _⟩ := un
  have kp : ∀ o', Keep S H (upd H a o') := fun o' b o hb n => by
    by_cases z : b = a
    · subst z
      rw [h0] at hb; cases hb
      exact absurd ⟨hS, m0⟩ n
    · rw [upd_ne z]; exact hb
  cases da with
  | @k kvs ds h z hv =>
    rw [dictStore_K] at e
    obtain ⟨ha, rfl⟩ := gd_some e
    obtain ⟨k, rfl⟩ := atomK_of ha
    cases rep_keyOfD rx
    have hlen : kvs.length < sizeLine := by
      rw [List.length_zip, List.length_map, ← hv.length, List.length_map] at hl
      omega
    obtain ⟨ds', h1, h2⟩ := storeK (k := k) hv rd
    have h : H a = some (.dK kvs) := by
      rcases h with h | ⟨o, h⟩
      · exact h
      · rw [h0] at h; cases h; exact absurd rfl (m0.2 _ _)
    refine d_setItem (by omega) I (.k h hlen) ry rw' fun s' I' => q s' _ .dK I' ?_
    rw [h1]
    exact ⟨.k (.inl upd_same) (by have := length_putK kvs k w; omega) (h2.keep (kp _) fun _ z => z), .dK upd_same⟩
  | @n kvs ks ds h z ra hk hd hv =>
    have e' : gd (tupK x) ((.none, .none) :: storeD (ks.zip ds) x d) = some ps' := e
    obtain ⟨ha, rfl⟩ := gd_some e'
    obtain ⟨es, k, rfl, hk', hd'⟩ := tupK_of ha
    obtain ⟨b, xs, rfl, hb, zb, rb⟩ := rx.tuple_of
    cases ry
    obtain ⟨hs, ys, p, dd⟩ := dictN_at I h ra hk hd
    have key : (nestedKind X.prog X.w).is s.heap k b := ⟨Rep.key I rx hk' rfl, hd'⟩
    have room : (nestedKind X.prog X.w).room X.A.in1 := by show X.A.units + 1 + 8 < cLine; omega
    have hlen : kvs.length < sizeLine := by
      rw [List.length_cons, List.length_zip, keysN_length hk, ← hv.length, List.length_map, List.length_map] at hl
      omega
    have hz : ys.length ≤ sizeLine := by rw [← Paired.length p]; omega
    have h : H a = some (nO X.prog X.w a kvs) := by
      rcases h with h | ⟨o, h⟩
      · exact h
      · rw [h0] at h; cases h; exact absurd rfl (m0.2 _ _)
    obtain ⟨ks', ds', h1, h2, h3, h4, h5⟩ := storeN (b := b) hk ra hd hv hk' hd' rx rd
    refine wpAny_setItem_heap (hsz := hz) room key dd fun h' dd' hsb => q _ (nO X.prog X.w a (putN kvs k b w)) .nO ?_ ?_
    · have he : ∃ q, h'.get? a = some q := let ⟨q, _, _, hq, _⟩ := dd'; ⟨q, hq⟩
      exact d_write I (by rw [h]; exact True.intro) hsb he (nO_ok hs (pn_put k b rw' p) dd')
    · rw [h1]
      exact ⟨.n (.inl upd_same) (by have := length_putN kvs k b w; omega) (h3.keep (kp _) fun _ z => z) h2 h4 (h5.keep (kp _) fun _ z => z), .nO upd_same⟩
end
end PI
end
section
/-! The operators, by what the values stand for. -/
namespace PI
open PySem PySem.Spec PyProof.Rows L2
/-- what is wanted of a value that stands for d -/
def PostV (C : Kt) (S : Addr → Prop) (H : Hp) (Q : VK) (d : D) : Prop := ∀ v H', Same H H' → Rep C S H' v d → Q v H'
section
variable {C : Kt} {S : Addr → Prop} {H : Hp} {Q : VK}
theorem Trk.no {p : Addr} (t : Trk S H) (h : H p = none) : ¬ S p := fun q => by
  obtain ⟨o, e⟩ := t p q
  rw [h] at e; cases e
theorem PostV.atom {d : D} (h : PostV C S H Q d) {v : V} (r : Rep C S H v d) : Q v H := h v H (Same.refl H) r
theorem PostV.newL (h : PostV C S H Q (.list ds)) (t : Trk S H) {p : Addr} {xs : List V} (hp : H p = none) (z : xs.length ≤ sizeLine) (r : RepL C S H xs ds) : Q (.ref p) (upd H p (.lst xs)) :=
  h _ _ (Same.upd hp) (.lst (t.no hp) (.inl upd_same) z (r.upd hp))
theorem PostV.newT (h : PostV C S H Q (.tuple ds)) {p : Addr} {xs : List V} (hp : H p = none) (z : xs.length ≤ sizeLine) (r : RepL C S H xs ds) : Q (.ref p) (upd H p (.tup xs)) :=
  h _ _ (Same.upd hp) (.tup (SqT.of upd_same) z (r.upd hp))
end
section
variable {X : Cx} {pins : List (Addr × Obj)} {σ : L2.St} {H : Hp} {s : Shared}
theorem lstR (I : Inv X pins σ H s) {l : Addr} {xs : List V} (h : Rd H l (.lst xs)) : xs.length ≤ sizeLine ∧ ∃ (its : List Value) (n : Nat), Vals xs its ∧ xs.length = its.length ∧ s.heap.get? l = some { cls := .type "list", data := .seq its.toArray n } := by
  obtain ⟨z, its, n, r, e⟩ := (show ObjOk X.prog X.w H s.heap l (.lst xs) from h.ok I.hok)
  exact ⟨z, its, n, r, r.length, e⟩
theorem Rep.reads (I : Inv X pins σ H s) {S : Addr → Prop} {d : D} {v : V} {u : Value} (r : Rep (kt X) S H v d) (h : d.canLay0 = true) (rv : RelV v u) : ∃ as, Reads s.heap u d as := Dp.reads I d v u (r.dp h) rv

theorem RepB.reads (I : Inv X pins σ H s) {S : Addr → Prop} {d : D} {v : V} {u : Value} (r : RepB (kt X) S H v d) (h : d.canLay0 = true) (rv : RelV v u) : ∃ as, Reads s.heap u d as := Dp.reads I d v u (r.dp h) rv

/-! ### + - * // % ** -/
def rBin (C : Kt) (o : BOp) : R2 := fun x y H Q => ∃ S d1 d2 d, Trk S H ∧ Rep C S H x d1 ∧ Rep C S H y d2 ∧ binD o d1 d2 = some d ∧ PostV C S H Q d
def opOf : BOp → Operator
  | .add => .Add | .sub => .Sub | .mul => .Mult | .fdiv => .FloorDiv | .mod => .Mod | .pow => .Pow
theorem op_catR {C : Kt} : OpR X (binaryOp .Add) (fun x y H Q => ∃ l b xs zs, x = .ref l ∧ y = .ref b ∧ Rd H l (.lst xs) ∧ Rd H b (.lst zs) ∧ xs.length + zs.length ≤ sizeLine ∧ ∀ p, H p = none → Q (.ref p) (upd H p (.lst (xs ++ zs)))) := by
  intro pins s σ H x y v u Q I rx ry h
  obtain ⟨l, b, xs, zs, rfl, rfl, hH, hB, hz, q⟩ := h
  cases rx
  cases ry
  obtain ⟨z, its, n, r, hl, e⟩ := lstR I hH
  obtain ⟨z2, its2, n2, r2, hl2, e2⟩ := lstR I hB
  refine PySem.P.add_list e e2 ?_ (by rw [List.size_toArray, List.size_toArray]; omega)
  have ea : its.toArray ++ its2.toArray = (its ++ its2).toArray := by simp
  rw [ea]
  exact ⟨.ref _, _, I.lnew (t' := s.toks) (r.append r2) (by rw [List.length_append]; omega), rfl, q _ I.fresh⟩
theorem op_repR {C : Kt} : OpR X (binaryOp .Mult) (fun x y H Q => ∃ l k xs, x = .ref l ∧ y = .int k ∧ Rd H l (.lst xs) ∧ -(2 ^ 63) ≤ k ∧ k < 2 ^ 63 ∧ xs.length * k.toNat ≤ sizeLine ∧
    ∀ p, H p = none → Q (.ref p) (upd H p (.lst (List.replicate k.toNat xs).flatten))) := by
  intro pins s σ H x y v u Q I rx ry h
  obtain ⟨l, k, xs, rfl, rfl, hH, h1, h2, hz, q⟩ := h
  cases rx
  obtain ⟨t, rfl⟩ := ry
  obtain ⟨z, its, n, r, hl, e⟩ := lstR I hH
  have hlen : its.toArray.size * k.toNat ≤ sizeLine := by rw [List.size_toArray, ← hl]; exact hz
  have hcap : ¬ its.toArray.size * k.toNat > (2 ^ 63 - 1) / 8 := by
    have : (sizeLine : Nat) ≤ (2 ^ 63 - 1) / 8 := by decide
    omega
  have hfit : ¬ (!Builtin.List.listFitsIndex k) = true := by
    rw [fitsIndex_both h1 h2]
    exact Bool.false_ne_true
  have hlong : ¬ Builtin.List.listTooLong (its.toArray.size * k.toNat) = true := by
    rw [notLongL hlen]
    exact Bool.false_ne_true
  have hnew : List.foldl (fun x1 x2 => x1 ++ x2) #[] (List.replicate (if its.toArray.isEmpty = true then 0 else k.toNat) its.toArray) = (List.replicate k.toNat its).flatten.toArray := by
    have f0 : ∀ m : Nat, List.foldl (fun x1 x2 => x1 ++ x2) #[] (List.replicate m its.toArray) = (List.replicate m its).flatten.toArray := fun m => by
      have := foldl_rep its m []
      rw [List.nil_append] at this
      exact this
    rw [f0]
    cases its with
    | nil => simp
    | cons a r' => rw [if_neg (by simp)]
  refine wpAny_binaryOp_repeat_ref (T := "list") (U := "int") (by decide) ⟨_, e, rfl⟩ (fun s' => typeIs_int s' k t) noFill_list_mul F.fills_int_mul F.slot_int_rmul repeat_list F.slot_int_index.lookup
    (call_meets F.slot_int_rmul (typeIs_int s k t) F.entry_int_rmul (F.args_int_rmul_2 _ _) (int___rmul___int_list k t l its.toArray n)
      ⟨e, rfl, ⟨_, e, rfl⟩, call_meets F.slot_list_mul ⟨_, e, rfl⟩ F.entry_list_mul (F.args_list_mul_2 _ _) (AutoListH.list___mul___list_int_3 l its.toArray n k t hfit hcap hlong) ⟨e, ?_⟩⟩)
  rw [hnew]
  exact ⟨.ref _, _, I.lnew (t' := s.toks) (r.rep k.toNat) (by rw [PyProof.Rows.lm_len_rep_flat, Nat.mul_comm]; exact hz), rfl, q _ I.fresh⟩
theorem tuple_mulS (l : Addr) (items : Array Value) (n : Nat) (dd : Option Addr) (sl : Array (Option Value)) (x : Int) (u : Tok) (c0 : (decide (x < -(2 ^ 63)) || decide (x ≥ 2 ^ 63)) = false) (c1 : (items.isEmpty || x == 1) = true) :
    Meets (Builtin.«tuple.__mul__» ⟨[.ref l, .int x u], []⟩) (fun _ R s => s.heap.get? l = some { cls := .type "tuple", dict := dd, data := .seq items n, slots := sl } ∧ R (.ok (.ret (Value.ref l))) s) :=
  .of_wp fun prog w A R s h => by
    obtain ⟨hp, g, d, tk, os⟩ := s
    obtain ⟨hl, h⟩ := h
    have f1 := AutoSeq1.idx_int
    wp_walk using wpAny_loadPart' hl
    repeat (first
      | (refine wpAny_ite_false (decide_eq_false (by rw [c0]; exact Bool.false_ne_true)) ?_; wp_walk using wpAny_loadPart' hl)
      | (refine wpAny_ite_true (decide_eq_true c1) ?_; wp_walk using wpAny_loadPart' hl))
    exact ⟨_, rfl, h⟩
theorem tuple_mulZ (l : Addr) (items : Array Value) (n : Nat) (dd : Option Addr) (sl : Array (Option Value)) (x : Int) (u : Tok) (c0 : (decide (x < -(2 ^ 63)) || decide (x ≥ 2 ^ 63)) = false) (c1 : (items.isEmpty || x == 1) = false) (c2 : (decide (x ≤ 0) || items.isEmpty) = true) :
    Meets (Builtin.«tuple.__mul__» ⟨[.ref l, .int x u], []⟩) (fun _ R s => s.heap.get? l = some { cls := .type "tuple", dict := dd, data := .seq items n, slots := sl } ∧
      R (.ok (.ret (Value.ref s.heap.objs.size))) { s with heap := s.heap.push { cls := Value.type "tuple", data := Data.seq #[] }, toks := s.toks }) :=
  .of_wp fun prog w A R s h => by
    obtain ⟨hp, g, d, tk, os⟩ := s
    obtain ⟨hl, h⟩ := h
    have f1 := AutoSeq1.idx_int
    wp_walk using wpAny_loadPart' hl
    repeat (first
      | (refine wpAny_ite_false (decide_eq_false (by rw [c0]; exact Bool.false_ne_true)) ?_; wp_walk using wpAny_loadPart' hl)
      | (refine wpAny_ite_false (decide_eq_false (by rw [c1]; exact Bool.false_ne_true)) ?_; wp_walk using wpAny_loadPart' hl)
      | (refine wpAny_ite_true (decide_eq_true c2) ?_; wp_walk using wpAny_loadPart' hl)
      | (refine wpAny_ite_false (decide_eq_false (Nat.not_lt.mpr (Nat.zero_le _))) ?_; wp_walk using wpAny_loadPart' hl))
    exact ⟨_, rfl, h⟩
theorem repL_one {α : Type} {xs : List α} {k : Int} (h : xs = [] ∨ k = 1) : repL xs k.toNat = xs := by
  unfold repL
  rcases h with rfl | rfl
  · induction k.toNat with
    | zero => rfl
    | succ n ih => rw [List.replicate_succ, List.flatten_cons, List.nil_append]; exact ih
  · simp
theorem op_repTX : OpR X (binaryOp .Mult) (fun x y H Q => ∃ l k xs, x = .ref l ∧ y = .int k ∧ SqT X.K H l xs ∧ 0 ≤ k ∧ k ≤ 1000 ∧ xs.length ≤ 1000 ∧ (xs = [] ∨ k = 1 → Q (.ref l) H) ∧ ∀ p, H p = none → Q (.ref p) (upd H p (.tup (List.replicate k.toNat xs).flatten))) := by
  intro pins s σ H x y v u Q I rx ry h
  obtain ⟨l, k, xs, rfl, rfl, hT, h1, h2, hz, q1, q2⟩ := h
  by_cases hself : xs = [] ∨ k = 1
  · cases rx
    obtain ⟨t, rfl⟩ := ry
    obtain ⟨its, r, ⟨⟨cls, dd, data, sl⟩, ho, hc, n, hd⟩, hs⟩ := I.tuple hT
    simp only at hc hd
    subst hc hd
    have c0 : (decide (k < -(2 ^ 63)) || decide (k ≥ 2 ^ 63)) = false := by
      rw [decide_eq_false (by omega), decide_eq_false (by omega)] <;> rfl
    have c1 : (its.toArray.isEmpty || k == 1) = true := by
      rcases hself with rfl | rfl
      · cases r; rfl
      · simp
    refine wpAny_binaryOp_repeat_ref (T := "tuple") (U := "int") (by decide) ⟨_, ho, rfl⟩ (fun s' => typeIs_int s' k t) noFill_tuple_mul F.fills_int_mul F.slot_int_rmul repeat_tuple F.slot_int_index.lookup
      (call_meets F.slot_int_rmul (typeIs_int s k t) F.entry_int_rmul (F.args_int_rmul_2 _ _) (int_rmul_tuple k t l its.toArray n dd sl)
        ⟨ho, rfl, ⟨_, ho, rfl⟩, call_meets F.slot_tuple_mul ⟨_, ho, rfl⟩ F.entry_tuple_mul (F.args_tuple_mul_2 _ _) (tuple_mulS l its.toArray n dd sl k t c0 c1) ⟨ho, ?_⟩⟩)
    exact ⟨.ref l, H, I, rfl, q1 hself⟩
  · by_cases hk : 2 ≤ k
    · exact op_repT pins s σ H _ _ v u Q I rx ry ⟨l, k, xs, rfl, rfl, hT, fun e => hself (.inl e), hk, h2, hz, q2⟩
    · have hk0 : k = 0 := by
        have : k ≠ 1 := fun e => hself (.inr e)
        omega
      subst hk0
      cases rx
      obtain ⟨t, rfl⟩ := ry
      obtain ⟨its, r, ⟨⟨cls, dd, data, sl⟩, ho, hc, n, hd⟩, hs⟩ := I.tuple hT
      simp only at hc hd
      subst hc hd
      have hi : its.toArray.isEmpty = false := by
        cases r with
        | nil => exact absurd (.inl rfl) hself
        | cons _ _ => rfl
      have c1 : (its.toArray.isEmpty || (0 : Int) == 1) = false := by rw [hi]; rfl
      have c2 : (decide ((0 : Int) ≤ 0) || its.toArray.isEmpty) = true := by rw [hi]; rfl
      refine wpAny_binaryOp_repeat_ref (T := "tuple") (U := "int") (by decide) ⟨_, ho, rfl⟩ (fun s' => typeIs_int s' 0 t) noFill_tuple_mul F.fills_int_mul F.slot_int_rmul repeat_tuple F.slot_int_index.lookup
        (call_meets F.slot_int_rmul (typeIs_int s 0 t) F.entry_int_rmul (F.args_int_rmul_2 _ _) (int_rmul_tuple 0 t l its.toArray n dd sl)
          ⟨ho, rfl, ⟨_, ho, rfl⟩, call_meets F.slot_tuple_mul ⟨_, ho, rfl⟩ F.entry_tuple_mul (F.args_tuple_mul_2 _ _) (tuple_mulZ l its.toArray n dd sl 0 t rfl c1 c2) ⟨ho, ?_⟩⟩)
      refine ⟨.ref s.heap.objs.size, _, I.laid (t' := s.toks) (o := .tup []) (fun b ob q => Heap.get?_push_of_some _ q) (Nat.le_refl _) ?_, rfl, q2 _ (I.hok.fresh (Nat.le_refl _))⟩
      exact ⟨Nat.zero_le _, [], .nil, IsTup.new _ _⟩
theorem smallI_ok {i : Int} (h : smallI i = true) : -(2 ^ 64) < i ∧ i < 2 ^ 64 := of_decide_eq_true h
theorem op_bin (o : BOp) : OpR X (binaryOp (opOf o)) (rBin (kt X) o) := by
  intro pins s σ H x y v u Q I rx ry h
  obtain ⟨S, d1, d2, d, tr, r1, r2, e, q⟩ := h
  have ls := lim_lt
  cases o with
  | add =>
    cases d1 with
    | int i =>
      cases d2 with
      | int j =>
        cases r1.int_of; cases r2.int_of; cases e
        exact op_add pins s σ H _ _ v u Q I rx ry ⟨i, j, rfl, rfl, q.atom (.int _)⟩
      | _ => cases e
    | str a =>
      cases d2 with
      | str b =>
        cases r1.str_of; cases r2.str_of
        obtain ⟨g, rfl⟩ := gd_some e
        have g := of_decide_eq_true g
        exact op_add_str pins s σ H _ _ v u Q I rx ry ⟨a, b, rfl, rfl, by omega, q.atom (.str _)⟩
      | _ => cases e
    | tuple ds =>
      cases d2 with
      | tuple es =>
        obtain ⟨a, xs, rfl, ha, za, ra⟩ := r1.tuple_of
        obtain ⟨b, ys, rfl, hb, zb, rb⟩ := r2.tuple_of
        obtain ⟨g, rfl⟩ := gd_some e
        have g := of_decide_eq_true g
        have la := ra.length
        have lb := rb.length
        refine op_catA pins s σ H _ _ v u Q I rx ry ⟨a, b, xs, ys, rfl, rfl, ha, hb, by omega, fun h => ?_, fun h1 h2 => ?_, fun h1 h2 p hp => ?_⟩
        · subst h
          cases ra
          exact q.atom (by simpa using r2)
        · subst h2
          cases rb
          exact q.atom (by simpa using r1)
        · exact q.newT hp (by rw [List.length_append]; omega) (ra.append rb)
      | _ => cases e
    | list ds =>
      cases d2 with
      | list es =>
        obtain ⟨a, xs, rfl, na, ha, za, ra⟩ := r1.list_of
        obtain ⟨b, ys, rfl, nb, hb, zb, rb⟩ := r2.list_of
        obtain ⟨g, rfl⟩ := gd_some e
        have g := of_decide_eq_true g
        have la := ra.length
        have lb := rb.length
        exact op_catR (C := kt X) pins s σ H _ _ v u Q I rx ry ⟨a, b, xs, ys, rfl, rfl, ha, hb, by omega, fun p hp => q.newL tr hp (by rw [List.length_append]; omega) (ra.append rb)⟩
      | _ => cases e
    | _ => cases d2 <;> cases e
  | sub =>
    cases d1 with
    | int i =>
      cases d2 with
      | int j =>
        cases r1.int_of; cases r2.int_of; cases e
        exact op_sub pins s σ H _ _ v u Q I rx ry ⟨i, j, rfl, rfl, q.atom (.int _)⟩
      | _ => cases e
    | _ => cases d2 <;> cases e
  | mul =>
    cases d1 with
    | int i =>
      cases d2 with
      | int j =>
        cases r1.int_of; cases r2.int_of
        obtain ⟨g, rfl⟩ := gd_some e
        have g' : CMul i j := by
          rcases Bool.or_eq_true_iff.mp g with g | g
          · exact .inl (smallI_ok g)
          · exact .inr (smallI_ok g)
        exact op_mul pins s σ H _ _ v u Q I rx ry ⟨i, j, rfl, rfl, g', q.atom (.int _)⟩
      | _ => cases e
    | list ds =>
      cases d2 with
      | int k =>
        obtain ⟨a, xs, rfl, na, ha, za, ra⟩ := r1.list_of
        cases r2.int_of
        obtain ⟨g, rfl⟩ := gd_some e
        have g := of_decide_eq_true g
        have la := ra.length
        have hm : xs.length * k.toNat ≤ 1000 * 1000 := Nat.mul_le_mul (by omega) (by omega)
        have hs := sizeLine_eq
        exact op_repR (C := kt X) pins s σ H _ _ v u Q I rx ry ⟨a, k, xs, rfl, rfl, ha, by omega, by omega, by omega, fun p hp => q.newL tr hp (by rw [PyProof.Rows.lm_len_rep_flat, Nat.mul_comm]; omega) (ra.rep k.toNat)⟩
      | _ => cases e
    | str z =>
      cases d2 with
      | int k =>
        cases r1.str_of; cases r2.int_of
        obtain ⟨g, rfl⟩ := gd_some e
        have g := of_decide_eq_true g
        obtain ⟨t, rfl⟩ := rx
        obtain ⟨t', rfl⟩ := ry
        refine PySem.SB.mul ⟨?_, fun h1 _ h3 => ?_, fun h1 _ => ?_⟩ fun t2 k2 => ⟨.str _, H, I.tok _, ⟨_, rfl⟩, q.atom (.str _)⟩
        · rw [Bool.or_eq_false_iff]
          exact ⟨decide_eq_false (by omega), decide_eq_false (by omega)⟩
        · have : (1000 : Int) ≤ (2 ^ 63 - 1) / k := by
            rw [Int.le_ediv_iff_mul_le (by omega)]
            omega
          omega
        · have hm : z.length * k.toNat ≤ 1000 * 1000 := Nat.mul_le_mul (by omega) (by omega)
          show decide _ = false
          exact decide_eq_false (by have := sizeLine_eq; omega)
      | _ => cases e
    | tuple ds =>
      cases d2 with
      | int k =>
        obtain ⟨a, xs, rfl, ha, za, ra⟩ := r1.tuple_of
        cases r2.int_of
        obtain ⟨g, rfl⟩ := gd_some e
        have g := of_decide_eq_true g
        have la := ra.length
        exact op_repTX pins s σ H _ _ v u Q I rx ry ⟨a, k, xs, rfl, rfl, ha, g.1, g.2.1, by omega, fun e => q.atom (by rw [repL_one (e.imp (fun z => by subst z; cases ra; rfl) id)]; exact r1), fun p hp => q.newT hp (by rw [PyProof.Rows.lm_len_rep_flat]; have hm : k.toNat * xs.length ≤ 1000 * 1000 := Nat.mul_le_mul (by omega) (by omega); have hs := sizeLine_eq; omega) (ra.rep k.toNat)⟩
      | _ => cases e
    | _ => cases d2 <;> cases e
  | fdiv =>
    cases d1 with
    | int i =>
      cases d2 with
      | int j =>
        cases r1.int_of; cases r2.int_of
        obtain ⟨g, rfl⟩ := gd_some e
        have g := of_decide_eq_true g
        exact op_fdiv pins s σ H _ _ v u Q I rx ry ⟨i, j, rfl, rfl, g, q.atom (.int _)⟩
      | _ => cases e
    | _ => cases d2 <;> cases e
  | mod =>
    cases d1 with
    | int i =>
      cases d2 with
      | int j =>
        cases r1.int_of; cases r2.int_of
        obtain ⟨g, rfl⟩ := gd_some e
        have g := of_decide_eq_true g
        exact op_mod pins s σ H _ _ v u Q I rx ry ⟨i, j, rfl, rfl, g, q.atom (.int _)⟩
      | _ => cases e
    | _ => cases d2 <;> cases e
  | pow =>
    cases d1 with
    | int i =>
      cases d2 with
      | int j =>
        cases r1.int_of; cases r2.int_of
        obtain ⟨g, rfl⟩ := gd_some e
        have g := of_decide_eq_true g
        exact op_pow pins s σ H _ _ v u Q I rx ry ⟨i, j, rfl, rfl, g, q.atom (.int _)⟩
      | _ => cases e
    | _ => cases d2 <;> cases e

/-! ### - -/
theorem op_negD : UnR X (unaryOp .USub) (fun x H Q => ∃ S d e, Rep (kt X) S H x d ∧ negD d = some e ∧ PostV (kt X) S H Q e) := by
  intro pins s σ H x v Q I rx h
  obtain ⟨S, d, e, r, hd, q⟩ := h
  cases d with
  | int i => cases r.int_of; cases hd; exact un_neg pins s σ H _ v Q I rx ⟨i, rfl, q.atom (.int _)⟩
  | _ => cases hd

/-! ### comparisons -/
def rCmp (C : Kt) (o : COp) : R2 := fun x y H Q => ∃ S d1 d2 b, Rep C S H x d1 ∧ Rep C S H y d2 ∧ cmpD o d1 d2 = some b ∧ Q (.bl b) H
def cmpOf : COp → CmpOp
  | .eq => .Eq | .ne => .NotEq | .lt => .Lt | .le => .LtE | .gt => .Gt | .ge => .GtE | .isN => .Is | .notN => .IsNot | .inn => .In | .nin => .NotIn | .isB _ => .Is | .notB _ => .IsNot
theorem noneOf {S : Addr → Prop} {C : Kt} {x : V} {d : D} (r : Rep C S H x d) : decide (x = .non) = isNone d := by cases r <;> rfl
theorem eq_case {a b : D} {c : Bool} (h : eqD a b = some c) : (∃ i j, a = .int i ∧ b = .int j ∧ c = decide (i = j)) ∨ (∃ x y, a = .str x ∧ b = .str y ∧ c = decide (x = y)) ∨ (a = .none ∧ b = .none ∧ c = true) ∨ (SeqAt.shaped a = true ∧ SeqAt.shaped b = true ∧ c = PyData.eqv a b) := by
  unfold eqD at h
  split at h
  · cases h; exact .inl ⟨_, _, rfl, rfl, rfl⟩
  · cases h; exact .inr (.inl ⟨_, _, rfl, rfl, rfl⟩)
  · cases h; exact .inr (.inr (.inl ⟨rfl, rfl, rfl⟩))
  · obtain ⟨g, rfl⟩ := gd_some h
    obtain ⟨g1, g2⟩ := Bool.and_eq_true_iff.mp g
    exact .inr (.inr (.inr ⟨g1, g2, rfl⟩))
theorem dec_intV (i j : Int) : decide (V.int i = V.int j) = decide (i = j) := by by_cases h : i = j <;> simp [h]
theorem dec_strV (i j : Str) : decide (V.str i = V.str j) = decide (i = j) := by by_cases h : i = j <;> simp [h]
theorem op_eqX (hu : X.A.units + 64 < cLine) : OpR X (compareOp .Eq) (fun x y H Q => ∃ S d1 d2 b, Rep (kt X) S H x d1 ∧ Rep (kt X) S H y d2 ∧ eqD d1 d2 = some b ∧ Q (.bl b) H) := by
  intro pins s σ H x y v u Q I rx ry h
  obtain ⟨S, d1, d2, b, r1, r2, e, q⟩ := h
  rcases eq_case e with ⟨i, j, rfl, rfl, rfl⟩ | ⟨i, j, rfl, rfl, rfl⟩ | ⟨rfl, rfl, rfl⟩ | ⟨g1, g2, rfl⟩
  · cases r1.int_of; cases r2.int_of
    exact op_eq pins s σ H _ _ v u Q I rx ry ⟨rfl, by rw [dec_intV]; exact q⟩
  · cases r1.str_of; cases r2.str_of
    exact op_eq pins s σ H _ _ v u Q I rx ry ⟨rfl, by rw [dec_strV]; exact q⟩
  · cases r1.none_of; cases r2.none_of
    exact op_eq pins s σ H _ _ v u Q I rx ry ⟨rfl, by simpa using q⟩
  · exact op_eqD hu pins s σ H x y v u Q I rx ry ⟨d1, d2, r1.dpS g1, r2.dpS g2, g1, g2, q⟩
theorem op_neX (hu : X.A.units + 64 < cLine) : OpR X (compareOp .NotEq) (fun x y H Q => ∃ S d1 d2 b, Rep (kt X) S H x d1 ∧ Rep (kt X) S H y d2 ∧ eqD d1 d2 = some b ∧ Q (.bl (!b)) H) := by
  intro pins s σ H x y v u Q I rx ry h
  obtain ⟨S, d1, d2, b, r1, r2, e, q⟩ := h
  rcases eq_case e with ⟨i, j, rfl, rfl, rfl⟩ | ⟨i, j, rfl, rfl, rfl⟩ | ⟨rfl, rfl, rfl⟩ | ⟨g1, g2, rfl⟩
  · cases r1.int_of; cases r2.int_of
    exact op_ne pins s σ H _ _ v u Q I rx ry ⟨rfl, by rw [dec_intV]; exact q⟩
  · cases r1.str_of; cases r2.str_of
    exact op_ne pins s σ H _ _ v u Q I rx ry ⟨rfl, by rw [dec_strV]; exact q⟩
  · cases r1.none_of; cases r2.none_of
    exact op_ne pins s σ H _ _ v u Q I rx ry ⟨rfl, by simpa using q⟩
  · exact op_neD hu pins s σ H x y v u Q I rx ry ⟨d1, d2, r1.dpS g1, r2.dpS g2, g1, g2, q⟩
theorem ord_guard {a b : D} (h : (W.alike a b && (!isNone a && (SeqAt.shaped a && SeqAt.shaped b))) = true) : W.alike a b = true ∧ a ≠ .none ∧ SeqAt.shaped a = true ∧ SeqAt.shaped b = true := by
  simp only [Bool.and_eq_true] at h
  refine ⟨h.1, ?_, h.2.2.1, h.2.2.2⟩
  intro e
  rw [e] at h
  exact absurd h.2.1 (by decide)
theorem depth_room {A : Around} {a b : D} (hu : A.units + 64 < cLine) (h : SeqAt.shaped a = true) : A.units + min a.depth b.depth < cLine := SeqAt.room_of_shaped h hu
def ordRes : COp → D → D → Bool
  | .lt, a, b => W.dataLt a b
  | .le, a, b => !W.dataLt b a
  | .gt, a, b => W.dataLt b a
  | _, a, b => !W.dataLt a b
theorem op_ordX (hu : X.A.units + 64 < cLine) (o : COp) (ho : o = .lt ∨ o = .le ∨ o = .gt ∨ o = .ge) : OpR X (compareOp (cmpOf o)) (rCmp (kt X) o) := by
  intro pins s σ H x y v u Q I rx ry h
  obtain ⟨S, d1, d2, b, r1, r2, e, q⟩ := h
  have key : (∃ i j, d1 = .int i ∧ d2 = .int j) ∨ ((W.alike d1 d2 && (!isNone d1 && (SeqAt.shaped d1 && SeqAt.shaped d2))) = true ∧ b = ordRes o d1 d2) := by
    rcases ho with rfl | rfl | rfl | rfl
    all_goals
      simp only [cmpD, ltD, leD, gtD, geD] at e
      split at e
      · exact .inl ⟨_, _, rfl, rfl⟩
      · obtain ⟨g, rfl⟩ := gd_some e
        exact .inr ⟨g, rfl⟩
  rcases key with ⟨i, j, rfl, rfl⟩ | ⟨g, rfl⟩
  · cases r1.int_of; cases r2.int_of
    rcases ho with rfl | rfl | rfl | rfl
    · cases e; exact op_lt pins s σ H _ _ v u Q I rx ry ⟨i, j, rfl, rfl, q⟩
    · cases e; exact op_le pins s σ H _ _ v u Q I rx ry ⟨i, j, rfl, rfl, q⟩
    · cases e; exact op_gt pins s σ H _ _ v u Q I rx ry ⟨i, j, rfl, rfl, q⟩
    · cases e; exact op_ge pins s σ H _ _ v u Q I rx ry ⟨i, j, rfl, rfl, q⟩
  · obtain ⟨g1, g2, g3, g4⟩ := ord_guard g
    obtain ⟨as, k1⟩ := r1.reads I (SeqAt.canLay_of_shaped g3) rx
    obtain ⟨bs, k2⟩ := r2.reads I (SeqAt.canLay_of_shaped g4) ry
    rcases ho with rfl | rfl | rfl | rfl
    · exact W.lt_data k1 k2 g1 g2 (depth_room hu g3) ⟨.bl _, H, I, rfl, q⟩
    · exact W.le_data k1 k2 g1 g2 (depth_room hu g3) ⟨.bl _, H, I, rfl, q⟩
    · exact W.gt_data k1 k2 g1 g2 (depth_room hu g3) ⟨.bl _, H, I, rfl, q⟩
    · exact W.ge_data k1 k2 g1 g2 (depth_room hu g3) ⟨.bl _, H, I, rfl, q⟩
/-- one sign -/
theorem one_sign {z : Str} (h : z.cps.size = 1) : z = ⟨#[z.cps.getD 0 0]⟩ := by
  obtain ⟨⟨l⟩⟩ := z
  cases l with
  | nil => simp at h
  | cons a r =>
    cases r with
    | nil => rfl
    | cons b r => simp at h
theorem op_inX (hu : X.A.units + 65 < cLine) (neg : Bool) : OpR X (compareOp (cond neg .NotIn .In)) (fun x y H Q => ∃ S d1 d2 b, Rep (kt X) S H x d1 ∧ RepB (kt X) S H y d2 ∧ inD d1 d2 = some b ∧ Q (.bl (cond neg (!b) b)) H) := by
  intro pins s σ H x y v u Q I rx ry h
  obtain ⟨S, d1, d2, b, r1, r2, e, q⟩ := h
  cases d2 with
  | list ds =>
    obtain ⟨g, rfl⟩ := gd_some e
    obtain ⟨g1, g2⟩ := Bool.and_eq_true_iff.mp g
    obtain ⟨as, k1⟩ := r1.reads I (SeqAt.canLay_of_shaped g1) rx
    obtain ⟨bs, k2⟩ := r2.reads I (SeqAt.canLay_of_shaped g2) ry
    cases neg with
    | false => exact SeqAt.in_list_reads k2 k1 (SeqAt.canLay_of_shaped g2) (SeqAt.canLay_of_shaped g1) (room_in_shaped g1 hu) ⟨.bl _, H, I, rfl, q⟩
    | true => exact SeqAt.notIn_list_reads k2 k1 (SeqAt.canLay_of_shaped g2) (SeqAt.canLay_of_shaped g1) (room_in_shaped g1 hu) ⟨.bl _, H, I, rfl, q⟩
  | tuple ds =>
    obtain ⟨g, rfl⟩ := gd_some e
    obtain ⟨g1, g2⟩ := Bool.and_eq_true_iff.mp g
    obtain ⟨as, k1⟩ := r1.reads I (SeqAt.canLay_of_shaped g1) rx
    obtain ⟨bs, k2⟩ := r2.reads I (SeqAt.canLay_of_shaped g2) ry
    cases neg with
    | false => exact SeqAt.in_tuple_reads k2 k1 (SeqAt.canLay_of_shaped g2) (SeqAt.canLay_of_shaped g1) (room_in_shaped g1 hu) ⟨.bl _, H, I, rfl, q⟩
    | true => exact SeqAt.notIn_tuple_reads k2 k1 (SeqAt.canLay_of_shaped g2) (SeqAt.canLay_of_shaped g1) (room_in_shaped g1 hu) ⟨.bl _, H, I, rfl, q⟩
  | str y' =>
    cases d1 with
    | str z =>
      cases r1.str_of; cases r2.str_of
      obtain ⟨g, rfl⟩ := gd_some e
      have g := of_decide_eq_true g
      have ez := one_sign g
      cases neg with
      | false => exact op_in_sign pins s σ H _ _ v u Q I rx ry ⟨z.cps.getD 0 0, y', by rw [← ez], rfl, q⟩
      | true => exact op_notIn_sign pins s σ H _ _ v u Q I rx ry ⟨z.cps.getD 0 0, y', by rw [← ez], rfl, q⟩
    | _ => cases e
  | dict kvs =>
    obtain ⟨o, e', rfl⟩ := Option.map_eq_some_iff.mp e
    obtain ⟨a, rfl, da⟩ := r2.dict_of (dictLook_fl e')
    cases ry
    obtain ⟨r, ro, L⟩ := look_run (by omega) I da r1 rx e'
    cases neg with
    | false => exact L.ins _ _ fun s' I' => ⟨.bl _, H, I', rfl, by rw [ro.isSome]; exact q⟩
    | true => exact L.nin _ _ fun s' I' => ⟨.bl _, H, I', rfl, by rw [ro.isSome]; exact q⟩
  | _ => cases d1 <;> cases e
theorem op_cmp (hu : X.A.units + 65 < cLine) (o : COp) (hb : ∀ c, o = .isB c ∨ o = .notB c → False) : OpR X (compareOp (cmpOf o)) (fun x y H Q => ((o = .isN ∨ o = .notN) → y = .non) ∧ rCmp (kt X) o x y H Q) := by
  intro pins s σ H x y v u Q I rx ry h
  obtain ⟨hn, h⟩ := h
  cases o with
  | eq => exact op_eqX (by omega) pins s σ H x y v u Q I rx ry h
  | ne =>
    obtain ⟨S, d1, d2, b, r1, r2, e, q⟩ := h
    obtain ⟨c, e', rfl⟩ := Option.map_eq_some_iff.mp e
    exact op_neX (by omega) pins s σ H x y v u Q I rx ry ⟨S, d1, d2, c, r1, r2, e', q⟩
  | lt => exact op_ordX (by omega) .lt (.inl rfl) pins s σ H x y v u Q I rx ry h
  | le => exact op_ordX (by omega) .le (.inr (.inl rfl)) pins s σ H x y v u Q I rx ry h
  | gt => exact op_ordX (by omega) .gt (.inr (.inr (.inl rfl))) pins s σ H x y v u Q I rx ry h
  | ge => exact op_ordX (by omega) .ge (.inr (.inr (.inr rfl))) pins s σ H x y v u Q I rx ry h
  | isN =>
    obtain ⟨S, d1, d2, b, r1, r2, e, q⟩ := h
    cases e
    exact op_isN pins s σ H x y v u Q I rx ry ⟨hn (.inl rfl), by rw [noneOf r1]; exact q⟩
  | notN =>
    obtain ⟨S, d1, d2, b, r1, r2, e, q⟩ := h
    cases e
    exact op_notN pins s σ H x y v u Q I rx ry ⟨hn (.inr rfl), by rw [noneOf r1]; exact q⟩
  | inn =>
    obtain ⟨S, d1, d2, b, r1, r2, e, q⟩ := h
    exact op_inX hu false pins s σ H x y v u Q I rx ry ⟨S, d1, d2, b, r1, r2.b, e, q⟩
  | nin =>
    obtain ⟨S, d1, d2, b, r1, r2, e, q⟩ := h
    obtain ⟨c, e', rfl⟩ := Option.map_eq_some_iff.mp e
    exact op_inX hu true pins s σ H x y v u Q I rx ry ⟨S, d1, d2, c, r1, r2.b, e', q⟩
  | isB c => exact (hb c (.inl rfl)).elim
  | notB c => exact (hb c (.inr rfl)).elim
theorem op_isBX (c : Bool) : OpR X (compareOp .Is) (fun x y H Q => y = .bl c ∧ ∃ S d1 b, Rep (kt X) S H x d1 ∧ isBD c d1 = some b ∧ Q (.bl b) H) := by
  intro pins s σ H x y v u Q I rx ry h
  obtain ⟨rfl, S, d1, b, r1, e, q⟩ := h
  cases d1 with
  | bool d => cases r1.bool_of; cases e; exact op_is_bl pins s σ H _ _ v u Q I rx ry ⟨d, c, rfl, rfl, q⟩
  | _ => cases e
theorem op_notBX (c : Bool) : OpR X (compareOp .IsNot) (fun x y H Q => y = .bl c ∧ ∃ S d1 b, Rep (kt X) S H x d1 ∧ isBD c d1 = some b ∧ Q (.bl (!b)) H) := by
  intro pins s σ H x y v u Q I rx ry h
  obtain ⟨rfl, S, d1, b, r1, e, q⟩ := h
  cases d1 with
  | bool d => cases r1.bool_of; cases e; exact op_isnot_bl pins s σ H _ _ v u Q I rx ry ⟨d, c, rfl, rfl, q⟩
  | _ => cases e

/-! ### truth -/
theorem tru_D : TruR X (fun x H Q => ∃ S d b, Rep (kt X) S H x d ∧ truthD d = some b ∧ Q b H) := by
  intro pins s σ H x v Q I rx h
  obtain ⟨S, d, b, r, e, q⟩ := h
  refine tru_ok pins s σ H x v Q I rx ⟨b, ?_, q⟩
  cases d with
  | none => cases r.none_of; cases e; rfl
  | bool c => cases r.bool_of; cases e; rfl
  | int i => cases r.int_of; cases e; rfl
  | list ds =>
    obtain ⟨a, xs, rfl, na, ha, za, ra⟩ := r.list_of
    cases e
    refine .inl ⟨xs, .inl ha, ?_⟩
    have := ra.length
    cases xs <;> cases ds <;> first | rfl | (simp at this)
  | tuple ds =>
    obtain ⟨a, xs, rfl, ha, za, ra⟩ := r.tuple_of
    cases e
    refine .inr (.inl ⟨xs, ha, ?_⟩)
    have := ra.length
    cases xs <;> cases ds <;> first | rfl | (simp at this)
  | str _ => cases e
  | dict _ => cases e

/-! ### items, slices -/
theorem ix_D (hu : X.A.units + 20 < cLine) : IxR X (fun x y H Q => ∃ S d1 d2 d, RepB (kt X) S H x d1 ∧ Rep (kt X) S H y d2 ∧ idxD d1 d2 = some d ∧ PostV (kt X) S H Q d) := by
  intro value slice pins s σ H x y v u Q I rx ry h hsub
  obtain ⟨S, d1, d2, d, r1, r2, e, q⟩ := h
  have ls := lim_lt
  have key : ∀ {xs : List V} {ds : List D} {k : Int}, RepL (kt X) S H xs ds → atI ds k = some d → ∃ w, atI xs k = some w ∧ Rep (kt X) S H w d := fun {xs ds k} ra ea => by
    unfold atI at ea ⊢
    rw [ra.length]
    obtain ⟨j, h1, h2⟩ := Option.bind_eq_some_iff.mp ea
    rw [h1]
    exact ra.get h2
  cases d1 with
  | list ds =>
    cases d2 with
    | int k =>
      obtain ⟨a, xs, rfl, ha, za, ra⟩ := r1.list_of
      cases r2.int_of
      obtain ⟨w, hw, rw'⟩ := key ra e
      exact ix_list value slice pins s σ H _ _ v u Q I rx ry ⟨a, xs, k, w, rfl, rfl, .inl ha, hw, q.atom rw'⟩ hsub
    | _ => cases e
  | tuple ds =>
    cases d2 with
    | int k =>
      obtain ⟨a, xs, rfl, ha, za, ra⟩ := r1.tuple_of
      cases r2.int_of
      obtain ⟨w, hw, rw'⟩ := key ra e
      exact ix_tup value slice pins s σ H _ _ v u Q I rx ry ⟨a, xs, k, w, rfl, rfl, ha, hw, q.atom rw'⟩ hsub
    | _ => cases e
  | str z =>
    cases d2 with
    | int k =>
      cases r1.str_of; cases r2.int_of
      obtain ⟨c, e', rfl⟩ := Option.map_eq_some_iff.mp e
      cases g : decide (z.length ≤ lim) with
      | false => rw [g] at e'; cases e'
      | true =>
        rw [g] at e'
        have g := of_decide_eq_true g
        exact ix_str value slice pins s σ H _ _ v u Q I rx ry ⟨z, k, c, rfl, rfl, by omega, e', q.atom (.str _)⟩ hsub
    | _ => cases e
  | dict kvs =>
    cases hf : isFL kvs with
    | true =>
      obtain ⟨a, xs, ds, rfl, rfl, ha, z, ra⟩ := r1.kl_of hf
      cases d2 with
      | int k =>
        cases r2.int_of
        obtain ⟨w, hw, rw'⟩ := key ra e
        exact ix_list value slice pins s σ H _ _ v u Q I rx ry ⟨a, xs, k, w, rfl, rfl, ha.sq, hw, q.atom rw'⟩ hsub
      | _ => cases e
    | false =>
    have e : (dictLook kvs d2).bind id = some d := by simpa only [idxD, flOf_none hf] using e
    obtain ⟨o, e', ho⟩ := Option.bind_eq_some_iff.mp e
    have ho : o = some d := ho
    subst ho
    obtain ⟨a, rfl, da⟩ := r1.dict_of hf
    cases rx
    obtain ⟨r, ro, L⟩ := look_run hu I da r2 ry e'
    cases r with
    | none => exact ro.elim
    | some w' =>
      have ro : Rep (kt X) S H w' d := ro
      refine PyProof.Rows.tail_any (ops := [.ref a, u]) L.ty PySem.F.slot_dict_getitem.lookup ?_ hsub
      exact L.get w' _ _ rfl fun u' s' I' r' => ⟨w', H, I', r', q.atom ro⟩
  | _ => cases e
theorem cut_same {α : Type} (xs : List α) (lo hi : Option Int) (h1 : HT.sIx xs.length 0 lo = 0) (h2 : HT.sIx xs.length xs.length hi = xs.length) : cutL xs lo hi = xs := by
  unfold cutL
  rw [h1, h2]
  simp
theorem sl_D : SlR X (fun x lo hi H Q => ∃ S d1 d, Trk S H ∧ Rep (kt X) S H x d1 ∧ sliceD d1 lo hi = some d ∧ PostV (kt X) S H Q d) := by
  intro pins s σ H x v vl vu lo hi sl Q I rx hs pl pu h
  obtain ⟨S, d1, d, tr, r1, e, q⟩ := h
  have ls := lim_lt
  have rc : ∀ {xs : List V} {ds : List D}, RepL (kt X) S H xs ds → RepL (kt X) S H (cutV xs lo hi) (cutL ds lo hi) := fun {xs ds} ra => by
    unfold cutV cutL
    rw [ra.length]
    exact (ra.drop _).take _
  cases d1 with
  | list ds =>
    obtain ⟨a, xs, rfl, na, ha, za, ra⟩ := r1.list_of
    cases e
    exact sl_list pins s σ H _ v vl vu lo hi sl Q I rx hs pl pu ⟨a, xs, rfl, .inl ha, fun p hp => q.newL tr hp (Nat.le_trans (cutV_length xs lo hi) za) (rc ra)⟩
  | tuple ds =>
    obtain ⟨a, xs, rfl, ha, za, ra⟩ := r1.tuple_of
    cases e
    refine sl_tupA pins s σ H _ v vl vu lo hi sl Q I rx hs pl pu ⟨a, xs, rfl, ha, fun hw => ?_, fun _ p hp => q.newT hp (Nat.le_trans (cutV_length xs lo hi) za) (rc ra)⟩
    rw [ra.length] at hw
    rw [cut_same ds lo hi hw.1 hw.2] at q
    exact q.atom r1
  | str z =>
    cases r1.str_of
    obtain ⟨g, rfl⟩ := gd_some e
    have g := of_decide_eq_true g
    exact sl_str pins s σ H _ v vl vu lo hi sl Q I rx hs pl pu ⟨z, rfl, by omega, q.atom (.str _)⟩
  | _ => cases e
end
end PI
end
section
/-! Calls of built-in functions and methods, by what the values stand for. -/
namespace PI
open PySem PySem.Spec PyProof.Rows L2 PySem.W
section
variable {X : Cx} {pins : List (Addr × Obj)} {σ : L2.St} {H : Hp} {s : Shared} {S : Addr → Prop}
theorem each_of_rep (I : Inv X pins σ H s) {vs : List V} {ds : List D} (r : RepL (kt X) S H vs ds) : ∀ {us : List Value}, Vals vs us → W.EachIs (fun u d => ∃ x, RelV x u ∧ Rep (kt X) S H x d) us ds := by
  induction vs generalizing ds with
  | nil => intro us q; cases r; cases q; exact .nil
  | cons v vs ih =>
    intro us q
    cases r with
    | cons r1 r2 => cases q with | cons q1 q2 => exact .cons ⟨v, q1, r1⟩ (ih r2 q2)
theorem rep_of_each {C : Kt} : ∀ {us : List Value} {ds : List D}, W.EachIs (fun u d => ∃ x, RelV x u ∧ Rep C S H x d) us ds → ∃ vs, Vals vs us ∧ RepL C S H vs ds
  | _, _, .nil => ⟨[], .nil, .nil⟩
  | _, _, .cons ⟨x, r, q⟩ t => by
    obtain ⟨vs, h1, h2⟩ := rep_of_each t
    exact ⟨x :: vs, .cons r h1, .cons q h2⟩
theorem canLayAll_of {ds : List D} (h : ∀ d ∈ ds, d.canLay0 = true) : PyData.canLayAll0 ds = true := by
  induction ds with
  | nil => rfl
  | cons d ds ih =>
    rw [PyData.canLayAll0, Bool.and_eq_true]
    exact ⟨h d List.mem_cons_self, ih fun e he => h e (List.mem_cons_of_mem _ he)⟩
theorem depthAll_of {n : Nat} {ds : List D} (h : ∀ d ∈ ds, d.depth ≤ n) : PyData.depthAll ds ≤ n := by
  induction ds with
  | nil => rw [PyData.depthAll]; exact Nat.zero_le _
  | cons d ds ih =>
    rw [PyData.depthAll]
    exact Nat.max_le.mpr ⟨h d List.mem_cons_self, ih fun e he => h e (List.mem_cons_of_mem _ he)⟩
theorem sortOk_of {xs : List D} (h : sortOk xs = true) : W.AllAlike xs ∧ W.Sortable xs ∧ ∀ x ∈ xs, SeqAt.shaped x = true := by
  unfold sortOk at h
  simp only [Bool.and_eq_true, Bool.or_eq_true, List.all_eq_true] at h
  obtain ⟨h1, h2, h3⟩ := h
  refine ⟨fun d hd e he => h1 d hd e he, ?_, h3⟩
  rcases h2 with h2 | h2
  · left
    intro d hd
    have := h2 d hd
    unfold tupB at this
    split at this
    · exact ⟨_, _, rfl⟩
    · cases this
  · right
    intro d hd
    have := h2 d hd
    constructor
    · rintro rfl; cases this
    · rintro xs rfl; cases this
/-- the extreme one of a sequence -/
theorem pick_of (I : Inv X pins σ H s) {ys : List V} {its : List Value} {ds : List D} (r : RepL (kt X) S H ys ds) (rv : Vals ys its) (hs : ∀ x ∈ ds, SeqAt.shaped x = true) {i : Nat} {v : Value} {h' : Heap} {d : D} {bs : List Addr}
    (hi : its.toArray[i]? = some v) (rd : Reads h' v d bs) (hk : ∀ b o, s.heap.get? b = some o → h'.get? b = some o) : ∃ x, RelV x v ∧ Rep (kt X) S H x d := by
  have hl := rv.length
  have hi' : its[i]? = some v := by simpa using hi
  have hlt : i < ys.length := by
    rw [hl]
    exact (List.getElem?_eq_some_iff.mp hi').1
  obtain ⟨x, hx⟩ : ∃ x, ys[i]? = some x := ⟨ys[i], List.getElem?_eq_getElem hlt⟩
  obtain ⟨u, hu, ru⟩ := rv.get hx
  rw [hi'] at hu
  cases hu
  obtain ⟨e, he, re⟩ := r.get' hx
  have hc : e.canLay0 = true := SeqAt.canLay_of_shaped (hs e (List.mem_of_getElem? he))
  obtain ⟨as, k⟩ := re.reads I hc ru
  have := SeqAt.Reads.unique e d v as bs hc (PyProof.Rows.Reads.keeps hk k) rd
  subst this
  exact ⟨x, ru, re⟩
def rBi (C : Kt) (b : Bi) : List V → Hp → VK → Prop := fun xs H Q => ∃ S ds d, Trk S H ∧ RepL C S H xs ds ∧ biD b ds = some d ∧ PostV C S H Q d
/-- the value called -/
def biF : Bi → Value
  | .list => .type "list"
  | .tuple => .type "tuple"
  | .sorted => .builtin "sorted"
  | .max => .builtin "max"
  | .max2 => .builtin "max"
  | .min => .builtin "min"
  | .int => .type "int"
  | .str => .type "str"
  | .dictOf => .type "dict"
  | .setLen => .type "set"
  | .sortedSet => .type "set"
  | _ => .builtin "len"
theorem seqOf {C : Kt} {v : V} {ds : List D} (r : Rep C S H v (.list ds) ∨ Rep C S H v (.tuple ds)) : ∃ p ys, v = .ref p ∧ (SqL C.K H p ys ∨ SqT C.K H p ys) ∧ ys.length ≤ sizeLine ∧ RepL C S H ys ds := by
  rcases r with r | r
  · obtain ⟨a, xs, e, na, ha, z, ra⟩ := r.list_of
    exact ⟨a, xs, e, .inl (.inl ha), z, ra⟩
  · obtain ⟨a, xs, e, ha, z, ra⟩ := r.tuple_of
    exact ⟨a, xs, e, .inr ha, z, ra⟩
theorem call_len_X : CallR X (.builtin "len") (fun xs H Q => ∃ S v a d, xs = [v] ∧ RepB (kt X) S H v a ∧ lenD a = some d ∧ PostV (kt X) S H Q d) := by
  intro pins s σ H xs us Q I r h
  obtain ⟨S, v, a, d, rfl, ra, e, q⟩ := h
  have ls := lim_lt
  · skip
    cases a with
    | list zs =>
      cases e
      obtain ⟨p, ys, rfl, hq, z, rr⟩ := ra.list_of
      have hq : SqL X.K H p ys ∨ SqT X.K H p ys := .inl (.inl hq)
      refine call_len_seq pins s σ H _ us Q I r ⟨p, ys, rfl, hq, ?_⟩
      rw [rr.length]
      exact q.atom (.int _)
    | tuple zs =>
      cases e
      obtain ⟨p, ys, rfl, hq, z, rr⟩ := ra.tuple_of
      have hq : SqL X.K H p ys ∨ SqT X.K H p ys := .inr hq
      refine call_len_seq pins s σ H _ us Q I r ⟨p, ys, rfl, hq, ?_⟩
      rw [rr.length]
      exact q.atom (.int _)
    | str x =>
      obtain ⟨g, rfl⟩ := gd_some e
      have g := of_decide_eq_true g
      cases ra.str_of
      exact call_len_str pins s σ H _ us Q I r ⟨x, rfl, by omega, q.atom (.int _)⟩
    | dict ps =>
      cases hf : isFL ps with
      | true =>
        obtain ⟨p, ys, zs, rfl, rfl, ha, z, rr⟩ := ra.kl_of hf
        cases e
        refine call_len_seq pins s σ H _ us Q I r ⟨p, ys, rfl, .inl ha.sq, ?_⟩
        rw [rr.length]
        exact q.atom (.int _)
      | false =>
      have e : some (PyData.int (dictBody ps).length) = some d := by simpa only [lenD, flOf_none hf, hf, Bool.not_false, gd_true] using e
      cases e
      obtain ⟨p, rfl, da⟩ := ra.dict_of hf
      obtain ⟨u, rfl, rx⟩ := vals1 r
      cases rx
      cases da with
      | @k kvs es h z hv =>
        rw [dictBody_K] at q
        refine d_len I h fun t s' I' => ⟨.int kvs.length, H, I', ⟨t, rfl⟩, ?_⟩
        have hl : ((kvs.map fun p => keyOfD p.1).zip es).length = kvs.length := by
          rw [List.length_zip, List.length_map, ← hv.length, List.length_map, Nat.min_self]
        rw [hl] at q
        exact q.atom (.int _)
      | @n kvs ks es h z hk hd hd' hv =>
        obtain ⟨hs, ys, pp, dd⟩ := dictN_at I h hk hd hd'
        have hz : ys.length = kvs.length := (Paired.length pp).symm
        refine call_len_dictH hs dd (by rw [hz]; rw [sizeLine_eq] at z; omega) ?_
        have hl : (dictBody ((PyData.none, PyData.none) :: ks.zip es)).length = kvs.length := by
          show (ks.zip es).length = _
          rw [List.length_zip, keysN_length hd, ← hv.length, List.length_map, List.length_map, Nat.min_self]
        rw [hl] at q
        rw [hz]
        exact ⟨.int kvs.length, H, I.tok _, ⟨_, rfl⟩, q.atom (.int _)⟩
    | _ => cases e
theorem items_sign {x : Str} {acc : Array Value} (h : ItemsOf (SignAt x) acc x.cps.size) : Vals (x.cps.toList.map fun c => V.str ⟨#[c]⟩) acc.toList := by
  have e : acc.toList.length = x.cps.toList.length := by rw [Array.length_toList, h.1, Array.length_toList]
  have key : ∀ (us : List Value) (cs : List Nat), us.length = cs.length → (∀ (j : Nat) (u : Value) (c : Nat), us[j]? = some u → cs[j]? = some c → RelV (.str ⟨#[c]⟩) u) → Vals (cs.map fun c => V.str ⟨#[c]⟩) us := by
    intro us
    induction us with
    | nil => intro cs h _; cases cs with | nil => exact .nil | cons _ _ => simp at h
    | cons u us ih =>
      intro cs h hu
      cases cs with
      | nil => simp at h
      | cons c cs => exact .cons (hu 0 u c rfl rfl) (ih cs (by simpa using h) fun j w d h1 h2 => hu (j + 1) w d (by simpa using h1) (by simpa using h2))
  refine key _ _ e fun j u c h1 h2 => ?_
  have h1' : acc[j]? = some u := by rw [← Array.getElem?_toList]; exact h1
  obtain ⟨c', t, h3, rfl⟩ := h.2 j u h1'
  have h2' : x.cps[j]? = some c := by rw [← Array.getElem?_toList]; exact h2
  rw [h2'] at h3
  cases h3
  exact ⟨t, rfl⟩
theorem rep_signs {C : Kt} (S : Addr → Prop) (H : Hp) : ∀ cs : List Nat, RepL C S H (cs.map fun c => V.str ⟨#[c]⟩) (cs.map fun c => PyData.str ⟨#[c]⟩)
  | [] => .nil
  | _ :: cs => .cons (.str _) (rep_signs S H cs)
theorem call_list_X (hc : X.calm = true) : CallR X (.type "list") (rBi (kt X) .list) := by
  intro pins s σ H xs us Q I r h
  obtain ⟨S, ds, d, tr, rl, e, q⟩ := h
  have ls := lim_lt
  match ds, e with
  | [.list zs], e =>
    cases e
    obtain ⟨v, rfl, ra⟩ := rl.sing
    obtain ⟨p, ys, rfl, hq, z, rr⟩ := seqOf (.inl ra)
    exact call_list_of pins s σ H _ us Q I r ⟨p, ys, rfl, hq, fun l hl => q.newL tr hl z rr⟩
  | [.tuple zs], e =>
    cases e
    obtain ⟨v, rfl, ra⟩ := rl.sing
    obtain ⟨p, ys, rfl, hq, z, rr⟩ := seqOf (.inr ra)
    exact call_list_of pins s σ H _ us Q I r ⟨p, ys, rfl, hq, fun l hl => q.newL tr hl z rr⟩
  | [.str x], e =>
    obtain ⟨g, rfl⟩ := gd_some e
    have g := of_decide_eq_true g
    obtain ⟨v, rfl, ra⟩ := rl.sing
    cases ra.str_of
    obtain ⟨u, rfl, t, rfl⟩ := vals1 r
    have hz : (x.cps.toList.map fun c => V.str ⟨#[c]⟩).length ≤ sizeLine := by rw [List.length_map, Array.length_toList]; omega
    refine call_list_str (I.ok.hd hc) x t (fun h' tk acc c' hk e' hi => ?_) (by omega)
    refine ⟨.ref s.heap.objs.size, upd H s.heap.objs.size (.lst (x.cps.toList.map fun c => V.str ⟨#[c]⟩)), I.laid hk (Nat.le_refl _) (show ObjOk X.prog X.w _ _ _ (.lst (x.cps.toList.map fun c => V.str ⟨#[c]⟩)) from ⟨hz, acc.toList, c', items_sign hi, by rw [Array.toArray_toList]; exact e'⟩), rfl, ?_⟩
    exact q.newL tr (I.hok.fresh (Nat.le_refl _)) hz (rep_signs S H _)
theorem call_tuple_X : CallR X (.type "tuple") (rBi (kt X) .tuple) := by
  intro pins s σ H xs us Q I r h
  obtain ⟨S, ds, d, tr, rl, e, q⟩ := h
  match ds, e with
  | [.list zs], e =>
    cases e
    obtain ⟨v, rfl, ra⟩ := rl.sing
    obtain ⟨a, xs, rfl, na, ha, z, rr⟩ := ra.list_of
    exact call_tuple_of pins s σ H _ us Q I r ⟨a, xs, rfl, .inl ⟨.inl ha, fun l hl => q.newT hl z rr⟩⟩
  | [.tuple zs], e =>
    cases e
    obtain ⟨v, rfl, ra⟩ := rl.sing
    have ra' := ra
    obtain ⟨a, xs, rfl, ha, z, rr⟩ := ra.tuple_of
    exact call_tuple_of pins s σ H _ us Q I r ⟨a, xs, rfl, .inr ⟨ha, q.atom ra'⟩⟩
theorem DictAt.small {C : Kt} {H : Hp} {a : Addr} {kvs : List (D × D)} (d : DictAt C S H a kvs) : (dictBody kvs).length ≤ sizeLine ∧ (keysOf kvs).length ≤ sizeLine := by
  have key : (dictBody kvs).length ≤ sizeLine := by
    cases d with
    | @k xs es h z hv =>
      rw [dictBody_K, List.length_zip, List.length_map]
      exact Nat.le_trans (Nat.min_le_left _ _) z
    | @n xs ks es h z hk e hd hv =>
      show (ks.zip es).length ≤ _
      have := keysN_length e
      rw [List.length_map] at this
      rw [List.length_zip, this]
      exact Nat.le_trans (Nat.min_le_left _ _) z
  exact ⟨key, by unfold keysOf; rw [List.length_map]; exact key⟩
theorem rep_keys {C : Kt} {H : Hp} : ∀ kvs : List (Key × V), RepL C S H (kvs.map fun p => kV p.1) (kvs.map fun p => keyOfD p.1)
  | [] => .nil
  | p :: kvs => .cons (by obtain ⟨k, v⟩ := p; cases k <;> first | exact .int _ | exact .str _) (rep_keys kvs)
theorem zip_fst : ∀ {ks es : List D}, ks.length = es.length → (ks.zip es).map (·.1) = ks
  | [], [], _ => rfl
  | k :: ks, e :: es, h => by rw [List.zip_cons_cons, List.map_cons, zip_fst (by simpa using h)]
/-- the keys of the dict at a, gathered -/
theorem dict_keys (hc : X.calm = true) (I : Inv X pins σ H s) {a : Addr} {kvs : List (D × D)} (da : DictAt (kt X) S H a kvs) :
    ∃ ys, RepL (kt X) S H ys (keysOf kvs) ∧ Gathers X.prog X.w X.A.in1 s a (fun out => Vals ys out) := by
  have hh : X.A.in1.handled = none := I.ok.hd hc
  cases da with
  | @k xs es h z hv =>
    obtain ⟨z, hs, vs, kv, dd⟩ := (show ObjOk X.prog X.w H s.heap a (.dK xs) from rd_ok I h)
    refine ⟨xs.map fun p => kV p.1, ?_, ?_⟩
    · have hl := hv.length
      rw [List.length_map] at hl
      unfold keysOf
      rw [dictBody_K, zip_fst (by rw [List.length_map, hl])]
      exact rep_keys xs
    · obtain ⟨es', ep, raw, hz, hk⟩ := dd.raw
      have hl : xs.length = vs.length := Paired.length kv
      intro E Q q
      refine gather_src (KdlSrc.rawDict hs) hh raw (by rw [hz, ← hl]; exact z) E Q fun s' out k1 k2 k3 k4 ⟨c1, c2⟩ => q s' out k1 k2 k3 k4 ?_
      refine vals_of_idx _ _ (by rw [c1, hz, List.length_map, hl]) fun j u hu => ?_
      obtain ⟨hi, rfl⟩ := c2 j u hu
      have hj : j < xs.length := by rw [hl, ← hz]; exact hi
      obtain ⟨w', e1, _⟩ := kv_get kv (i := j) (k := xs[j].1) (v := xs[j].2) (List.getElem?_eq_getElem hj)
      exact ⟨kV xs[j].1, by rw [List.getElem?_map, List.getElem?_eq_getElem hj]; rfl, relV_key (hk j hi _ _ e1).1⟩
  | @n xs ks es h z hk e hd hv =>
    obtain ⟨hs, ys, pp, dd⟩ := dictN_at I h hk e hd
    obtain ⟨es', ep, raw, hz, hq⟩ := dd.raw
    have hl : xs.length = ys.length := Paired.length pp
    refine ⟨xs.map fun p => V.ref p.2.1, ?_, ?_⟩
    · have h1 := keysN_length e
      have h2 := hv.length
      rw [List.length_map] at h1 h2
      have : keysOf ((.none, .none) :: ks.zip es) = ks := by
        show (ks.zip es).map (·.1) = ks
        exact zip_fst (by rw [h1, h2])
      rw [this]
      exact hk
    · intro E Q q
      refine gather_src (KdlSrc.rawDict hs) hh raw (by rw [hz, ← hl]; exact z) E Q fun s' out k1 k2 k3 k4 ⟨c1, c2⟩ => q s' out k1 k2 k3 k4 ?_
      refine vals_of_idx _ _ (by rw [c1, hz, List.length_map, hl]) fun j u hu => ?_
      obtain ⟨hi, rfl⟩ := c2 j u hu
      obtain ⟨y, e1, e2, _⟩ := hq j hi
      have hj : j < xs.length := by rw [hl, ← hz]; exact hi
      obtain ⟨y', e3, e4, e5, _⟩ := paired_get pp (i := j) (a := xs[j]) (List.getElem?_eq_getElem hj)
      rw [e1] at e3
      cases e3
      refine ⟨V.ref xs[j].2.1, by rw [List.getElem?_map, List.getElem?_eq_getElem hj]; rfl, ?_⟩
      rw [e2, ← e5]
      rfl
theorem call_sorted_X (hc : X.calm = true) (hu : X.A.units + 70 < cLine) : CallR X (.builtin "sorted") (rBi (kt X) .sorted) := by
  intro pins s σ H xs us Q I r h
  obtain ⟨S, ds, d, tr, rl, e, q⟩ := h
  match ds, e with
  | [.dict kvs], e =>
    cases hf : isFL kvs with
    | true => rw [show biD .sorted [.dict kvs] = cond (isFL kvs) none (sortD (keysOf kvs)) from rfl, hf] at e; cases e
    | false =>
      have e : gd (sortOk (keysOf kvs)) (PyData.list ((keysOf kvs).mergeSort (W.dataLe false id))) = some d := by rw [show biD .sorted [.dict kvs] = cond (isFL kvs) none (sortD (keysOf kvs)) from rfl, hf] at e; exact e
      obtain ⟨g, rfl⟩ := gd_some e
      obtain ⟨g1, g2, g3⟩ := sortOk_of g
      obtain ⟨v, rfl, ra⟩ := rl.sing
      obtain ⟨a, rfl, na, da⟩ := ra.dict_of hf
      obtain ⟨u, rfl, rx⟩ := vals1 r
      cases rx
      obtain ⟨ys, rk, G⟩ := dict_keys hc I da
      refine sorted_gath (T := fun ds => ds = keysOf kvs) (R := fun u d => ∃ x, RelV x u ∧ Rep (kt X) S H x d) G (fun out ho => ?_) fun s' p out c ds k g o hp hg ed lo eo => ?_
      · have rv : Vals ys out := ho
        obtain ⟨as, rs⟩ := Dp.readsAll I (keysOf kvs) ys out (rk.dp (canLayAll_of fun d hd => SeqAt.canLay_of_shaped (g3 d hd))) rv
        have hl := rk.length
        have hv := rv.length
        obtain ⟨_, zz⟩ := da.small
        exact ⟨keysOf kvs, as, rfl, by rw [← hv, hl]; exact zz, each_of_rep I rk rv, rs, g1, g2, canLayAll_of fun d hd => SeqAt.canLay_of_shaped (g3 d hd), fun d hd => by have := SeqAt.depth_of_shaped (g3 d hd); omega⟩
      · subst ed
        obtain ⟨vs, v1, v2⟩ := rep_of_each eo
        obtain ⟨_, zz⟩ := da.small
        have hz' : vs.length ≤ sizeLine := by rw [v1.length, lo]; exact zz
        have hn := I.hok.fresh hp
        have J : Inv X pins σ (upd H p (.lst vs)) { s with heap := s'.heap, gens := s'.gens, drawn := s'.drawn, toks := s'.toks } :=
          I.call (ch := []) (Un.laid k hp hn) (I.hok.laid k hp ⟨hz', out, c, v1, hg⟩) (by rw [g]; exact I.bare) (fun _ z => nomatch z)
        have e : s' = { s with heap := s'.heap, gens := s'.gens, drawn := s'.drawn, toks := s'.toks } := by
          cases s'
          cases s
          cases o
          rfl
        rw [e]
        exact ⟨.ref p, _, J, rfl, q.newL tr hn hz' v2⟩
  | [.list zs], e =>
    have e : gd (sortOk zs) (PyData.list (zs.mergeSort (W.dataLe false id))) = some d := e
    obtain ⟨g, rfl⟩ := gd_some e
    obtain ⟨g1, g2, g3⟩ := sortOk_of g
    obtain ⟨v, rfl, ra⟩ := rl.sing
    obtain ⟨a, xs, rfl, na, ha, z, rr⟩ := ra.list_of
    obtain ⟨u, rfl, rx⟩ := vals1 r
    cases rx
    obtain ⟨its, rv, pl, hz⟩ := I.list (.inl ha)
    obtain ⟨as, rs⟩ := Dp.readsAll I zs xs its (rr.dp (canLayAll_of fun d hd => SeqAt.canLay_of_shaped (g3 d hd))) rv
    have hl := rr.length
    refine W.sorted_data (enc := id) (R := fun u d => ∃ x, RelV x u ∧ Rep (kt X) S H x d) pl.isList (each_of_rep I rr rv) (W.readsAll_each id (by rw [List.map_id]; exact rs)) (by rw [List.map_id]; exact g1) (by rw [List.map_id]; exact g2) (by omega) (fun b hb => ?_) fun out ho eo => ?_
    · have := SeqAt.depth_of_shaped (g3 b hb)
      show X.A.units + 2 + b.depth < cLine
      omega
    · obtain ⟨vs, v1, v2⟩ := rep_of_each eo
      obtain ⟨e', he'⟩ := sortedAll_at s.heap its (List.toArray out)
      have hz' : vs.length ≤ sizeLine := by rw [v1.length, ho]; omega
      have kp : ∀ b o, s.heap.get? b = some o → (sortedAll s.heap its (List.toArray out)).get? b = some o := fun b o z => sortedAll_old z
      refine ⟨.ref (s.heap.objs.size + 1), upd H (s.heap.objs.size + 1) (.lst vs), I.laid (t' := s.toks) kp (Nat.le_succ _) (show ObjOk X.prog X.w _ _ _ (.lst vs) from ⟨hz', out, e', v1, he'⟩), rfl, ?_⟩
      exact q.newL tr (I.hok.fresh (Nat.le_succ _)) hz' v2
theorem minmax_run (hc : X.calm = true) (hu : X.A.units + 70 < cLine) (I : Inv X pins σ H s) (mx : Bool) {p : Addr} {ys : List V} {ds : List D} {d : D} {Q : VK} (hq : SqL X.K H p ys ∨ SqT X.K H p ys) (rr : RepL (kt X) S H ys ds) (e : cond mx (maxL ds) (minL ds) = some d) (q : PostV (kt X) S H Q d) :
    wpAny (model X.prog X.w) X.A (call (.builtin (cond mx "max" "min")) [.ref p]) (EP X pins σ Q) X.xe s := by
  cases ds with
  | nil => cases mx <;> cases e
  | cons z zs =>
    have e' : sortOk (z :: zs) = true ∧ d = cond mx (W.maxD z zs) (W.minD z zs) := by
      cases mx with
      | true => obtain ⟨g, rfl⟩ := gd_some e; exact ⟨g, rfl⟩
      | false => obtain ⟨g, rfl⟩ := gd_some e; exact ⟨g, rfl⟩
    obtain ⟨g, rfl⟩ := e'
    obtain ⟨g1, g2, g3⟩ := sortOk_of g
    have al : W.AlikeAll (z :: zs) := ⟨fun d hd e he => g1 d hd e he, fun d hd e => by
      subst e
      rcases g2 with g2 | g2
      · obtain ⟨_, _, h⟩ := g2 _ hd; cases h
      · exact (g2 _ hd).1 rfl⟩
    have dp : X.A.units + 1 + PyData.depthAll (z :: zs) < cLine := by
      have := depthAll_of (n := 64) fun d hd => SeqAt.depth_of_shaped (g3 d hd)
      omega
    have fin : ∀ (its : List Value), Vals ys its → ∀ (i : Nat) (v : Value) (h' : Heap) (tk : Nat) (bs : List Addr), its.toArray[i]? = some v → Reads h' v (cond mx (W.maxD z zs) (W.minD z zs)) bs → (∀ b o, s.heap.get? b = some o → h'.get? b = some o) → EP X pins σ Q v { s with heap := h', toks := tk } := fun its rv i v h' tk bs h1 h2 hk => by
      obtain ⟨x, rx, re⟩ := pick_of I rr rv g3 h1 h2 hk
      exact ⟨x, H, I.kept hk, rx, q.atom re⟩
    rcases hq with hq | hq
    · obtain ⟨its, rv, pl, hz⟩ := I.list hq
      obtain ⟨as, rs⟩ := Dp.readsAll I (z :: zs) ys its (rr.dp (canLayAll_of fun d hd => SeqAt.canLay_of_shaped (g3 d hd))) rv
      cases mx with
      | true => exact W.max_list_data (I.ok.hd hc) pl.isList rs al dp fun i v h' tk bs h1 h2 hk => fin its rv i v h' tk bs h1 h2 hk
      | false => exact W.min_list_data (I.ok.hd hc) pl.isList rs al dp fun i v h' tk bs h1 h2 hk => fin its rv i v h' tk bs h1 h2 hk
    · obtain ⟨its, rv, pl, hz⟩ := I.tuple hq
      obtain ⟨as, rs⟩ := Dp.readsAll I (z :: zs) ys its (rr.dp (canLayAll_of fun d hd => SeqAt.canLay_of_shaped (g3 d hd))) rv
      cases mx with
      | true => exact W.max_tuple_data (I.ok.hd hc) pl rs al dp fun i v h' tk bs h1 h2 hk => fin its rv i v h' tk bs h1 h2 hk
      | false => exact W.min_tuple_data (I.ok.hd hc) pl rs al dp fun i v h' tk bs h1 h2 hk => fin its rv i v h' tk bs h1 h2 hk
theorem call_max_X (hc : X.calm = true) (hu : X.A.units + 70 < cLine) : CallR X (.builtin "max") (rBi (kt X) .max) := by
  intro pins s σ H xs us Q I r h
  obtain ⟨S, ds, d, tr, rl, e, q⟩ := h
  match ds, e with
  | [.list zs], e =>
    obtain ⟨v, rfl, ra⟩ := rl.sing
    obtain ⟨p, ys, rfl, hq, z, rr⟩ := seqOf (.inl ra)
    obtain ⟨u, rfl, rx⟩ := vals1 r
    cases rx
    exact minmax_run hc hu I true hq rr e q
  | [.tuple zs], e =>
    obtain ⟨v, rfl, ra⟩ := rl.sing
    obtain ⟨p, ys, rfl, hq, z, rr⟩ := seqOf (.inr ra)
    obtain ⟨u, rfl, rx⟩ := vals1 r
    cases rx
    exact minmax_run hc hu I true hq rr e q
theorem call_min_X (hc : X.calm = true) (hu : X.A.units + 70 < cLine) : CallR X (.builtin "min") (rBi (kt X) .min) := by
  intro pins s σ H xs us Q I r h
  obtain ⟨S, ds, d, tr, rl, e, q⟩ := h
  match ds, e with
  | [.list zs], e =>
    obtain ⟨v, rfl, ra⟩ := rl.sing
    obtain ⟨p, ys, rfl, hq, z, rr⟩ := seqOf (.inl ra)
    obtain ⟨u, rfl, rx⟩ := vals1 r
    cases rx
    exact minmax_run hc hu I false hq rr e q
  | [.tuple zs], e =>
    obtain ⟨v, rfl, ra⟩ := rl.sing
    obtain ⟨p, ys, rfl, hq, z, rr⟩ := seqOf (.inr ra)
    obtain ⟨u, rfl, rx⟩ := vals1 r
    cases rx
    exact minmax_run hc hu I false hq rr e q
theorem call_max2_X (hc : X.calm = true) : CallR X (.builtin "max") (rBi (kt X) .max2) := by
  intro pins s σ H xs us Q I r h
  obtain ⟨S, ds, d, tr, rl, e, q⟩ := h
  match ds, e with
  | [.int i, .int j], e =>
    cases e
    obtain ⟨v, w, rfl, ra, rb⟩ := rl.pair
    cases ra.int_of
    cases rb.int_of
    exact call_max2 hc pins s σ H _ us Q I r ⟨i, j, rfl, q.atom (.int _)⟩
theorem call_int_X : CallR X (.type "int") (rBi (kt X) .int) := by
  intro pins s σ H xs us Q I r h
  obtain ⟨S, ds, d, tr, rl, e, q⟩ := h
  match ds, e with
  | [a], e =>
    obtain ⟨v, rfl, ra⟩ := rl.sing
    have e : intD a = some d := e
    cases a with
    | int i => cases e; cases ra.int_of; exact call_int1 pins s σ H _ us Q I r (.inl ⟨i, rfl, q.atom (.int _)⟩)
    | bool b => cases e; cases ra.bool_of; exact call_int1 pins s σ H _ us Q I r (.inr ⟨b, rfl, q.atom (.int _)⟩)
    | str x =>
      cases ra.str_of
      cases g : decide (x.length ≤ 640) with
      | false =>
        have e : cond (decide (x.length ≤ 640)) ((PySem.intText? x).map .int) none = some d := e
        rw [g] at e; cases e
      | true =>
        have e : cond (decide (x.length ≤ 640)) ((PySem.intText? x).map .int) none = some d := e
        rw [g] at e
        obtain ⟨n, hn, rfl⟩ := Option.map_eq_some_iff.mp e
        exact call_int_str pins s σ H _ us Q I r ⟨x, n, rfl, hn, of_decide_eq_true g, q.atom (.int _)⟩
    | _ => cases e
theorem call_str_X : CallR X (.type "str") (rBi (kt X) .str) := by
  intro pins s σ H xs us Q I r h
  obtain ⟨S, ds, d, tr, rl, e, q⟩ := h
  match ds, e with
  | [a], e =>
    obtain ⟨v, rfl, ra⟩ := rl.sing
    have e : strD a = some d := e
    cases a with
    | int i =>
      obtain ⟨g, rfl⟩ := gd_some e
      cases ra.int_of
      exact call_str_int pins s σ H _ us Q I r ⟨i, rfl, of_decide_eq_true g, q.atom (.str _)⟩
    | _ => cases e
theorem merge_rep {C : Kt} : ∀ {zs : List D} {ys : List V} {acc : List (D × D)} {out : List (D × D)} {kvs : List (Key × V)} {ds : List D}, RepL C S H ys zs → mergeD acc zs = some out → acc = (kvs.map fun p => keyOfD p.1).zip ds → RepL C S H (kvs.map (·.2)) ds →
    ∃ (ps : List Addr) (more : List (Key × V)) (es : List D), ys = ps.map V.ref ∧ Paired (fun p kv => SqT C.K H p [kV kv.1, kv.2]) ps more ∧ out = ((mergeK kvs more).map fun p => keyOfD p.1).zip es ∧ RepL C S H ((mergeK kvs more).map (·.2)) es
  | [], _, acc, out, kvs, ds, r, e, ea, ra => by
    cases r
    cases e
    exact ⟨[], [], ds, rfl, .nil, ea, ra⟩
  | z :: zs, _, acc, out, kvs, ds, r, e, ea, ra => by
    cases r with
    | @cons y ys' _ _ r1 r2 =>
      cases z with
      | tuple l =>
        match l, e, r1 with
        | [.int k, d], e, r1 =>
          obtain ⟨a, xs, rfl, ha, hz, rr⟩ := r1.tuple_of
          obtain ⟨v, w, rfl, rk, rw'⟩ := rr.pair
          cases rk.int_of
          have e : mergeD (storeD acc (.int k) d) zs = some out := e
          obtain ⟨ds', h1, h2⟩ := storeK (k := .inl k) ra rw'
          subst ea
          obtain ⟨ps, more, es, q1, q2, q3, q4⟩ := merge_rep r2 e h1 h2
          exact ⟨a :: ps, (.inl k, w) :: more, es, by rw [q1]; rfl, .cons ha q2, q3, q4⟩
      | _ => cases e
/-- pairs whose keys are tuples, one by one -/
def mgN (kvs more : List (NestedKey × Addr × V)) : List (NestedKey × Addr × V) := more.foldl (fun acc p => putN acc p.1 p.2.1 p.2.2) kvs
theorem pn_mg : ∀ {more : List (NestedKey × Addr × V)} {rs : List (NestedKey × Addr × Value)} {kvs : List (NestedKey × Addr × V)} {xs : List (NestedKey × Addr × Value)}, Paired PN more rs → Paired PN kvs xs → Paired PN (mgN kvs more) (storedAllH xs rs)
  | _, _, kvs, xs, .nil, q => q
  | _, _, kvs, xs, .cons (a := p) (b := r) h t, q => by
    unfold mgN storedAllH
    rw [List.foldl_cons, List.foldl_cons]
    obtain ⟨k, a, v⟩ := p
    obtain ⟨k', a', u⟩ := r
    obtain ⟨rfl, rfl, h3⟩ := h
    exact pn_mg t (pn_put k a h3 q)
theorem length_mgN : ∀ (more kvs : List (NestedKey × Addr × V)), (mgN kvs more).length ≤ kvs.length + more.length
  | [], _ => Nat.le_refl _
  | p :: more, kvs => by
    have := length_mgN more (putN kvs p.1 p.2.1 p.2.2)
    have := length_putN kvs p.1 p.2.1 p.2.2
    unfold mgN at *
    rw [List.foldl_cons, List.length_cons]
    omega
theorem mergeN_rep (I : Inv X pins σ H s) : ∀ {zs : List D} {ys : List V} {acc out : List (D × D)} {kvs : List (NestedKey × Addr × V)} {ks ds : List D}, RepL (kt X) S H ys zs → mergeN acc zs = some out → acc = ks.zip ds →
    keysN ks = some (kvs.map (·.1)) → RepL (kt X) S H (kvs.map fun p => V.ref p.2.1) ks → (∀ p ∈ kvs, p.1.depth ≤ 8) → RepL (kt X) S H (kvs.map (·.2.2)) ds →
    ∃ (ps : List Addr) (more : List (NestedKey × Addr × V)) (ks' es : List D), ys = ps.map V.ref ∧ Paired (fun p x => SqT X.K H p [V.ref x.2.1, x.2.2]) ps more ∧ (∀ x ∈ more, (nestedKind X.prog X.w).is s.heap x.1 x.2.1) ∧ out = ks'.zip es ∧
      keysN ks' = some ((mgN kvs more).map (·.1)) ∧ RepL (kt X) S H ((mgN kvs more).map fun p => V.ref p.2.1) ks' ∧ (∀ p ∈ mgN kvs more, p.1.depth ≤ 8) ∧ RepL (kt X) S H ((mgN kvs more).map (·.2.2)) es
  | [], _, acc, out, kvs, ks, ds, r, e, ea, h1, h2, h3, h4 => by
    cases r
    cases e
    exact ⟨[], [], ks, ds, rfl, .nil, (fun _ h => nomatch h), ea, h1, h2, h3, h4⟩
  | z :: zs, _, acc, out, kvs, ks, ds, r, e, ea, h1, h2, h3, h4 => by
    cases r with
    | @cons y ys' _ _ r1 r2 =>
      cases z with
      | tuple l =>
        match l, e, r1 with
        | [x, d], e, r1 =>
          obtain ⟨a, xs, rfl, ha, hz, rr⟩ := r1.tuple_of
          obtain ⟨v, w, rfl, rk, rw'⟩ := rr.pair
          have e : cond (tupK x) (mergeN (storeD acc x d) zs) none = some out := e
          cases ht : tupK x with
          | false => rw [ht] at e; cases e
          | true =>
            rw [ht] at e
            obtain ⟨xs, k, rfl, hk, hd⟩ := tupK_of ht
            have rk' := rk
            obtain ⟨b, _, rfl, _, _, _⟩ := rk.tuple_of
            obtain ⟨ks', ds', q1, q2, q3, q4, q5⟩ := storeN h1 h2 h3 h4 hk hd rk' rw'
            subst ea
            obtain ⟨ps, more, ks2, es, p1, p2, p3, p4⟩ := mergeN_rep I r2 e q1 q2 q3 q4 q5
            refine ⟨a :: ps, (k, b, w) :: more, ks2, es, by rw [p1]; rfl, .cons ha p2, fun z hz => ?_, p4⟩
            rcases List.mem_cons.mp hz with rfl | hz
            · exact ⟨Rep.key I (u := .ref b) rk' hk rfl, hd⟩
            · exact p3 z hz
      | _ => cases e
theorem pairs_N (I : Inv X pins σ H s) : ∀ {ps : List Addr} {more : List (NestedKey × Addr × V)}, Paired (fun p (x : NestedKey × Addr × V) => SqT X.K H p [V.ref x.2.1, x.2.2]) ps more →
    ∃ rs : List (NestedKey × Addr × Value), Paired PN more rs ∧ rs.length = ps.length ∧ ∀ (j : Nat) (q : NestedKey × Addr × Value), rs[j]? = some q → ∃ b : Addr, ps[j]? = some b ∧ IsTup s.heap b #[.ref q.2.1, q.2.2]
  | _, _, .nil => ⟨[], .nil, rfl, fun j q e => by simp at e⟩
  | _, _, .cons (a := p) (b := x) h t => by
    obtain ⟨rs, r, hl, hp⟩ := pairs_N I t
    obtain ⟨its, rv, ht, _⟩ := I.tuple h
    obtain ⟨u, y, rfl, ru, ry⟩ := vals2 rv
    cases ru
    refine ⟨(x.1, x.2.1, y) :: rs, .cons ⟨rfl, rfl, ry⟩ r, by rw [List.length_cons, List.length_cons, hl], fun j q e => ?_⟩
    cases j with
    | zero => cases e; exact ⟨p, rfl, ht⟩
    | succ j =>
      obtain ⟨b, e1, e2⟩ := hp j q (by simpa using e)
      exact ⟨b, by simpa using e1, e2⟩
theorem call_dict_X (hc : X.calm = true) (hu : X.A.units + 20 < cLine) : CallR X (.type "dict") (rBi (kt X) .dictOf) := by
  intro pins s σ H xs us Q I r h
  obtain ⟨S, ds, d, tr, rl, e, q⟩ := h
  match ds, e with
  | [.list zs], e =>
    have e : (match mergeD [] zs with | some kvs => some (PyData.dict kvs) | none => (mergeN [] zs).map fun kvs => PyData.dict ((.none, .none) :: kvs)) = some d := e
    obtain ⟨v, rfl, ra⟩ := rl.sing
    obtain ⟨a, xs, rfl, na, ha, z, rr⟩ := ra.list_of
    cases e1 : mergeD [] zs with
    | some out =>
      rw [e1] at e
      cases e
      obtain ⟨ps, more, es, rfl, q2, rfl, q4⟩ := merge_rep (kvs := []) (ds := []) rr e1 rfl .nil
      have hl : (mergeK [] more).length ≤ sizeLine := by
        refine Nat.le_trans (length_mergeK more []) ?_
        rw [List.length_nil, Nat.zero_add, ← Paired.length q2]
        rw [List.length_map] at z
        exact z
      exact wp_lock (call_dictP hc pins s σ H _ us (QL Q) I r ⟨a, ps, more, rfl, .inl ha, q2, fun p hp => .inr ⟨p, _, rfl, upd_same, True.intro, fun o => by rw [upd_upd]; exact q _ _ (Same.upd hp) (.dK (tr.no hp) upd_same hl (q4.upd hp))⟩⟩)
    | none =>
      rw [e1] at e
      obtain ⟨out, e2, rfl⟩ := Option.map_eq_some_iff.mp e
      obtain ⟨ps, more, ks', es, rfl, q2, q3, rfl, q5, q6, q7, q8⟩ := mergeN_rep I (kvs := []) (ks := []) (ds := []) rr e2 rfl rfl .nil (fun _ h => nomatch h) .nil
      obtain ⟨rs, r1, r2, r3⟩ := pairs_N I q2
      obtain ⟨u, rfl, rx⟩ := vals1 r
      cases rx
      obtain ⟨its, rv, pl, hz⟩ := I.list (.inl ha)
      have ei := refs_at rv
      subst ei
      obtain ⟨o, n, ho, ho1, ho2, ho3⟩ := pl
      have ln : more.length = rs.length := Paired.length r1
      have hl : (mgN [] more).length ≤ sizeLine := by
        refine Nat.le_trans (length_mgN more []) ?_
        rw [List.length_nil, Nat.zero_add, ← Paired.length q2]
        rw [List.length_map] at z
        exact z
      have isk : ∀ x ∈ rs, (nestedKind X.prog X.w).is s.heap x.1 x.2.1 := fun x hx => by
        obtain ⟨j, hj⟩ := List.mem_iff_getElem?.mp hx
        have jl : j < more.length := by rw [ln]; exact (List.getElem?_eq_some_iff.mp hj).1
        obtain ⟨y, e3, e4, e5, _⟩ := paired_get r1 (i := j) (a := more[j]) (List.getElem?_eq_getElem jl)
        rw [hj] at e3
        cases e3
        rw [← e4, ← e5]
        exact q3 _ (List.getElem_mem jl)
      refine call_dict_pairsH (knd := nestedKind X.prog X.w) (ps := rs) (PairArg.list a _ (fun j => ps.getD j 0) (rs.map fun x => (Value.ref x.2.1, x.2.2))) (I.ok.hd hc) (by show X.A.in1.in1.units + 8 < cLine; simp; omega)
        ⟨⟨o, n, ho, ho1, ho2, ho3⟩, by simp [r2], fun j k v hj => ?_⟩ ⟨by simp, fun i k v hi => ?_⟩ (fun h' hk x hx => ?_) (by rw [List.length_map, r2]; rw [List.length_map] at z; exact z) fun h' tk hd' k => ?_
      · rw [List.getElem?_map] at hj
        obtain ⟨x, hx, e4⟩ := Option.map_eq_some_iff.mp hj
        cases e4
        obtain ⟨b, e5, e6⟩ := r3 j x hx
        have e7 : ps.getD j 0 = b := by rw [List.getD_eq_getElem?_getD, e5]; rfl
        show (List.map Value.ref ps).toArray[j]? = some (Value.ref (ps.getD j 0)) ∧ PairAt s.heap (ps.getD j 0) (Value.ref x.2.1) x.2.2
        rw [e7]
        exact ⟨by simp [e5], .inl e6⟩
      · have hi : (rs.map fun x => (Value.ref x.2.1, x.2.2))[i]? = some (k, v) := hi
        rw [List.getElem?_map] at hi
        obtain ⟨x, hx, e4⟩ := Option.map_eq_some_iff.mp hi
        cases e4
        exact ⟨x.1, x.2.1, hx, rfl⟩
      · have fr : s.heap.get? s.heap.objs.size = none := by
          cases qq : s.heap.get? s.heap.objs.size with
          | none => rfl
          | some o => exact absurd (Heap.lt_size qq) (Nat.lt_irrefl _)
        exact isK_keep (isk x hx) fun c o e => hk c o (fun z => by rw [z, fr] at e; cases e) (fun z => nomatch z) e
      · have hm : (s.heap.objs.size == sysModules) = false := beq_eq_false_iff_ne.mpr (Nat.ne_of_gt I.big)
        have hn := I.hok.fresh (Nat.le_refl s.heap.objs.size)
        obtain ⟨od, J⟩ := (I.laid (t' := tk) (o := nO X.prog X.w s.heap.objs.size (mgN [] more)) (fun b o e => k b o (fun z => nomatch z) e) (Nat.le_refl _) (nO_ok hm (pn_mg r1 .nil) hd')).lock upd_same True.intro
        rw [upd_upd] at J
        refine ⟨.ref s.heap.objs.size, _, J, rfl, ?_⟩
        exact q _ _ (Same.upd hn) (.dN (tr.no hn) upd_same hl (q6.upd hn) q5 q7 (q8.upd hn))

/-! ### isinstance -/
def tyN : Ty → String
  | .int => "int" | .bool => "bool" | .str => "str" | .tuple => "tuple" | .list => "list"
def tyD : D → String
  | .none => "NoneType" | .bool _ => "bool" | .int _ => "int" | .str _ => "str" | .tuple _ => "tuple" | .list _ => "list" | .dict kvs => cond (isFL kvs) "list" "dict"
theorem Rep.kitX (I : Inv X pins σ H s) {d : D} {v : V} {u : Value} (r : Rep (kt X) S H v d) (rv : RelV v u) : ∃ P : Heap → Prop, PySem.W.KitX X.K u (.type (tyD d)) P ∧ P s.heap ∧ u ≠ .builtin "__main__.__loader__#opaque" := by
  cases d with
  | none => cases r; cases rv; exact ⟨_, PySem.W.kitx_none, True.intro, fun z => nomatch z⟩
  | bool b => cases r; cases rv; exact ⟨_, PySem.W.kitx_bool, True.intro, fun z => nomatch z⟩
  | int i => cases r; obtain ⟨t, rfl⟩ := rv; exact ⟨_, PySem.W.kitx_int, True.intro, fun z => nomatch z⟩
  | str x => cases r; obtain ⟨t, rfl⟩ := rv; exact ⟨_, PySem.W.kitx_str, True.intro, fun z => nomatch z⟩
  | list ds =>
    obtain ⟨a, xs, rfl, na, ha, z, ra⟩ := r.list_of
    cases rv
    obtain ⟨its, _, ⟨o, n, e, hc, _⟩, _⟩ := I.list (.inl ha)
    exact ⟨_, PySem.W.kitx_list, ⟨o, e, hc⟩, fun z => nomatch z⟩
  | tuple ds =>
    obtain ⟨a, xs, rfl, ha, z, ra⟩ := r.tuple_of
    cases rv
    obtain ⟨its, _, ⟨o, e, hc, _⟩, _⟩ := I.tuple ha
    exact ⟨_, PySem.W.kitx_tuple, ⟨o, e, hc⟩, fun z => nomatch z⟩
  | dict ps =>
    cases hf : isFL ps with
    | true =>
      obtain ⟨a, xs, ds, rfl, rfl, ha, z, ra⟩ := RepB.kl_of0 r hf
      cases rv
      obtain ⟨its, _, ⟨o, n, e, hc, _⟩, _⟩ := I.list ha.sq
      exact ⟨_, PySem.W.kitx_list, ⟨o, e, hc⟩, fun z => nomatch z⟩
    | false =>
    have et : tyD (.dict ps) = "dict" := by simp only [tyD, hf, cond_false]
    rw [et]
    obtain ⟨a, rfl, na, da⟩ := r.dict_of hf
    cases rv
    cases da with
    | k h z hv =>
      obtain ⟨_, _, vs, _, o, es, ep, h1, h2, _⟩ := (show ObjOk X.prog X.w H s.heap a (.dK _) from rd_ok I h)
      exact ⟨_, PySem.W.kitx_dict, ⟨o, h1, h2.1⟩, fun z => nomatch z⟩
    | n h z hk hd hd' hv =>
      obtain ⟨⟨_, _, _, o, es, ep, h1, h2, _⟩, _⟩ := (show ObjOk X.prog X.w H s.heap a (nO X.prog X.w a _) from rd_ok I h)
      exact ⟨_, PySem.W.kitx_dict, ⟨o, h1, h2.1⟩, fun z => nomatch z⟩
theorem kit_tab (K : PySem.W.Frag) (t : Ty) (d : D) : PySem.W.kitOne K (.type (tyD d)) (.type (tyN t)) = some (isIn t d) := by
  have h : ∀ t : Ty, kitB "NoneType" (tyN t) = some false ∧ kitB "bool" (tyN t) = some (decide (t = .int ∨ t = .bool)) ∧ kitB "int" (tyN t) = some (decide (t = .int)) ∧ kitB "str" (tyN t) = some (decide (t = .str)) ∧
      kitB "tuple" (tyN t) = some (decide (t = .tuple)) ∧ kitB "list" (tyN t) = some (decide (t = .list)) ∧ kitB "dict" (tyN t) = some false := by
    intro t
    cases t <;> decide +kernel
  obtain ⟨h1, h2, h3, h4, h5, h6, h7⟩ := h t
  cases d with
  | none => refine kit_ty (h1.trans ?_); cases t <;> rfl
  | bool b => refine kit_ty (h2.trans ?_); cases t <;> rfl
  | int i => refine kit_ty (h3.trans ?_); cases t <;> rfl
  | str x => refine kit_ty (h4.trans ?_); cases t <;> rfl
  | tuple x => refine kit_ty (h5.trans ?_); cases t <;> rfl
  | list x => refine kit_ty (h6.trans ?_); cases t <;> rfl
  | dict x =>
    cases hf : isFL x with
    | true => simp only [tyD, hf, cond_true]; refine kit_ty (h6.trans ?_); cases t <;> simp [isIn, hf]
    | false => simp only [tyD, hf, cond_false]; refine kit_ty (h7.trans ?_); cases t <;> simp [isIn, hf]
theorem call_isI_X (t : Ty) : CallR X (.builtin "isinstance") (fun xs H Q => ∃ S v d, xs = [v, .ty (tyN t)] ∧ Rep (kt X) S H v d ∧ Q (.bl (isIn t d)) H) := by
  intro pins s σ H xs us Q I r h
  obtain ⟨S, v, d, rfl, rd, q⟩ := h
  obtain ⟨u1, u2, rfl, r1, r2⟩ := vals2 r
  obtain rfl : u2 = .type (tyN t) := r2
  obtain ⟨P, Z, p, hx⟩ := Rep.kitX I rd r1
  exact PySem.W.kia_one Z I.kIn p (kit_tab X.K t d) hx fun tk => ⟨.bl _, H, I.tok tk, rfl, q⟩
end
end PI
end
section
/-! Soundness of expressions: what an expression is read as, rule by rule. -/
namespace PI
open PySem PySem.Spec PyProof.Rows L2
/-- what is wanted of a result -/
def Post (XC : Nat → Value → Prop) (W : WX) (σ : L2.St) (H : Hp) {α : Type} (K : α → Hp → Prop) : R α → Prop
  | .ok a => ∀ H', Same H H' → K a H'
  | .exc c => ∀ cls H', XC c cls → Same H H' → W cls none σ H'
  | .stuck => False
section
variable {XC : Nat → Value → Prop} {W : WX} {σ : L2.St} {H H1 : Hp} {α β : Type} {K : α → Hp → Prop} {K2 : β → Hp → Prop}
theorem Post.same {r : R α} (s : Same H H1) (h : Post XC W σ H K r) : Post XC W σ H1 K r := by
  cases r with
  | ok a => exact fun H' t => h H' (s.trans t)
  | exc c => exact fun cls H' x t => h cls H' x (s.trans t)
  | stuck => exact h
theorem Post.imp {K' : α → Hp → Prop} {r : R α} (h : Post XC W σ H K r) (i : ∀ a H', Same H H' → K a H' → K' a H') : Post XC W σ H K' r := by
  cases r with
  | ok a => exact fun H' t => i a H' t (h H' t)
  | exc c => exact h
  | stuck => exact h
theorem Post.bind {r : R α} {f : α → R β} (h : Post XC W σ H K2 (R.bind r f)) : Post XC W σ H (fun a H1 => Post XC W σ H1 K2 (f a)) r := by
  cases r with
  | ok a => exact fun H' t => Post.same t h
  | exc c => exact h
  | stuck => exact h
theorem Post.lift {o : Option α} (h : Post XC W σ H K (lift o)) : ∃ a, o = some a ∧ ∀ H', Same H H' → K a H' := by
  cases o with
  | none => exact h.elim
  | some a => exact ⟨a, rfl, h⟩
theorem Post.here {a : α} (h : Post XC W σ H K (.ok a)) : K a H := h H (Same.refl H)
end
/-- an expression, a test, an argument list that is read as f -/
def rd (C : Kt) (XC : Nat → Value → Prop) (W : WX) (f : En → R D) : TE := fun σ H Q => ∃ S0 B env, ER C S0 B σ H env ∧ Post XC W σ H (fun d H' => ∀ v, Rep C (OS S0 env σ) H' v d → Q v H') (f env)
def rdB (C : Kt) (XC : Nat → Value → Prop) (W : WX) (f : En → R D) : TE := fun σ H Q => ∃ S0 B env, ER C S0 B σ H env ∧ Post XC W σ H (fun d H' => ∀ v, RepB C (OS S0 env σ) H' v d → Q v H') (f env)
def rdA (C : Kt) (XC : Nat → Value → Prop) (W : WX) (f : En → R (List D)) : TA := fun σ H Q => ∃ S0 B env, ER C S0 B σ H env ∧ Post XC W σ H (fun ds H' => ∀ vs, RepL C (OS S0 env σ) H' vs ds → Q vs H') (f env)
def rdT (C : Kt) (XC : Nat → Value → Prop) (W : WX) (f : En → R D) : TT := fun σ H Q => ∃ S0 B env, ER C S0 B σ H env ∧ Post XC W σ H (fun b H' => Q b H') (R.bind (f env) fun x => lift (truthD x))
theorem ER.trk {C : Kt} {S0 : Addr → Prop} {B H : Hp} {σ : L2.St} {env : En} (e : ER C S0 B σ H env) : Trk (OS S0 env σ) H := fun _ h => e.there h
section
variable {X : Cx} {XC : Nat → Value → Prop} {W : WX}
theorem pe_imp {e : Expr} {t t' : TE} (h : PE X e t) (i : ∀ σ H Q, t' σ H Q → t σ H Q) : PE X e t' := ⟨fun pins s σ H Q I q => h.run pins s σ H Q I (i σ H Q q)⟩
theorem pt_imp {e : Expr} {t t' : TT} (h : PT X e t) (i : ∀ σ H Q, t' σ H Q → t σ H Q) : PT X e t' := ⟨fun pins s σ H Q I q => h.run pins s σ H Q I (i σ H Q q)⟩
theorem pw_imp {e : Expr} {t t' : TT} (h : PW X e t) (i : ∀ σ H Q, t' σ H Q → t σ H Q) : PW X e t' := ⟨fun wh pins s σ H Q I q => h.run wh pins s σ H Q I (i σ H Q q)⟩
theorem pa_imp {e : List Expr} {t t' : TA} (h : PA X e t) (i : ∀ σ H Q, t' σ H Q → t σ H Q) : PA X e t' := ⟨fun pos pins s σ H Q I q => h.run pos pins s σ H Q I (i σ H Q q)⟩
theorem rdB_of {e : Expr} {f : En → R D} (h : PE X e (rd (kt X) XC W f)) : PE X e (rdB (kt X) XC W f) := pe_imp h fun σ H Q ⟨S0, B, env, er, p⟩ => ⟨S0, B, env, er, p.imp fun _ _ _ k v r => k v r.b⟩
theorem rd_stuck {e : Expr} {t : TE} : PE X e (rd (kt X) XC W fun _ => .stuck) := ⟨fun _ _ _ _ _ _ ⟨_, _, _, _, p⟩ => p.elim⟩
theorem rdB_stuck {e : Expr} : PE X e (rdB (kt X) XC W fun _ => .stuck) := ⟨fun _ _ _ _ _ _ ⟨_, _, _, _, p⟩ => p.elim⟩
theorem rdT_stuck {e : Expr} : PT X e (rdT (kt X) XC W fun _ => .stuck) := ⟨fun _ _ _ _ _ _ ⟨_, _, _, _, p⟩ => p.elim⟩
/-! ### names, constants -/
theorem s_var {i : Nat} {x : Str} {pos : Pos} (hN : X.N[i]? = some x) (hv : Vis X.env.scope x) (hd : (x == ("__debug__" : Str)) = false) (hcd : (x == ("__classdict__" : Str)) = false) : PE X (.Name x pos) (rd (kt X) XC W fun env => lift (valOf (slotAt env i))) := by
  refine pe_imp (pe_var hN hv hd hcd) fun σ H Q ⟨S0, B, env, er, p⟩ => ?_
  obtain ⟨d, e, k⟩ := p.lift
  cases hs : slotAt env i with
  | val d' =>
    rw [hs] at e
    cases e
    obtain ⟨v, hv, r⟩ := er.var hs
    exact ⟨v, hv, k H (Same.refl H) v r⟩
  | emp => rw [hs] at e; cases e
  | own _ => rw [hs] at e; cases e
theorem s_bor {i : Nat} {x : Str} {pos : Pos} (hN : X.N[i]? = some x) (hv : Vis X.env.scope x) (hd : (x == ("__debug__" : Str)) = false) (hcd : (x == ("__classdict__" : Str)) = false) : PE X (.Name x pos) (rdB (kt X) XC W fun env => lift (borOf (slotAt env i))) := by
  refine pe_imp (pe_var hN hv hd hcd) fun σ H Q ⟨S0, B, env, er, p⟩ => ?_
  obtain ⟨d, e, k⟩ := p.lift
  cases hs : slotAt env i with
  | val d' =>
    rw [hs] at e
    cases e
    obtain ⟨v, hv, r⟩ := er.var hs
    exact ⟨v, hv, k H (Same.refl H) v r.b⟩
  | emp => rw [hs] at e; cases e
  | own d' =>
    rw [hs] at e
    cases e
    have q := er.slots i
    rw [hs] at q
    obtain ⟨a, h1, h2, h3⟩ := q
    exact ⟨.ref a, h1, k H (Same.refl H) _ (.inr ⟨a, rfl, h2, h3⟩)⟩
theorem s_int {i : Int} {j : Nat} {pos : Pos} : PE X (.Constant (.int i) j pos) (rd (kt X) XC W fun _ => .ok (.int i)) := pe_imp pe_int fun σ H Q ⟨S0, B, env, er, p⟩ => p.here _ (.int i)
theorem s_str {i : Str} {j : Nat} {pos : Pos} : PE X (.Constant (.str i) j pos) (rd (kt X) XC W fun _ => .ok (.str i)) := pe_imp pe_str fun σ H Q ⟨S0, B, env, er, p⟩ => p.here _ (.str i)
theorem s_bool {i : Bool} {j : Nat} {pos : Pos} : PE X (.Constant (.bool i) j pos) (rd (kt X) XC W fun _ => .ok (.bool i)) := pe_imp pe_bl fun σ H Q ⟨S0, B, env, er, p⟩ => p.here _ (.bl i)
theorem s_none {j : Nat} {pos : Pos} : PE X (.Constant .none j pos) (rd (kt X) XC W fun _ => .ok .none) := pe_imp pe_non fun σ H Q ⟨S0, B, env, er, p⟩ => p.here _ .non
/-- a constant of the module -/
def GlbOk (X : Cx) (x : Str) (d : D) : Prop := ∃ v u, X.mg x = some u ∧ RelV v u ∧ ∀ S H, Rep (kt X) S H v d
theorem s_glb {x : Str} {d : D} {pos : Pos} (h : GlbOk X x d) (hg : Gl X x) (hd : (x == ("__debug__" : Str)) = false) : PE X (.Name x pos) (rd (kt X) XC W fun _ => .ok d) := by
  obtain ⟨v, u, hm, r, k⟩ := h
  exact pe_imp (pe_glob hg hm r hd) fun σ H Q ⟨S0, B, env, er, p⟩ => p.here _ (k _ _)

/-! ### operators -/
section
variable {a b c : Expr} {f g k : En → R D} {pos : Pos}
theorem s_bin {o : BOp} (ha : PE X a (rd (kt X) XC W f)) (hb : PE X b (rd (kt X) XC W g)) : PE X (.BinOp a (opOf o) b pos) (rd (kt X) XC W fun env => R.bind (f env) fun x => R.bind (g env) fun y => lift (binD o x y)) := by
  refine pe_imp (pe_op (op_bin o) ha hb) fun σ H Q ⟨S0, B, env, er, p⟩ => ⟨S0, B, env, er, p.bind.imp fun x H1 s1 p1 v rv => ⟨S0, B, env, er.same s1, p1.bind.imp fun y H2 s2 p2 w rw' => ?_⟩⟩
  obtain ⟨d, e, q⟩ := p2.lift
  exact ⟨OS S0 env σ, x, y, d, (er.same (s1.trans s2)).trk, rv.same s2, rw', e, fun v H' s r => q H' s v r⟩
theorem s_neg (ha : PE X a (rd (kt X) XC W f)) : PE X (.UnaryOp .USub a pos) (rd (kt X) XC W fun env => R.bind (f env) fun x => lift (negD x)) := by
  refine pe_imp (pe_un op_negD ha) fun σ H Q ⟨S0, B, env, er, p⟩ => ⟨S0, B, env, er, p.bind.imp fun x H1 s1 p1 v rv => ?_⟩
  obtain ⟨d, e, q⟩ := p1.lift
  exact ⟨OS S0 env σ, x, d, rv, e, fun v H' s r => q H' s v r⟩
theorem tru_run {S : Addr → Prop} {H : Hp} {v : V} {x : D} {t : Bool} (r : Rep (kt X) S H v x) (e : truthD x = some t) : TruV X.K v H t := by
  cases x with
  | none => cases r; cases e; rfl
  | bool c => cases r; cases e; rfl
  | int i => cases r; cases e; rfl
  | list ds =>
    obtain ⟨a, xs, rfl, na, ha, za, ra⟩ := r.list_of
    cases e
    refine .inl ⟨xs, .inl ha, ?_⟩
    have := ra.length
    cases xs <;> cases ds <;> first | rfl | (simp at this)
  | tuple ds =>
    obtain ⟨a, xs, rfl, ha, za, ra⟩ := r.tuple_of
    cases e
    refine .inr (.inl ⟨xs, ha, ?_⟩)
    have := ra.length
    cases xs <;> cases ds <;> first | rfl | (simp at this)
  | str _ => cases e
  | dict _ => cases e
theorem s_not (ha : PE X a (rd (kt X) XC W f)) : PE X (.UnaryOp .Not a pos) (rd (kt X) XC W fun env => R.bind (f env) fun x => R.bind (lift (truthD x)) fun t => .ok (.bool (!t))) := by
  refine pe_imp (pe_notT ha) fun σ H Q ⟨S0, B, env, er, p⟩ => ⟨S0, B, env, er, p.bind.imp fun x H1 s1 p1 v rv => ?_⟩
  obtain ⟨t, e, q⟩ := p1.bind.lift
  exact ⟨t, tru_run rv e, (q H1 (Same.refl _)).here _ (.bl _)⟩
theorem s_and {rest : List Expr} (ha : PE X a (rd (kt X) XC W f)) (hb : PE X (.BoolOp .And (b :: rest) pos) (rd (kt X) XC W g)) : PE X (.BoolOp .And (a :: b :: rest) pos) (rd (kt X) XC W fun env => R.bind (f env) fun x => R.bind (lift (truthD x)) fun t => cond t (g env) (.ok x)) := by
  refine pe_imp (pe_andT ha hb) fun σ H Q ⟨S0, B, env, er, p⟩ => ⟨S0, B, env, er, p.bind.imp fun x H1 s1 p1 v rv => ?_⟩
  obtain ⟨t, e, q⟩ := p1.bind.lift
  refine ⟨t, tru_run rv e, ?_⟩
  have q := q H1 (Same.refl _)
  cases t with
  | true => exact ⟨S0, B, env, er.same s1, q⟩
  | false => exact q.here _ rv
theorem s_or {rest : List Expr} (ha : PE X a (rd (kt X) XC W f)) (hb : PE X (.BoolOp .Or (b :: rest) pos) (rd (kt X) XC W g)) : PE X (.BoolOp .Or (a :: b :: rest) pos) (rd (kt X) XC W fun env => R.bind (f env) fun x => R.bind (lift (truthD x)) fun t => cond t (.ok x) (g env)) := by
  refine pe_imp (pe_orT ha hb) fun σ H Q ⟨S0, B, env, er, p⟩ => ⟨S0, B, env, er, p.bind.imp fun x H1 s1 p1 v rv => ?_⟩
  obtain ⟨t, e, q⟩ := p1.bind.lift
  refine ⟨t, tru_run rv e, ?_⟩
  have q := q H1 (Same.refl _)
  cases t with
  | true => exact q.here _ rv
  | false => exact ⟨S0, B, env, er.same s1, q⟩
theorem s_ite (hc : PT X c (rdT (kt X) XC W f)) (ha : PE X a (rd (kt X) XC W g)) (hb : PE X b (rd (kt X) XC W k)) : PE X (.IfExp c a b pos) (rd (kt X) XC W fun env => R.bind (f env) fun x => R.bind (lift (truthD x)) fun t => cond t (g env) (k env)) := by
  refine pe_imp (pe_ifExp hc ha hb) fun σ H Q ⟨S0, B, env, er, p⟩ => ⟨S0, B, env, er, ?_⟩
  have p' : Post XC W σ H (fun d H' => ∀ v, Rep (kt X) (OS S0 env σ) H' v d → Q v H') (R.bind (R.bind (f env) fun x => lift (truthD x)) fun t => cond t (g env) (k env)) := by
    simp only [] at p
    cases hf : f env with
    | ok x => rw [hf] at p; exact p
    | exc _ => rw [hf] at p; exact p
    | stuck => rw [hf] at p; exact p
  refine p'.bind.imp fun t H1 s1 q => ?_
  cases t with
  | true => exact ⟨S0, B, env, er.same s1, q⟩
  | false => exact ⟨S0, B, env, er.same s1, q⟩
/-- a comparison whose second is no name for None -/
def plainC : COp → Bool
  | .isN => false
  | .notN => false
  | .isB _ => false
  | .notB _ => false
  | .inn => false
  | .nin => false
  | _ => true
theorem op_plain (hu : X.A.units + 65 < cLine) {o : COp} (ho : plainC o = true) : OpR X (compareOp (cmpOf o)) (rCmp (kt X) o) := by
  intro pins s σ H x y v u Q I rx ry h
  refine op_cmp hu o (fun c => ?_) pins s σ H x y v u Q I rx ry ⟨fun e => ?_, h⟩
  · rintro (rfl | rfl) <;> cases ho
  · rcases e with rfl | rfl <;> cases ho
theorem mark_plain {o : COp} (ho : plainC o = true) (b : Expr) : behindInMarks (cmpOf o) b = false := by
  refine nomark b ?_ ?_ <;> (cases o <;> first | (cases ho; done) | (intro z; cases z; done) | cases ho)
theorem go_cmp {r : R2} {o : COp} {ta : TE} {tb : TE} {σ : L2.St} {H : Hp} {Q : VK} {S0 : Addr → Prop} {B : Hp} {env : En} (er : ER (kt X) S0 B σ H env)
    (hr : ∀ {H2 : Hp} {x y : D} {v w : V} {t : Bool}, Rep (kt X) (OS S0 env σ) H2 v x → Rep (kt X) (OS S0 env σ) H2 w y → cmpD o x y = some t → Q (.bl t) H2 → r v w H2 Q)
    (p : Post XC W σ H (fun d H' => ∀ v, Rep (kt X) (OS S0 env σ) H' v d → Q v H') (R.bind (f env) fun x => R.bind (g env) fun y => R.bind (lift (cmpD o x y)) fun t => .ok (.bool t))) : tOp r (rd (kt X) XC W f) (rd (kt X) XC W g) σ H Q :=
  ⟨S0, B, env, er, p.bind.imp fun x H1 s1 p1 v rv => ⟨S0, B, env, er.same s1, p1.bind.imp fun y H2 s2 p2 w rw' => by
    obtain ⟨t, e, q⟩ := p2.bind.lift
    exact hr (rv.same s2) rw' e ((q H2 (Same.refl _)).here _ (.bl _))⟩⟩
theorem s_cmp (hu : X.A.units + 65 < cLine) {o : COp} (ho : plainC o = true) (ha : PE X a (rd (kt X) XC W f)) (hb : PE X b (rd (kt X) XC W g)) : PE X (.Compare a [cmpOf o] [b] pos) (rd (kt X) XC W fun env => R.bind (f env) fun x => R.bind (g env) fun y => R.bind (lift (cmpD o x y)) fun r => .ok (.bool r)) :=
  pe_imp (pe_cmpR (op_plain hu ho) ha hb (mark_plain ho b)) fun σ H Q ⟨S0, B, env, er, p⟩ => go_cmp (ta := rd (kt X) XC W f) (tb := rd (kt X) XC W g) er (fun h1 h2 e q => ⟨_, _, _, _, h1, h2, e, q⟩) p
theorem s_is {o : COp} (ho : o = .isN ∨ o = .notN) {j : Nat} {p2 : Pos} (ha : PE X a (rd (kt X) XC W f)) : PE X (.Compare a [cmpOf o] [.Constant .none j p2] pos) (rd (kt X) XC W fun env => R.bind (f env) fun x => R.bind (.ok .none) fun y => R.bind (lift (cmpD o x y)) fun r => .ok (.bool r)) := by
  rcases ho with rfl | rfl
  · refine pe_imp (pe_cmp (pc_isN ha) (nobehind _ (by decide) (by decide))) fun σ H Q ⟨S0, B, env, er, p⟩ => ⟨S0, B, env, er, p.bind.imp fun x H1 s1 p1 v rv => ?_⟩
    show Q (V.bl (decide (v = V.non))) H1
    rw [noneOf rv]
    exact p1.here _ (.bl _)
  · refine pe_imp (pe_cmp (pc_notN ha) (nobehind _ (by decide) (by decide))) fun σ H Q ⟨S0, B, env, er, p⟩ => ⟨S0, B, env, er, p.bind.imp fun x H1 s1 p1 v rv => ?_⟩
    show Q (V.bl (!decide (v = V.non))) H1
    rw [noneOf rv]
    exact p1.here _ (.bl _)
/-- what stands behind a boolean constant -/
theorem s_isB {o : COp} {c : Bool} (ho : o = .isB c ∨ o = .notB c) {j : Nat} {p2 : Pos} (ha : PE X a (rd (kt X) XC W f)) : PE X (.Compare a [cmpOf o] [.Constant (.bool c) j p2] pos) (rd (kt X) XC W fun env => R.bind (f env) fun x => R.bind (.ok (.bool c)) fun y => R.bind (lift (cmpD o x y)) fun r => .ok (.bool r)) := by
  rcases ho with rfl | rfl
  · refine pe_imp (pe_cmpR (op_isBX c) ha pe_bl (nomark _ (fun z => nomatch z) (fun z => nomatch z))) fun σ H Q ⟨S0, B, env, er, p⟩ => ⟨S0, B, env, er, p.bind.imp fun x H1 s1 p1 v rv => ?_⟩
    obtain ⟨t, e, q⟩ := (show Post XC W σ H1 _ (R.bind (lift (isBD c x)) fun r => R.ok (PyData.bool r)) from p1).bind.lift
    exact ⟨rfl, _, x, t, rv, e, (q H1 (Same.refl _)).here _ (.bl _)⟩
  · refine pe_imp (pe_cmpR (op_notBX c) ha pe_bl (nomark _ (fun z => nomatch z) (fun z => nomatch z))) fun σ H Q ⟨S0, B, env, er, p⟩ => ⟨S0, B, env, er, p.bind.imp fun x H1 s1 p1 v rv => ?_⟩
    obtain ⟨t, e, q⟩ := (show Post XC W σ H1 _ (R.bind (lift ((isBD c x).map (!·))) fun r => R.ok (PyData.bool r)) from p1).bind.lift
    obtain ⟨t', e', rfl⟩ := Option.map_eq_some_iff.mp e
    exact ⟨rfl, _, x, t', rv, e', (q H1 (Same.refl _)).here _ (.bl _)⟩
def inOf (neg : Bool) : COp := cond neg .nin .inn
theorem s_in (hu : X.A.units + 65 < cLine) (neg : Bool) (ha : PE X a (rd (kt X) XC W f)) (hb : PE X b (rdB (kt X) XC W g)) (hm : ∀ o, behindInMarks o b = false) : PE X (.Compare a [cond neg .NotIn .In] [b] pos) (rd (kt X) XC W fun env => R.bind (f env) fun x => R.bind (g env) fun y => R.bind (lift (cmpD (inOf neg) x y)) fun r => .ok (.bool r)) := by
  refine pe_imp (pe_cmpR (op_inX hu neg) ha hb (hm _)) fun σ H Q ⟨S0, B, env, er, p⟩ => ⟨S0, B, env, er, p.bind.imp fun x H1 s1 p1 v rv => ⟨S0, B, env, er.same s1, p1.bind.imp fun y H2 s2 p2 w rw' => ?_⟩⟩
  obtain ⟨t, e, q⟩ := p2.bind.lift
  have q := (q H2 (Same.refl _)).here _ (.bl _)
  cases neg with
  | false => exact ⟨_, x, y, t, rv.same s2, rw', e, q⟩
  | true =>
    obtain ⟨t', e', rfl⟩ := Option.map_eq_some_iff.mp (show (inD x y).map (!·) = some t from e)
    exact ⟨_, x, y, t', rv.same s2, rw', e', q⟩
theorem s_chain (hu : X.A.units + 65 < cLine) {o o' : COp} (ho : plainC o = true) (ho' : plainC o' = true) (ha : PE X a (rd (kt X) XC W f)) (hb : PE X b (rd (kt X) XC W g)) (hc : PE X c (rd (kt X) XC W k)) :
    PE X (.Compare a [cmpOf o, cmpOf o'] [b, c] pos) (rd (kt X) XC W fun env => R.bind (f env) fun x => R.bind (g env) fun y => R.bind (lift (cmpD o x y)) fun r => cond r (R.bind (k env) fun z => R.bind (lift (cmpD o' y z)) fun r' => .ok (.bool r')) (.ok (.bool false))) := by
  refine pe_imp (pe_chain (op_plain hu ho) (op_plain hu ho') ha hb hc (show behindInMarks (cmpOf o') c = false from mark_plain ho' c)) fun σ H Q ⟨S0, B, env, er, p⟩ => ⟨S0, B, env, er, p.bind.imp fun x H1 s1 p1 v rv => ⟨S0, B, env, er.same s1, p1.bind.imp fun y H2 s2 p2 w rw' => ?_⟩⟩
  obtain ⟨t, e, q⟩ := p2.bind.lift
  have q := q H2 (Same.refl _)
  refine ⟨_, x, y, t, rv.same s2, rw', e, t, rfl, ?_⟩
  cases t with
  | false => exact q.here _ (.bl _)
  | true =>
    refine ⟨S0, B, env, (er.same s1).same s2, (show Post XC W σ H2 _ (R.bind (k env) fun z => R.bind (lift (cmpD o' y z)) fun r' => R.ok (PyData.bool r')) from q).bind.imp fun z H3 s3 p3 u ru => ?_⟩
    obtain ⟨t', e', q'⟩ := p3.bind.lift
    exact ⟨_, y, z, t', rw'.same s3, ru, e', (q' H3 (Same.refl _)).here _ (.bl _)⟩

/-! ### lists of expressions, displays -/
theorem star_of {e : Expr} (h : ∀ e' p, e ≠ .Starred e' p) (es : List Expr) (env : Env) : starEach (e :: es) env = (false, eval e env) :: starEach es env := by
  cases e <;> first | rfl | exact absurd rfl (h _ _)
theorem s_nil : PA X [] (rdA (kt X) XC W fun _ => .ok []) := pa_imp pa_nil fun σ H Q ⟨S0, B, env, er, p⟩ => p.here _ .nil
theorem s_cons {es : List Expr} {h : En → R (List D)} (hs : ∀ e' p, a ≠ .Starred e' p) (ha : PE X a (rd (kt X) XC W f)) (hr : PA X es (rdA (kt X) XC W h)) : PA X (a :: es) (rdA (kt X) XC W fun env => R.bind (f env) fun x => R.bind (h env) fun xs => .ok (x :: xs)) :=
  pa_imp (pa_cons ha hr (star_of hs es X.env)) fun σ H Q ⟨S0, B, env, er, p⟩ => ⟨S0, B, env, er, p.bind.imp fun x H1 s1 p1 v rv => ⟨S0, B, env, er.same s1, p1.bind.imp fun ys H2 s2 p2 ws rws => p2.here _ (.cons (rv.same s2) rws)⟩⟩
theorem s_tup {es : List Expr} {h : En → R (List D)} {x1 : Nat} (hl : es.length ≤ 1000) (hn : ∀ env ds, h env = .ok ds → ds.length = es.length) (ha : PA X es (rdA (kt X) XC W h)) : PE X (.Tuple es x1 pos) (rd (kt X) XC W fun env => R.bind (h env) fun ds => .ok (.tuple ds)) := by
  refine pe_imp (pe_tup ha) fun σ H Q ⟨S0, B, env, er, p⟩ => ⟨S0, B, env, er, ?_⟩
  simp only [] at p
  cases hh : h env with
  | stuck => rw [hh] at p; exact p
  | exc c => rw [hh] at p; exact p
  | ok ds =>
    rw [hh] at p
    intro H1 s1 vs rvs
    have hz : vs.length ≤ sizeLine := by
      have := hn env ds hh
      have := rvs.length
      have := sizeLine_eq
      omega
    exact ⟨hz, fun q hq => p _ (s1.trans (Same.upd hq)) _ (.tup (SqT.of upd_same) hz (rvs.upd hq))⟩
theorem s_lst {es : List Expr} {h : En → R (List D)} (hl : es.length ≤ 1000) (hn : ∀ env ds, h env = .ok ds → ds.length = es.length) (ha : PA X es (rdA (kt X) XC W h)) : PE X (.List es pos) (rd (kt X) XC W fun env => R.bind (h env) fun ds => .ok (.list ds)) := by
  refine pe_imp (pe_lst ha) fun σ H Q ⟨S0, B, env, er, p⟩ => ⟨S0, B, env, er, ?_⟩
  simp only [] at p
  cases hh : h env with
  | stuck => rw [hh] at p; exact p
  | exc c => rw [hh] at p; exact p
  | ok ds =>
    rw [hh] at p
    intro H1 s1 vs rvs
    have hz : vs.length ≤ sizeLine := by
      have := hn env ds hh
      have := rvs.length
      have := sizeLine_eq
      omega
    exact ⟨hz, fun q hq => p _ (s1.trans (Same.upd hq)) _ (.lst ((er.same s1).trk.no hq) (.inl upd_same) hz (rvs.upd hq))⟩

/-! ### items, slices -/
theorem s_idx (hu : X.A.units + 20 < cLine) (ha : PE X a (rdB (kt X) XC W f)) (hb : PE X b (rd (kt X) XC W g)) (hs : PlainIx b) : PE X (.Subscript a b pos) (rd (kt X) XC W fun env => R.bind (f env) fun x => R.bind (g env) fun y => lift (idxD x y)) := by
  refine pe_imp (pe_ix (ix_D hu) ha hb hs) fun σ H Q ⟨S0, B, env, er, p⟩ => ⟨S0, B, env, er, p.bind.imp fun x H1 s1 p1 v rv => ⟨S0, B, env, er.same s1, p1.bind.imp fun y H2 s2 p2 w rw' => ?_⟩⟩
  obtain ⟨d, e, q⟩ := p2.lift
  refine ⟨OS S0 env σ, x, y, d, ?_, rw', e, fun v H' s r => q H' s v r⟩
  rcases rv with rv | ⟨a, rfl, sa, o⟩
  · exact .inl (rv.same s2)
  · exact .inr ⟨a, rfl, sa, o.keep (.of_same s2) (fun _ h => h) fun u h => s2 _ _ h⟩
/-- a bound of a slice -/
def rdO (C : Kt) (XC : Nat → Value → Prop) (W : WX) (f : En → R (Option Int)) : TO := fun σ H Q => ∃ S0 B env, ER C S0 B σ H env ∧ Post XC W σ H (fun o H' => Q o H') (f env)
theorem s_non : PO X none (rdO (kt X) XC W fun _ => .ok none) := ⟨fun pins s σ H Q I ⟨S0, B, env, er, p⟩ => po_none.run pins s σ H Q I p.here⟩
theorem s_som {e : Expr} (h : PE X e (rd (kt X) XC W f)) : PO X (some e) (rdO (kt X) XC W fun env => R.bind (f env) fun x => lift (partD x)) := ⟨fun pins s σ H Q I ⟨S0, B, env, er, p⟩ => (po_some h).run pins s σ H Q I ⟨S0, B, env, er, p.bind.imp fun x H1 s1 p1 v rv => by
  obtain ⟨o, e, q⟩ := p1.lift
  cases x with
  | int i => cases e; exact ⟨i, rv.int_of, q H1 (Same.refl _)⟩
  | _ => cases e⟩⟩
theorem s_slc {lo hi : Option Expr} {l h : En → R (Option Int)} {p2 : Pos} (ha : PE X a (rd (kt X) XC W f)) (hl : PO X lo (rdO (kt X) XC W l)) (hh : PO X hi (rdO (kt X) XC W h)) :
    PE X (.Subscript a (.Slice lo hi none p2) pos) (rd (kt X) XC W fun env => R.bind (f env) fun x => R.bind (l env) fun lo => R.bind (h env) fun hi => lift (sliceD x lo hi)) := by
  refine pe_imp (pe_slice sl_D ha hl hh) fun σ H Q ⟨S0, B, env, er, p⟩ => ⟨S0, B, env, er, p.bind.imp fun x H1 s1 p1 v rv => ⟨S0, B, env, er.same s1, p1.bind.imp fun lo H2 s2 p2 => ⟨S0, B, env, (er.same s1).same s2, p2.bind.imp fun hi H3 s3 p3 => ?_⟩⟩⟩
  obtain ⟨d, e, q⟩ := p3.lift
  exact ⟨OS S0 env σ, x, d, (((er.same s1).same s2).same s3).trk, (rv.same s2).same s3, e, fun v H' s r => q H' s v r⟩

/-! ### calls of built-in functions -/
theorem back_plain {es : List Expr} {env : Env} (h : ∀ e ∈ es, ∀ e' p, e ≠ .Starred e' p) (pos : Pos) : (backTo pos (starEach es env)).any (·.1) = false := by
  induction es with
  | nil => rfl
  | cons e es ih =>
    rw [star_of (h e List.mem_cons_self) es env]
    show (false || (backTo pos (starEach es env)).any (·.1)) = false
    rw [ih fun e' he => h e' (List.mem_cons_of_mem _ he)]
    rfl
/-- a built-in name is free to use -/
structure BltOk (X : Cx) (x : Str) : Prop where
  g : Gl X x
  m : X.mg x = none
theorem s_bi {t : Bi} {x : Str} {es : List Expr} {h : En → R (List D)} {p : Pos} (b : BltOk X x) (hv : bootBuiltins x = some (biF t)) (hc : CallR X (biF t) (rBi (kt X) t)) (hf : (∃ id, biF t = .builtin id) ∨ ∃ id, biF t = .type id)
    (hn : x ≠ "__name__") (hd : (x == ("__debug__" : Str)) = false) (hs : ∀ e ∈ a :: es, ∀ e' p, e ≠ .Starred e' p) (ha : PA X (a :: es) (rdA (kt X) XC W h)) :
    PE X (.Call (.Name x p) (a :: es) [] pos) (rd (kt X) XC W fun env => R.bind (h env) fun ds => lift (biD t ds)) := by
  have key : ∀ {σ : L2.St} {H : Hp} {Q : VK}, rd (kt X) XC W (fun env => R.bind (h env) fun ds => lift (biD t ds)) σ H Q → tCB (rBi (kt X) t) (rdA (kt X) XC W h) σ H Q := fun {σ H Q} ⟨S0, B, env, er, p⟩ => ⟨S0, B, env, er, p.bind.imp fun ds H1 s1 p1 vs rvs => by
    obtain ⟨d, e, q⟩ := p1.lift
    exact ⟨OS S0 env σ, ds, d, (er.same s1).trk, rvs, e, fun v H' s r => q H' s v r⟩⟩
  have e1 := star_of (hs a List.mem_cons_self) es X.env
  have e2 := back_plain (env := X.env) (fun e he => hs e (List.mem_cons_of_mem _ he)) pos
  rcases hf with ⟨id, hf⟩ | ⟨id, hf⟩
  · rw [hf] at hv hc
    exact pe_imp (pe_callB hc b.g b.m hv ha hn hd e1 e2) fun σ H Q q => key q
  · rw [hf] at hv hc
    exact pe_imp (pe_callTy hc b.g b.m hv ha hn hd e1 e2) fun σ H Q q => key q
end
end
end PI
end
section
/-! Soundness of calls, methods, tests. -/
namespace PI
open PySem PySem.Spec PyProof.Rows L2
theorem R_assoc {α β γ : Type} (r : R α) (f : α → R β) (g : β → R γ) : R.bind (R.bind r f) g = R.bind r fun a => R.bind (f a) g := by cases r <;> rfl
/-- what a def promises that computes g -/
def spD (C : Kt) (XC : Nat → Value → Prop) (n : Nat) (g : List D → R D) : Sp := fun vs H Q E => vs.length = n ∧ ∃ S ds, Trk S H ∧ RepL C S H vs ds ∧ Post XC (fun cls d _ H' => E cls d H') [] H (fun d H' => ∀ v, Rep C S H' v d → Q v H') (g ds)
/-- a def that can be called -/
def CallOk (X : Cx) (XC : Nat → Value → Prop) (x : Str) (n : Nat) (g : List D → R D) : Prop :=
  ∃ k f fd ps, FnOk X.prog X.w X.K X.mg X.base (CX X.prog X.w) k f fd ps (spD (kt X) XC n g) ∧ Room k X.A ∧ X.mg x = some (.ref f) ∧ PySem.W.keepIn X.K (.ref f) = true ∧ Binds X.K fd ps []
section
variable {X : Cx} {XC : Nat → Value → Prop} {W : WX} {a b c : Expr} {f g k : En → R D} {pos : Pos}
theorem pe_eq {e : Expr} {f f' : En → R D} (h : PE X e (rd (kt X) XC W f)) (q : ∀ env, f env = f' env) : PE X e (rd (kt X) XC W f') := by
  have : f = f' := funext q
  rw [← this]; exact h
theorem s_call {x : Str} {n : Nat} {g : List D → R D} {es : List Expr} {h : En → R (List D)} {p : Pos} (tk : Takes X W) (hc : CallOk X XC x n g) (hg : Gl X x) (hd : (x == ("__debug__" : Str)) = false) (hs : ∀ e ∈ a :: es, ∀ e' p, e ≠ .Starred e' p)
    (hn : ∀ env ds, h env = .ok ds → ds.length = n) (ha : PA X (a :: es) (rdA (kt X) XC W h)) : PE X (.Call (.Name x p) (a :: es) [] pos) (rd (kt X) XC W fun env => R.bind (h env) g) := by
  obtain ⟨k, fa, fd, ps, F, hr, hm, hk, hb⟩ := hc
  have e1 := star_of (hs a List.mem_cons_self) es X.env
  have e2 := back_plain (env := X.env) (fun e he => hs e (List.mem_cons_of_mem _ he)) pos
  refine pe_imp (pe_callS (E := WE W) F hr hg hm hk hb (fun σ => passAt tk σ) ha hd e1 e2) fun σ H Q ⟨S0, B, env, er, p⟩ => ⟨S0, B, env, er, ?_⟩
  simp only [] at p
  cases hh : h env with
  | stuck => rw [hh] at p; exact p
  | exc c => rw [hh] at p; exact p
  | ok ds =>
    rw [hh] at p
    intro H1 s1 vs rvs
    refine ⟨by rw [rvs.length]; exact hn env ds hh, OS S0 env σ, ds, (er.same s1).trk, rvs, ?_⟩
    have p1 := Post.same s1 (show Post XC W σ H _ (g ds) from p)
    cases hg : g ds with
    | stuck => rw [hg] at p1; exact p1
    | exc c => rw [hg] at p1; exact p1
    | ok d => rw [hg] at p1; exact p1
theorem s_len {p : Pos} (b : BltOk X "len") (hs : ∀ e' p, a ≠ .Starred e' p) (ha : PE X a (rdB (kt X) XC W f)) : PE X (.Call (.Name "len" p) [a] [] pos) (rd (kt X) XC W fun env => R.bind (f env) fun x => lift (lenD x)) := by
  refine pe_imp (pe_callB call_len_X b.g b.m boot_len (pa_cons ha pa_nil (star_of hs [] X.env)) (by decide) (by decide) (star_of hs [] X.env) rfl) fun σ H Q ⟨S0, B, env, er, p⟩ => ⟨S0, B, env, er, p.bind.imp fun x H1 s1 p1 v rv => ?_⟩
  obtain ⟨d, e, q⟩ := p1.lift
  exact ⟨OS S0 env σ, v, x, d, rfl, rv, e, fun v H' s r => q H' s v r⟩
theorem boot_ty (t : Ty) : bootBuiltins (Str.ofString (tyN t)) = some (.type (tyN t)) := by cases t <;> decide +kernel
theorem s_isI {p p2 : Pos} (t : Ty) (b : BltOk X "isinstance") (bt : BltOk X (Str.ofString (tyN t))) (hs : ∀ e' p, a ≠ .Starred e' p) (ha : PE X a (rd (kt X) XC W f)) :
    PE X (.Call (.Name "isinstance" p) [a, .Name (Str.ofString (tyN t)) p2] [] pos) (rd (kt X) XC W fun env => R.bind (f env) fun x => .ok (.bool (isIn t x))) := by
  have e0 : (Str.ofString (tyN t) == ("__debug__" : Str)) = false := by cases t <;> decide +kernel
  have e1 : Str.ofString (tyN t) ≠ "__name__" := by cases t <;> decide +kernel
  have pt : PE X (.Name (Str.ofString (tyN t)) p2) (tC (.ty (tyN t))) := pe_bltn bt.g bt.m (boot_ty t) rfl e1 e0
  refine pe_imp (pe_callB (call_isI_X t) b.g b.m boot_isinstance (pa_cons ha (pa_cons pt pa_nil rfl) (star_of hs _ X.env)) (by decide) (by decide) (star_of hs _ X.env) rfl) fun σ H Q ⟨S0, B, env, er, p⟩ => ⟨S0, B, env, er, p.bind.imp fun x H1 s1 p1 v rv => ?_⟩
  exact ⟨OS S0 env σ, v, x, rfl, rv, p1.here _ (.bl _)⟩
theorem range_rep {C : Kt} (S : Addr → Prop) (H : Hp) : ∀ n : Nat, RepL C S H ((List.range n).map fun i => V.int (0 + (i : Nat))) (rangeL n) := by
  have go : ∀ l : List Nat, RepL C S H (l.map fun i => V.int (0 + (i : Nat))) (l.map fun (i : Nat) => PyData.int (i : Int)) := by
    intro l
    induction l with
    | nil => exact .nil
    | cons i l ih =>
      refine .cons ?_ ih
      show Rep C S H (V.int (0 + (i : Int))) (PyData.int (i : Int))
      rw [Int.zero_add]
      exact .int _
  exact fun n => go (List.range n)
theorem s_listRange {p p2 pos2 : Pos} (hc : X.calm = true) (b : BltOk X "list") (b2 : BltOk X "range") (hs : ∀ e' p, a ≠ .Starred e' p) (ha : PE X a (rd (kt X) XC W f)) :
    PE X (.Call (.Name "list" p) [.Call (.Name "range" p2) [a] [] pos2] [] pos) (rd (kt X) XC W fun env => R.bind (f env) fun x => lift ((rangeD x).map .list)) := by
  refine pe_imp (pe_listRg hc b.g b.m (prg_1 b2.g b2.m ha (star_of hs [] X.env)) rfl) fun σ H Q ⟨S0, B, env, er, p⟩ => ⟨S0, B, env, er, p.bind.imp fun x H1 s1 p1 v rv => ?_⟩
  obtain ⟨d, e, q⟩ := p1.lift
  obtain ⟨ds, e1, rfl⟩ := Option.map_eq_some_iff.mp e
  cases x with
  | int n =>
    obtain ⟨g, rfl⟩ := gd_some (show gd (decide (-1000000 ≤ n ∧ n ≤ 1000000)) (rangeL n.toNat) = some ds from e1)
    have g := of_decide_eq_true g
    refine ⟨n, rv.int_of, ⟨by omega, by omega, by omega, by omega, by omega⟩, fun l hl => q _ (Same.upd hl) _ ?_⟩
    have hz : (rgV 0 n).length ≤ sizeLine := by rw [rgV_length, sizeLine_eq]; omega
    refine .lst ((er.same s1).trk.no hl) (.inl upd_same) hz ?_
    have := range_rep (C := kt X) (OS S0 env σ) (upd H1 l (.lst (rgV 0 n))) n.toNat
    have e2 : rgV 0 n = (List.range n.toNat).map fun i => V.int (0 + (i : Nat)) := by unfold rgV; rw [Int.sub_zero]
    rw [← e2] at this
    exact this
  | _ => cases e1

/-! ### methods -/
def mtN : Mt → String
  | .count => "count" | .index => "index" | .get1 => "get" | .get2 => "get" | .join => "join" | .split => "split" | .partition => "partition" | .replace => "replace"
def mtT : Mt → String
  | .count => "list" | .index => "list" | .get1 => "dict" | .get2 => "dict" | _ => "str"
def mtI : Mt → String
  | .count => "list.count" | .index => "list.index" | .get1 => "dict.get" | .get2 => "dict.get" | .join => "str.join" | .split => "str.split" | .partition => "str.partition" | .replace => "str.replace"
def mtOk : Mt → Bool
  | .replace => false
  | _ => true
theorem recv_ty {pins : List (Addr × Obj)} {σ : L2.St} {H : Hp} {s : Shared} {S : Addr → Prop} (I : Inv X pins σ H s) {v : V} {u : Value} {d : D} (r : RepB (kt X) S H v d) (rv : RelV v u) (h : tyD d = "list" ∨ tyD d = "dict" ∨ tyD d = "str") :
    s.TypeIs u (tyD d) ∧ ∀ a, u = .ref a → ∃ ob, s.heap.get? a = some ob ∧ ob.dict = none := by
  cases d with
  | list ds =>
    obtain ⟨a, xs, rfl, ha, z, ra⟩ := r.list_of
    cases rv
    obtain ⟨its, _, pl, _⟩ := I.list (.inl ha)
    refine ⟨pl.isList.typeIs, fun a e => ?_⟩
    cases e
    obtain ⟨o, n, e, c, hd, _⟩ := pl
    exact ⟨o, e, hd⟩
  | dict ps =>
    cases hf : isFL ps with
    | true =>
      have et : tyD (.dict ps) = "list" := by simp only [tyD, hf, cond_true]
      rw [et]
      obtain ⟨a, xs, ds, rfl, rfl, ha, z, ra⟩ := r.kl_of hf
      cases rv
      obtain ⟨its, _, pl, _⟩ := I.list ha.sq
      refine ⟨pl.isList.typeIs, fun a e => ?_⟩
      cases e
      obtain ⟨o, n, e, c, hd, _⟩ := pl
      exact ⟨o, e, hd⟩
    | false =>
    have et : tyD (.dict ps) = "dict" := by simp only [tyD, hf, cond_false]
    rw [et]
    obtain ⟨a, rfl, da⟩ := r.dict_of hf
    cases rv
    clear h
    cases da with
    | k h z hv =>
      obtain ⟨_, _, vs, _, o, es, ep, h1, h2, _⟩ := (show ObjOk X.prog X.w H s.heap a (.dK _) from rd_ok I h)
      refine ⟨⟨o, h1, h2.1⟩, fun b e => ?_⟩
      cases e
      exact ⟨o, h1, h2.2.1⟩
    | n h z hk hd hd' hv =>
      obtain ⟨⟨_, _, _, o, es, ep, h1, h2, _⟩, _⟩ := (show ObjOk X.prog X.w H s.heap a (nO X.prog X.w a _) from rd_ok I h)
      refine ⟨⟨o, h1, h2.1⟩, fun b e => ?_⟩
      cases e
      exact ⟨o, h1, h2.2.1⟩
  | str x =>
    cases r.str_of
    obtain ⟨t, rfl⟩ := rv
    exact ⟨typeIs_str s x t, fun _ e => nomatch e⟩
  | _ => rcases h with h | h | h <;> exact absurd h (by simp [tyD])
theorem strs_rep {C : Kt} {S : Addr → Prop} {H : Hp} : ∀ {ds : List D} {vs : List V} {ys : List Str}, RepL C S H vs ds → allStrs ds = some ys → vs = ys.map V.str
  | [], _, _, r, e => by cases r; cases e; rfl
  | d :: ds, _, _, r, e => by
    cases r with
    | cons r1 r2 =>
      cases d with
      | str x =>
        obtain ⟨zs, e', rfl⟩ := Option.map_eq_some_iff.mp (show (allStrs ds).map (x :: ·) = some _ from e)
        cases r1.str_of
        rw [strs_rep r2 e']
        rfl
      | _ => cases e
theorem rep_strs {C : Kt} (S : Addr → Prop) (H : Hp) : ∀ ys : List Str, RepL C S H (ys.map V.str) (ys.map PyData.str)
  | [] => .nil
  | _ :: ys => .cons (.str _) (rep_strs S H ys)
theorem idxOf_spec {x : D} : ∀ {ds : List D} {k n : Nat}, idxOf x k ds = some n → k ≤ n ∧ ∃ z, ds[n - k]? = some z ∧ PyData.eqv z x = true ∧ ∀ (m : Nat) (z' : D), m < n - k → ds[m]? = some z' → PyData.eqv z' x = false
  | [], _, _, e => by cases e
  | y :: r, k, n, e => by
    have e : cond (PyData.eqv y x) (some k) (idxOf x (k + 1) r) = some n := e
    cases h : PyData.eqv y x with
    | true =>
      rw [h] at e
      cases e
      refine ⟨Nat.le_refl _, y, by simp, h, fun m z' hm _ => ?_⟩
      omega
    | false =>
      rw [h] at e
      obtain ⟨h1, z, h2, h3, h4⟩ := idxOf_spec e
      refine ⟨by omega, z, ?_, h3, fun m z' hm hz => ?_⟩
      · rw [show n - k = (n - (k + 1)) + 1 by omega, List.getElem?_cons_succ]; exact h2
      · cases m with
        | zero => simp at hz; subst hz; exact h
        | succ m => rw [List.getElem?_cons_succ] at hz; exact h4 m z' (by omega) hz
theorem str_size {n : Nat} (h : n ≤ lim) : n + 2 ≤ sizeLine := by have := lim_lt; have := sizeLine_eq; unfold lim at *; omega
/-- the method's run -/
theorem mt_run (hu : X.A.units + 70 < cLine) {m : Mt} (ho : mtOk m = true) {pins : List (Addr × Obj)} {σ : L2.St} {H : Hp} {s : Shared} {S : Addr → Prop} {v : V} {u : Value} {vs : List V} {us : List Value} {d r : D} {ds : List D} {Q : VK}
    (I : Inv X pins σ H s) (t : Trk S H) (rv : RelV v u) (rs : Vals vs us) (h1 : RepB (kt X) S H v d) (h2 : RepL (kt X) S H vs ds) (e : mtD m d ds = some r) (q : PostV (kt X) S H Q r) :
    wpAny (model X.prog X.w) X.A (call (.builtin (mtI m)) (u :: us)) (EP X pins σ Q) X.xe s := by
  have ls := lim_lt
  cases m with
  | count =>
    cases d with
    | list xs =>
      match ds, e with
      | [x], e =>
        obtain ⟨w, rfl, rx⟩ := h2.sing
        obtain ⟨g, rfl⟩ := gd_some e
        obtain ⟨g1, g2⟩ := Bool.and_eq_true_iff.mp g
        obtain ⟨a, ys, rfl, ha, z, ra⟩ := h1.list_of
        obtain ⟨uy, rfl, ry⟩ := vals1 rs
        cases rv
        obtain ⟨its, rvs, pl, hz⟩ := I.list (.inl ha)
        have c1 : PyData.canLayAll0 xs = true := by simpa [PyData.canLay0] using SeqAt.canLay_of_shaped g1
        obtain ⟨as, k1⟩ := Dp.readsAll I xs ys its (ra.dp c1) rvs
        obtain ⟨bs, k2⟩ := rx.reads I (SeqAt.canLay_of_shaped g2) ry
        have dep := SeqAt.depth_of_shaped g2
        exact SeqAt.count_list_data pl.isList (by rw [List.toList_toArray]; exact k1) k2 (PyData.plainAll_of_canLay0 xs c1) (PyData.plain_of_canLay0 x (SeqAt.canLay_of_shaped g2)) (by have : min (PyData.depthAll xs) x.depth ≤ x.depth := Nat.min_le_right _ _; omega) ⟨.int _, H, I.tok _, ⟨_, rfl⟩, q.atom (.int _)⟩
    | _ => cases e
  | index =>
    cases d with
    | list xs =>
      match ds, e with
      | [x], e =>
        obtain ⟨w, rfl, rx⟩ := h2.sing
        obtain ⟨a, ys, rfl, ha, z, ra⟩ := h1.list_of
        have e : cond (SeqAt.shaped (.list xs) && SeqAt.shaped x) ((idxOf x 0 xs).map fun (n : Nat) => PyData.int (n : Int)) none = some r := e
        cases g : SeqAt.shaped (.list xs) && SeqAt.shaped x with
        | false => rw [g] at e; cases e
        | true =>
          rw [g] at e
          obtain ⟨g1, g2⟩ := Bool.and_eq_true_iff.mp g
          obtain ⟨n, hn, rfl⟩ := Option.map_eq_some_iff.mp e
          obtain ⟨_, z', k2, k3, k4⟩ := idxOf_spec hn
          exact mt_indexD (by omega) pins s σ H (.ref a) [w] u us Q I rv rs ⟨a, w, x, xs, n, z', rfl, rfl, h1.dp (SeqAt.canLay_of_shaped g1), rx.dpS g2, g1, g2, by simpa using k2, k3, fun m z'' hm hz => k4 m z'' (by omega) hz, q.atom (.int _)⟩
    | _ => cases e
  | get1 =>
    cases d with
    | dict kvs =>
      match ds, e with
      | [x], e =>
        obtain ⟨w, rfl, rx⟩ := h2.sing
        obtain ⟨o, e', rfl⟩ := Option.map_eq_some_iff.mp (show (dictLook kvs x).map (fun o => o.getD PyData.none) = some r from e)
        obtain ⟨a, rfl, da⟩ := h1.dict_of (dictLook_fl e')
        obtain ⟨uy, rfl, ry⟩ := vals1 rs
        cases rv
        obtain ⟨r', ro, L⟩ := look_run (by omega) I da rx ry e'
        exact L.get1 _ _ fun w' s' I' rw' => ⟨_, H, I', rw', q.atom (ro.getD .non)⟩
    | _ => cases e
  | get2 =>
    cases d with
    | dict kvs =>
      match ds, e with
      | [x, y], e =>
        obtain ⟨w, w2, rfl, rx, ry2⟩ := h2.pair
        obtain ⟨o, e', rfl⟩ := Option.map_eq_some_iff.mp (show (dictLook kvs x).map (fun o => o.getD y) = some r from e)
        obtain ⟨a, rfl, da⟩ := h1.dict_of (dictLook_fl e')
        obtain ⟨uy, uz, rfl, ry, rz⟩ := vals2 rs
        cases rv
        obtain ⟨r', ro, L⟩ := look_run (by omega) I da rx ry e'
        exact L.get2 w2 uz _ _ rz fun w' s' I' rw' => ⟨_, H, I', rw', q.atom (ro.getD ry2)⟩
    | _ => cases e
  | join =>
    cases d with
    | str x =>
      match ds, e with
      | [.list xs], e =>
        obtain ⟨w, rfl, rx⟩ := h2.sing
        obtain ⟨ys, e1, e2⟩ := Option.bind_eq_some_iff.mp (show (allStrs xs).bind _ = some r from e)
        obtain ⟨g, rfl⟩ := gd_some e2
        have g := of_decide_eq_true g
        obtain ⟨a, zs, rfl, na, ha, z, ra⟩ := rx.list_of
        cases h1.str_of
        have := strs_rep ra e1
        subst this
        exact mt_join pins s σ H _ _ u us Q I rv rs ⟨x, a, ys, rfl, rfl, .inl (.inl ha), by unfold lim at g; omega, q.atom (.str _)⟩
    | _ => cases e
  | split =>
    cases d with
    | str x =>
      match ds, e with
      | [.str y], e =>
        obtain ⟨w, rfl, rx⟩ := h2.sing
        obtain ⟨g, rfl⟩ := gd_some (show gd (!(y.length == 0) && decide (x.length ≤ lim)) (PyData.list ((PySem.Txt.split x y).map .str)) = some r from e)
        obtain ⟨g1, g2⟩ := Bool.and_eq_true_iff.mp g
        have g2 := of_decide_eq_true g2
        cases h1.str_of
        cases rx.str_of
        have hz : ((Txt.split x y).map V.str).length ≤ sizeLine := by
          rw [List.length_map]
          exact Nat.le_trans (PyProof.Rows.split_le x y) (str_size g2)
        exact mt_split pins s σ H _ _ u us Q I rv rs ⟨x, y, rfl, rfl, by simpa using g1, str_size g2, fun p hp => q.newL t hp hz (rep_strs S H _)⟩
    | _ => cases e
  | partition =>
    cases d with
    | str x =>
      match ds, e with
      | [.str y], e =>
        obtain ⟨w, rfl, rx⟩ := h2.sing
        obtain ⟨g, rfl⟩ := gd_some (show gd (!(y.length == 0) && decide (x.length ≤ lim)) (PyData.tuple [.str (PySem.Txt.partition x y).1, .str (PySem.Txt.partition x y).2.1, .str (PySem.Txt.partition x y).2.2]) = some r from e)
        obtain ⟨g1, g2⟩ := Bool.and_eq_true_iff.mp g
        have g2 := of_decide_eq_true g2
        cases h1.str_of
        cases rx.str_of
        exact mt_partition pins s σ H _ _ u us Q I rv rs ⟨x, y, rfl, rfl, by simpa using g1, (by have := str_size g2; omega), fun p hp => q.newT hp (show 3 ≤ sizeLine by decide) (.cons (.str _) (.cons (.str _) (.cons (.str _) .nil)))⟩
    | _ => cases e
  | replace => cases ho
theorem base_of {o : Expr} (h : ∀ f p, o ≠ .Call f [] [] p) (m : Str) (env : Env) (whole : Sem Value) : attributeBase o m env whole = whole := by
  cases o with
  | Call f es ks p =>
    cases es with
    | nil =>
      cases ks with
      | nil => exact absurd rfl (h f p)
      | cons _ _ => cases f <;> rfl
    | cons _ _ => cases f <;> rfl
  | _ => rfl
theorem mt_facts {m : Mt} (ho : mtOk m = true) : PlainAttrs (mtT m) ∧ PySem.Slot (mtT m) (Str.ofString (mtN m)) (mtI m) ∧ typeOf (.builtin (mtI m)) = pure (.type "method_descriptor") := by
  cases m with
  | count => exact ⟨PySem.F.plainAttrs_list, PySem.F.slot_list_count, PySem.F.type_list_count⟩
  | index => exact ⟨PySem.F.plainAttrs_list, PySem.F.slot_list_index, PySem.F.type_list_index⟩
  | get1 => exact ⟨PySem.F.plainAttrs_dict, PySem.F.slot_dict_get, PySem.F.type_dict_get⟩
  | get2 => exact ⟨PySem.F.plainAttrs_dict, PySem.F.slot_dict_get, PySem.F.type_dict_get⟩
  | join => exact ⟨PySem.F.plainAttrs_str, PySem.F.slot_str_join, PySem.F.type_str_join⟩
  | split => exact ⟨PySem.F.plainAttrs_str, PySem.F.slot_str_split, PySem.F.type_str_split⟩
  | partition => exact ⟨PySem.F.plainAttrs_str, PySem.F.slot_str_partition, PySem.F.type_str_partition⟩
  | replace => cases ho
/-- what has the method -/
theorem mt_ty {m : Mt} {d : D} (e : mtFits m d = true) : tyD d = mtT m := by
  cases m <;> cases d <;> first | rfl | (cases e; done) | (rename_i kvs; simp only [mtFits, Bool.not_eq_true'] at e; simp only [tyD, e, cond_false, mtT])
theorem all_plain {es : List Expr} {env : Env} (h : ∀ e ∈ es, ∀ e' p, e ≠ .Starred e' p) (pos : Pos) : (backTo pos (starEach es env)).all (fun x => !x.1) = true := by
  induction es with
  | nil => rfl
  | cons e es ih =>
    rw [star_of (h e List.mem_cons_self) es env]
    show (true && (backTo pos (starEach es env)).all (fun x => !x.1)) = true
    rw [ih fun e' he => h e' (List.mem_cons_of_mem _ he)]
    rfl
/-- o.m(a, ..): the receiver is known to have the method where its value is had -/
theorem s_mt (hu : X.A.units + 70 < cLine) {m : Mt} (ho : mtOk m = true) {o : Expr} {es : List Expr} {h : En → R (List D)} {apos : Pos} (hb : ∀ f p, o ≠ .Call f [] [] p) (hs : ∀ e ∈ a :: es, ∀ e' p, e ≠ .Starred e' p) (hl : (a :: es).length < 20) (hline : (apos.endLine == pos.line) = true)
    (hf : PE X o (rdB (kt X) XC W f)) (ha : PA X (a :: es) (rdA (kt X) XC W h)) :
    PE X (.Call (.Attribute o (Str.ofString (mtN m)) apos) (a :: es) [] pos) (rd (kt X) XC W fun env => R.bind (f env) fun x => cond (mtFits m x) (R.bind (h env) fun ds => lift (mtD m x ds)) .stuck) := by
  obtain ⟨pa, slot, hty⟩ := mt_facts ho
  have e1 := star_of (hs a List.mem_cons_self) es X.env
  have e2 := back_plain (env := X.env) (fun e he => hs e (List.mem_cons_of_mem _ he)) pos
  refine ⟨fun pins s σ H Q I ⟨S0, B, env, er, p⟩ => ?_⟩
  have hfew : ((backTo pos (starEach (a :: es) X.env)).all (fun x => !x.1) && (backToKw pos (keywordEach [] X.env)).all (fun x => x.1.isSome)
      && decide ((a :: es).length + ([] : List Keyword).length + (if ([] : List Keyword).isEmpty then 0 else 1) < 30)) = true := by
    rw [all_plain hs pos]
    have : (a :: es).length + ([] : List Keyword).length + (if ([] : List Keyword).isEmpty then 0 else 1) < 30 := by
      show (a :: es).length + 0 + 0 < 30
      omega
    rw [decide_eq_true this]
    rfl
  refine wpAny_Call_method_late (base_of hb _ X.env _) hfew hline rfl (thn (hf.run pins s σ H (fun v H1 => ∃ x, Same H H1 ∧ RepB (kt X) (OS S0 env σ) H1 v x ∧ Post XC W σ H1 (fun d H' => ∀ v, Rep (kt X) (OS S0 env σ) H' v d → Q v H') (cond (mtFits m x) (R.bind (h env) fun ds => lift (mtD m x ds)) .stuck)) I
    ⟨S0, B, env, er, p.bind.imp fun x H1 s1 p1 v rv => ⟨x, s1, rv, p1⟩⟩) fun v s1 ⟨x, H1, I1, r1, d, sm, rv, q1⟩ => ?_)
  cases hm : mtFits m d with
  | false => rw [hm] at q1; exact q1.elim
  | true =>
    rw [hm] at q1
    have q1 : Post XC W σ H1 (fun d H' => ∀ v, Rep (kt X) (OS S0 env σ) H' v d → Q v H') (R.bind (h env) fun ds => lift (mtD m d ds)) := q1
    have ht := mt_ty hm
    obtain ⟨t1, t2⟩ := recv_ty I1 rv r1 (by rw [ht]; cases m <;> simp [mtT])
    rw [ht] at t1
    refine ⟨mtT m, mtI m, pa, slot, hty, t1, t2, ?_⟩
    have hA := ha.run pos pins s1 σ H1 (fun vs H2 => ∃ ds r, Same H1 H2 ∧ RepL (kt X) (OS S0 env σ) H2 vs ds ∧ mtD m d ds = some r ∧ PostV (kt X) (OS S0 env σ) H2 Q r) I1 ⟨S0, B, env, er.same sm, q1.bind.imp fun ds H2 s2 p2 vs rvs => by
      obtain ⟨r, e, q⟩ := p2.lift
      exact ⟨ds, r, s2, rvs, e, fun v H' s r => q H' s v r⟩⟩
    rw [e1] at hA ⊢
    refine Calls.callWith_builtin (by show (false || (backTo pos (starEach es X.env)).any (·.1)) = false; rw [e2] <;> rfl) (Calls.evalArgs_plain ?_)
    refine thn hA fun us s2 ⟨vs, H2, I2, r2, ds, r, s12, rvs, e, q2⟩ => ?_
    refine mt_run hu ho I2 ((er.same sm).same s12).trk r1 r2 ?_ rvs e q2
    rcases rv with rv | ⟨a, rfl, sa, o⟩
    · exact .inl (rv.same s12)
    · exact .inr ⟨a, rfl, sa, o.keep (.of_same s12) (fun _ h => h) fun u h => s12 _ _ h⟩

/-! ### tests -/
theorem t_val {e : Expr} (ha : PE X e (rd (kt X) XC W f)) (he : ∀ whole, isTrue e X.env whole = (do let v ← whole; standAt e.pos; holding [v] (truthy v))) : PT X e (rdT (kt X) XC W f) := by
  refine ⟨fun pins s σ H Q I ⟨S0, B, env, er, p⟩ => isTrue_plain (thn (ha.run pins s σ H (fun v H1 => ∃ S d b, Rep (kt X) S H1 v d ∧ truthD d = some b ∧ Q b H1) I ⟨S0, B, env, er, p.bind.imp fun x H1 s1 p1 v rv => ?_⟩) fun v s1 ⟨x, H1, I1, r1, q1⟩ => tru_D pins s1 σ H1 x v Q I1 r1 q1) (he _)⟩
  obtain ⟨t, e, q⟩ := p1.lift
  exact ⟨_, x, t, rv, e, q H1 (Same.refl _)⟩
theorem t_not (ha : PT X a (rdT (kt X) XC W f)) : PT X (.UnaryOp .Not a pos) (rdT (kt X) XC W fun env => R.bind (f env) fun x => R.bind (lift (truthD x)) fun t => .ok (.bool (!t))) := by
  refine pt_imp (pt_not ha) fun σ H Q ⟨S0, B, env, er, p⟩ => ⟨S0, B, env, er, ?_⟩
  simp only [R_assoc] at p
  cases hf : f env with
  | stuck => rw [hf] at p; exact p
  | exc c => rw [hf] at p; exact p
  | ok x =>
    rw [hf] at p
    simp only [ok_bind] at p ⊢
    cases ht : truthD x with
    | none => rw [ht] at p; exact p
    | some t => rw [ht] at p; exact p
theorem w_one {op : BoolOp} {A : TT} (ha : PT X a A) : PW X (.BoolOp op [a] pos) A := by
  cases op with
  | And => exact pw_and1 ha
  | Or => exact pw_or1 ha
theorem w_and {rest : List Expr} (ha : PT X a (rdT (kt X) XC W f)) (hb : PW X (.BoolOp .And (b :: rest) pos) (rdT (kt X) XC W g)) : PW X (.BoolOp .And (a :: b :: rest) pos) (rdT (kt X) XC W fun env => R.bind (f env) fun x => R.bind (lift (truthD x)) fun t => cond t (g env) (.ok x)) := by
  refine pw_imp (pw_and ha hb) fun σ H Q ⟨S0, B, env, er, p⟩ => ⟨S0, B, env, er, ?_⟩
  simp only [R_assoc] at p
  cases hf : f env with
  | stuck => rw [hf] at p; exact p
  | exc c => rw [hf] at p; exact p
  | ok x =>
    rw [hf] at p
    simp only [ok_bind] at p ⊢
    cases ht : truthD x with
    | none => rw [ht] at p; exact p
    | some t =>
      rw [ht] at p
      intro H1 s1
      cases t with
      | true => exact ⟨S0, B, env, er.same s1, Post.same s1 p⟩
      | false =>
        simp only [lift_some, ok_bind, cond_false, ht] at p
        exact (p.same s1).here
theorem w_or {rest : List Expr} (ha : PT X a (rdT (kt X) XC W f)) (hb : PW X (.BoolOp .Or (b :: rest) pos) (rdT (kt X) XC W g)) : PW X (.BoolOp .Or (a :: b :: rest) pos) (rdT (kt X) XC W fun env => R.bind (f env) fun x => R.bind (lift (truthD x)) fun t => cond t (.ok x) (g env)) := by
  refine pw_imp (pw_or ha hb) fun σ H Q ⟨S0, B, env, er, p⟩ => ⟨S0, B, env, er, ?_⟩
  simp only [R_assoc] at p
  cases hf : f env with
  | stuck => rw [hf] at p; exact p
  | exc c => rw [hf] at p; exact p
  | ok x =>
    rw [hf] at p
    simp only [ok_bind] at p ⊢
    cases ht : truthD x with
    | none => rw [ht] at p; exact p
    | some t =>
      rw [ht] at p
      intro H1 s1
      cases t with
      | false => exact ⟨S0, B, env, er.same s1, Post.same s1 p⟩
      | true =>
        simp only [lift_some, ok_bind, cond_true, ht] at p
        exact (p.same s1).here
theorem t_ite (hc : PT X c (rdT (kt X) XC W f)) (ha : PT X a (rdT (kt X) XC W g)) (hb : PT X b (rdT (kt X) XC W k)) : PT X (.IfExp c a b pos) (rdT (kt X) XC W fun env => R.bind (f env) fun x => R.bind (lift (truthD x)) fun t => cond t (g env) (k env)) := by
  refine ⟨fun pins s σ H Q I ⟨S0, B, env, er, p⟩ => ?_⟩
  refine isTrue_IfExp (thn (hc.run pins s σ H (fun t H1 => Same H H1 ∧ Post XC W σ H1 (fun b H' => Q b H') (R.bind (cond t (g env) (k env)) fun x => lift (truthD x))) I ⟨S0, B, env, er, ?_⟩) fun t s1 ⟨H1, I1, sm, q⟩ => ?_)
  · simp only [R_assoc] at p
    cases hf : f env with
    | stuck => rw [hf] at p; exact p
    | exc c => rw [hf] at p; exact p
    | ok x =>
      rw [hf] at p
      simp only [ok_bind] at p ⊢
      cases ht : truthD x with
      | none => rw [ht] at p; exact p
      | some t =>
        rw [ht] at p
        exact fun H1 s1 => ⟨s1, Post.same s1 p⟩
  · cases t with
    | true => exact ha.run pins s1 σ H1 Q I1 ⟨S0, B, env, er.same sm, q⟩
    | false => exact hb.run pins s1 σ H1 Q I1 ⟨S0, B, env, er.same sm, q⟩
/-- a comparison as a test -/
theorem t_of {e : Expr} {t : TE} (h : PT X e (tTest t)) (ht : ∀ σ H Q, rd (kt X) XC W f σ H Q → t σ H Q) (hb : ∀ env d, f env = .ok d → ∃ c, d = .bool c) : PT X e (rdT (kt X) XC W f) := by
  refine pt_imp h fun σ H Q ⟨S0, B, env, er, p⟩ => ht σ H _ ⟨S0, B, env, er, ?_⟩
  cases hf : f env with
  | stuck => rw [hf] at p; exact p
  | exc c => rw [hf] at p; exact p
  | ok d =>
    obtain ⟨c, rfl⟩ := hb env d hf
    rw [hf] at p
    exact fun H1 s1 v rv => ⟨c, rv.bool_of, p H1 s1⟩
/-! ### comparisons as tests -/
theorem bl_bind {α : Type} {r : R α} {f : α → R D} (h : ∀ a d, f a = .ok d → ∃ c, d = .bool c) : ∀ d, R.bind r f = .ok d → ∃ c, d = .bool c := by
  intro d e
  cases r with
  | ok a => exact h a d e
  | exc _ => cases e
  | stuck => cases e
theorem bl_ok {c : Bool} : ∀ d, R.ok (PyData.bool c) = .ok d → ∃ c, d = .bool c := fun d h => ⟨c, by cases h; rfl⟩
theorem t_cmp (hu : X.A.units + 65 < cLine) {o : COp} (ho : plainC o = true) (ha : PE X a (rd (kt X) XC W f)) (hb : PE X b (rd (kt X) XC W g)) : PT X (.Compare a [cmpOf o] [b] pos) (rdT (kt X) XC W fun env => R.bind (f env) fun x => R.bind (g env) fun y => R.bind (lift (cmpD o x y)) fun r => .ok (.bool r)) :=
  t_of (pt_cmpR (op_plain hu ho) ha hb (mark_plain ho b)) (fun σ H Q ⟨S0, B, env, er, p⟩ => go_cmp (ta := rd (kt X) XC W f) (tb := rd (kt X) XC W g) er (fun h1 h2 e q => ⟨_, _, _, _, h1, h2, e, q⟩) p) (fun env => bl_bind fun x => bl_bind fun y => bl_bind fun t => bl_ok)
theorem t_is {o : COp} (ho : o = .isN ∨ o = .notN) {j : Nat} {p2 : Pos} (ha : PE X a (rd (kt X) XC W f)) : PT X (.Compare a [cmpOf o] [.Constant .none j p2] pos) (rdT (kt X) XC W fun env => R.bind (f env) fun x => R.bind (.ok .none) fun y => R.bind (lift (cmpD o x y)) fun r => .ok (.bool r)) := by
  rcases ho with rfl | rfl
  · refine t_of (pt_cmp (pc_isN ha) (nobehind _ (by decide) (by decide))) (fun σ H Q ⟨S0, B, env, er, p⟩ => ⟨S0, B, env, er, p.bind.imp fun x H1 s1 p1 v rv => ?_⟩) (fun env => bl_bind fun x => bl_bind fun y => bl_bind fun t => bl_ok)
    show Q (V.bl (decide (v = V.non))) H1
    rw [noneOf rv]
    exact p1.here _ (.bl _)
  · refine t_of (pt_cmp (pc_notN ha) (nobehind _ (by decide) (by decide))) (fun σ H Q ⟨S0, B, env, er, p⟩ => ⟨S0, B, env, er, p.bind.imp fun x H1 s1 p1 v rv => ?_⟩) (fun env => bl_bind fun x => bl_bind fun y => bl_bind fun t => bl_ok)
    show Q (V.bl (!decide (v = V.non))) H1
    rw [noneOf rv]
    exact p1.here _ (.bl _)
theorem t_isB {o : COp} {c : Bool} (ho : o = .isB c ∨ o = .notB c) {j : Nat} {p2 : Pos} (ha : PE X a (rd (kt X) XC W f)) : PT X (.Compare a [cmpOf o] [.Constant (.bool c) j p2] pos) (rdT (kt X) XC W fun env => R.bind (f env) fun x => R.bind (.ok (.bool c)) fun y => R.bind (lift (cmpD o x y)) fun r => .ok (.bool r)) := by
  rcases ho with rfl | rfl
  · refine t_of (pt_cmpR (op_isBX c) ha pe_bl (nomark _ (fun z => nomatch z) (fun z => nomatch z))) (fun σ H Q ⟨S0, B, env, er, p⟩ => ⟨S0, B, env, er, p.bind.imp fun x H1 s1 p1 v rv => ?_⟩) (fun env => bl_bind fun x => bl_bind fun y => bl_bind fun t => bl_ok)
    obtain ⟨t, e, q⟩ := (show Post XC W σ H1 _ (R.bind (lift (isBD c x)) fun r => R.ok (PyData.bool r)) from p1).bind.lift
    exact ⟨rfl, _, x, t, rv, e, (q H1 (Same.refl _)).here _ (.bl _)⟩
  · refine t_of (pt_cmpR (op_notBX c) ha pe_bl (nomark _ (fun z => nomatch z) (fun z => nomatch z))) (fun σ H Q ⟨S0, B, env, er, p⟩ => ⟨S0, B, env, er, p.bind.imp fun x H1 s1 p1 v rv => ?_⟩) (fun env => bl_bind fun x => bl_bind fun y => bl_bind fun t => bl_ok)
    obtain ⟨t, e, q⟩ := (show Post XC W σ H1 _ (R.bind (lift ((isBD c x).map (!·))) fun r => R.ok (PyData.bool r)) from p1).bind.lift
    obtain ⟨t', e', rfl⟩ := Option.map_eq_some_iff.mp e
    exact ⟨rfl, _, x, t', rv, e', (q H1 (Same.refl _)).here _ (.bl _)⟩
theorem t_in (hu : X.A.units + 65 < cLine) (neg : Bool) (ha : PE X a (rd (kt X) XC W f)) (hb : PE X b (rdB (kt X) XC W g)) (hm : ∀ o, behindInMarks o b = false) : PT X (.Compare a [cond neg .NotIn .In] [b] pos) (rdT (kt X) XC W fun env => R.bind (f env) fun x => R.bind (g env) fun y => R.bind (lift (cmpD (inOf neg) x y)) fun r => .ok (.bool r)) := by
  refine t_of (pt_cmpR (op_inX hu neg) ha hb (hm _)) (fun σ H Q ⟨S0, B, env, er, p⟩ => ⟨S0, B, env, er, p.bind.imp fun x H1 s1 p1 v rv => ⟨S0, B, env, er.same s1, p1.bind.imp fun y H2 s2 p2 w rw' => ?_⟩⟩) (fun env => bl_bind fun x => bl_bind fun y => bl_bind fun t => bl_ok)
  obtain ⟨t, e, q⟩ := p2.bind.lift
  have q := (q H2 (Same.refl _)).here _ (.bl _)
  cases neg with
  | false => exact ⟨_, x, y, t, rv.same s2, rw', e, q⟩
  | true =>
    obtain ⟨t', e', rfl⟩ := Option.map_eq_some_iff.mp (show (inD x y).map (!·) = some t from e)
    exact ⟨_, x, y, t', rv.same s2, rw', e', q⟩
theorem t_chain (hu : X.A.units + 65 < cLine) {o o' : COp} (ho : plainC o = true) (ho' : plainC o' = true) (ha : PE X a (rd (kt X) XC W f)) (hb : PE X b (rd (kt X) XC W g)) (hc : PE X c (rd (kt X) XC W k)) :
    PT X (.Compare a [cmpOf o, cmpOf o'] [b, c] pos) (rdT (kt X) XC W fun env => R.bind (f env) fun x => R.bind (g env) fun y => R.bind (lift (cmpD o x y)) fun r => cond r (R.bind (k env) fun z => R.bind (lift (cmpD o' y z)) fun r' => .ok (.bool r')) (.ok (.bool false))) := by
  refine t_of (pt_chain (op_plain hu ho) (op_plain hu ho') ha hb hc (show behindInMarks (cmpOf o') c = false from mark_plain ho' c)) (fun σ H Q ⟨S0, B, env, er, p⟩ => ⟨S0, B, env, er, p.bind.imp fun x H1 s1 p1 v rv => ⟨S0, B, env, er.same s1, p1.bind.imp fun y H2 s2 p2 w rw' => ?_⟩⟩) (fun env => bl_bind fun x => bl_bind fun y => bl_bind fun t d h => by
    cases t with
    | true => exact bl_bind (fun z => bl_bind fun t' => bl_ok) d h
    | false => exact bl_ok d h)
  obtain ⟨t, e, q⟩ := p2.bind.lift
  have q := q H2 (Same.refl _)
  refine ⟨_, x, y, t, rv.same s2, rw', e, t, rfl, ?_⟩
  cases t with
  | false => exact q.here _ (.bl _)
  | true =>
    refine ⟨S0, B, env, (er.same s1).same s2, (show Post XC W σ H2 _ (R.bind (k env) fun z => R.bind (lift (cmpD o' y z)) fun r' => R.ok (PyData.bool r')) from q).bind.imp fun z H3 s3 p3 u ru => ?_⟩
    obtain ⟨t', e', q'⟩ := p3.bind.lift
    exact ⟨_, y, z, t', rw'.same s3, ru, e', (q' H3 (Same.refl _)).here _ (.bl _)⟩

end
end PI
end
section
/-! What is walked, targets, comprehensions. -/
namespace PI
open PySem PySem.Spec PyProof.Rows L2
section
variable {C : Kt} {S S' S0 : Addr → Prop} {B H H1 H2 H' : Hp} {σ : L2.St} {env : En}
theorem DictAt.keepN (k : Keep S H H') (m : ∀ a, S' a → S a ∨ H a = none) {a : Addr} {ps : List (D × D)} (d : DictAt C S H a ps) (ha : ∀ o, H a = some o → H' a = some o) : DictAt C S' H' a ps := by
  cases d with
  | k r z h => exact .k (r.imp (ha _) fun ⟨o, e⟩ => ⟨o, ha _ e⟩) z (h.keepN k m)
  | n r z hk e hd h => exact .n (r.imp (ha _) fun ⟨o, e⟩ => ⟨o, ha _ e⟩) z (hk.keepN k m) e hd (h.keepN k m)
theorem OwnR.keepN (k : Keep S H H') (m : ∀ a, S' a → S a ∨ H a = none) {a : Addr} {d : D} (h : OwnR C S H a d) (ha : ∀ o, H a = some o → H' a = some o) : OwnR C S' H' a d := by
  cases d with
  | list ds => obtain ⟨xs, e, z, r⟩ := h; exact ⟨xs, ha _ e, z, r.keepN k m⟩
  | dict ps => exact ⟨DictAt.keepN k m (show DictAt C S H a ps ∧ Fre H a from h).1 ha, let ⟨o, e, m⟩ := (show DictAt C S H a ps ∧ Fre H a from h).2; ⟨o, ha _ e, m⟩⟩
  | _ => exact h.elim
theorem OwnR.repL {a : Addr} {ds : List D} (n : ¬ S' a) (m : ∀ b, S' b → S b) (h : OwnR C S H a (.list ds)) : Rep C S' H (.ref a) (.list ds) := by
  obtain ⟨xs, e, z, r⟩ := h
  exact .lst n (.inl e) z (r.keep (.of_same (Same.refl _)) m)
/-- an owned thing is given free: a dict is locked -/
theorem OwnR.rep {a : Addr} {d : D} (sa : S a) (n : ¬ S' a) (m : ∀ b, S' b → S b) (h : OwnR C S H a d) : Rep C S' H (.ref a) d ∨ ∃ u, H a = some u ∧ Mut (some u) ∧ Mu u ∧ ∀ o, Rep C S' (upd H a (.frz o u)) (.ref a) d := by
  cases d with
  | list ds => obtain ⟨xs, e, z, r⟩ := h; exact .inl (.lst n (.inl e) z (r.keep (.of_same (Same.refl _)) m))
  | dict ps =>
    obtain ⟨da, u, e, mu, mt⟩ := (show DictAt C S H a ps ∧ Fre H a from h)
    refine .inr ⟨u, e, mt, mu, fun o => ?_⟩
    have kp : Keep S H (upd H a (.frz o u)) := fun b v hb q => by
      by_cases z : b = a
      · subst z
        rw [e] at hb; cases hb
        exact absurd ⟨sa, mu⟩ q
      · rw [upd_ne z]; exact hb
    refine DictAt.rep n ?_ upd_same
    cases da with
    | k r z hv =>
      rcases r with r | ⟨_, r⟩
      · rw [e] at r; cases r
        exact .k (.inr ⟨o, upd_same⟩) z (hv.keep kp m)
      · rw [e] at r; cases r
        exact mt.elim
    | n r z hk he hd hv =>
      rcases r with r | ⟨_, r⟩
      · rw [e] at r; cases r
        exact .n (.inr ⟨o, upd_same⟩) z (hk.keep kp m) he hd (hv.keep kp m)
      · rw [e] at r; cases r
        exact mt.elim
  | _ => exact h.elim
/-- an owned thing is tracked -/
theorem ER.ownAt (e : ER C S0 B σ H env) {i : Nat} {d : D} {a : Addr} (h : slotAt env i = .own d) (h2 : σ[i]? = some (some (.ref a))) : OwnR C (OS S0 env σ) H a d := by
  have q := e.slots i
  rw [h] at q
  obtain ⟨b, q1, _, q2⟩ := q
  rw [h2] at q1
  injection q1 with q1; injection q1 with q1; injection q1 with q1
  subst q1
  exact q2
theorem ER.own_there (e : ER C S0 B σ H env) {i : Nat} {d : D} {a : Addr} (h : slotAt env i = .own d) (h2 : σ[i]? = some (some (.ref a))) : ∃ o, H a = some o := let ⟨o, h, _⟩ := (e.ownAt h h2).there; ⟨o, h⟩
/-- another thing is kept from others, too -/
theorem ER.block (e : ER C S0 B σ H env) {p : Addr} (hp : H p = none) (s : Same H H') (hd : ∃ o, H' p = some o) : ER C (fun a => S0 a ∨ a = p) B σ H' env := by
  have m : ∀ a, OS (fun a => S0 a ∨ a = p) env σ a → OS S0 env σ a ∨ H a = none := fun a h => by
    rcases h with (h | rfl) | h
    · exact .inl (.inl h)
    · exact .inr hp
    · exact .inl (.inr h)
  refine ⟨e.len, fun i => ?_, e.inj, e.base.trans s, e.fresh, fun a h => ?_, fun i d a h1 h2 h => ?_⟩
  · have q := e.slots i
    cases hs : slotAt env i with
    | emp => trivial
    | val d => rw [hs] at q; obtain ⟨v, h1, h2⟩ := q; exact ⟨v, h1, h2.keepN (.of_same s) m⟩
    | own d =>
      rw [hs] at q
      obtain ⟨a, h1, h2, h3⟩ := q
      refine ⟨a, h1, ?_, h3.keepN (.of_same s) m fun o h => s _ _ h⟩
      rcases h2 with h2 | h2
      · exact .inl (.inl h2)
      · exact .inr h2
  · rcases h with h | rfl
    · obtain ⟨o, h⟩ := e.s0 a h; exact ⟨o, s _ _ h⟩
    · exact hd
  · rcases h with h | rfl
    · exact e.sep i d a h1 h2 h
    · obtain ⟨o, q⟩ := e.own_there h1 h2
      rw [hp] at q; cases q
end

/-! ### what is walked -/
structure ItOk (C : Kt) (S : Addr → Prop) (H : Hp) (J : L2.It) (ds : List D) : Prop where
  len : ds.length ≤ sizeLine
  go : ∀ H' i d, Keep S H H' → ds[i]? = some d → J.go i H'
  yld : ∀ H' i d x H'', Keep S H H' → ds[i]? = some d → J.yld i H' x H'' → Same H' H'' ∧ ∀ S', (∀ a, S' a → S a ∨ H a = none) → Rep C S' H'' x d
  stop : ∀ H' i, Keep S H H' → ds.length ≤ i → J.stop i H'
def rdI (C : Kt) (XC : Nat → Value → Prop) (W : WX) (f : En → R (List D)) : TI := fun σ H R => ∃ S0 B env, ER C S0 B σ H env ∧ Post XC W σ H (fun ds H' => ∀ J, ItOk C (OS S0 env σ) H' J ds → R J H') (f env)
section
variable {C : Kt} {S : Addr → Prop} {H : Hp} {ds es : List D}
theorem it_list {a : Addr} {xs : List V} (n : ¬ S a) (r : Rd H a (.lst xs)) (z : xs.length ≤ sizeLine) (h : RepL C S H xs ds) : ItOk C S H (Itl C.K a) ds where
  len := by rw [← h.length]; exact z
  go := fun H' i d k e => let ⟨v, e', _⟩ := h.get e; ⟨xs, v, .inl (k.rdL n r), e'⟩
  yld := fun H' i d x H'' k e ⟨h1, h2⟩ => by
    subst h1
    refine ⟨Same.refl _, fun S' m => ?_⟩
    obtain ⟨d', e', r'⟩ := h.get' (h2 xs (.inl (k.rdL n r)))
    rw [e] at e'; cases e'
    exact r'.keepN k m
  stop := fun H' i k e => ⟨xs, .inl (k.rdL n r), by rw [h.length]; exact e⟩
theorem it_kl {a : Addr} {xs : List V} (r : KLs C.K H a xs) (z : xs.length ≤ sizeLine) (h : RepL C S H xs ds) : ItOk C S H (Itl C.K a) ds where
  len := by rw [← h.length]; exact z
  go := fun H' i d k e => let ⟨v, e', _⟩ := h.get e; ⟨xs, v, (r.keep k).sq, e'⟩
  yld := fun H' i d x H'' k e ⟨h1, h2⟩ => by
    subst h1
    refine ⟨Same.refl _, fun S' m => ?_⟩
    obtain ⟨d', e', r'⟩ := h.get' (h2 xs (r.keep k).sq)
    rw [e] at e'; cases e'
    exact r'.keepN k m
  stop := fun H' i k e => ⟨xs, (r.keep k).sq, by rw [h.length]; exact e⟩
theorem it_tup {a : Addr} {xs : List V} (r : SqT C.K H a xs) (z : xs.length ≤ sizeLine) (h : RepL C S H xs ds) : ItOk C S H (Itt C.K a) ds where
  len := by rw [← h.length]; exact z
  go := fun H' i d k e => let ⟨v, e', _⟩ := h.get e; ⟨xs, v, k.sqT r, e'⟩
  yld := fun H' i d x H'' k e ⟨h1, h2⟩ => by
    subst h1
    refine ⟨Same.refl _, fun S' m => ?_⟩
    obtain ⟨d', e', r'⟩ := h.get' (h2 xs (k.sqT r))
    rw [e] at e'; cases e'
    exact r'.keepN k m
  stop := fun H' i k e => ⟨xs, k.sqT r, by rw [h.length]; exact e⟩
theorem it_str {x : Str} (z : x.cps.size ≤ sizeLine) : ItOk C S H (Its x) (x.cps.toList.map fun c => .str ⟨#[c]⟩) where
  len := by rw [List.length_map, Array.length_toList]; exact z
  go := fun H' i d k e => by
    have := (List.getElem?_eq_some_iff.mp e).1
    rw [List.length_map, Array.length_toList] at this
    exact this
  yld := fun H' i d x' H'' k e ⟨h1, c, h2, h3⟩ => by
    subst h1 h3
    refine ⟨Same.refl _, fun S' m => ?_⟩
    rw [List.getElem?_map, Array.getElem?_toList, h2] at e
    cases e
    exact .str _
  stop := fun H' i k e => by rw [List.length_map, Array.length_toList] at e; exact e
theorem range_get {n i : Nat} {d : D} (e : (rangeL n)[i]? = some d) : i < n ∧ d = .int (i : Int) := by
  unfold rangeL at e
  rw [List.getElem?_map] at e
  obtain ⟨j, h1, h2⟩ := Option.map_eq_some_iff.mp e
  obtain ⟨h3, h4⟩ := List.getElem?_eq_some_iff.mp h1
  rw [List.length_range] at h3
  rw [List.getElem_range] at h4
  subst h4
  exact ⟨h3, h2.symm⟩
theorem length_rangeL (n : Nat) : (rangeL n).length = n := by unfold rangeL; rw [List.length_map, List.length_range]
theorem it_rng {n : Nat} (z : n ≤ sizeLine) : ItOk C S H (Itr 0 n) (rangeL n) where
  len := by rw [length_rangeL]; exact z
  go := fun H' i d k e => (range_get e).1
  yld := fun H' i d x H'' k e ⟨h1, h2⟩ => by
    subst h1
    refine ⟨Same.refl _, fun S' m => ?_⟩
    obtain ⟨_, rfl⟩ := range_get e
    rw [h2, Int.zero_add]
    exact .int _
  stop := fun H' i k e => by rw [length_rangeL] at e; exact e
theorem enum_get : ∀ {xs : List D} {k i : Nat} {d : D}, (enumL k xs)[i]? = some d → ∃ x, xs[i]? = some x ∧ d = .tuple [.int ((k + i : Nat) : Int), x]
  | [], _, _, _, e => by simp [enumL] at e
  | x :: xs, k, 0, _, e => by simp [enumL] at e; exact ⟨x, rfl, by rw [← e]; rfl⟩
  | x :: xs, k, i + 1, d, e => by
    have e : (enumL (k + 1) xs)[i]? = some d := by simpa [enumL] using e
    obtain ⟨y, h1, h2⟩ := enum_get e
    exact ⟨y, by simpa using h1, by rw [h2]; congr 3; congr 1; omega⟩
theorem length_enumL : ∀ (k : Nat) (xs : List D), (enumL k xs).length = xs.length
  | _, [] => rfl
  | k, _ :: xs => by simp only [enumL, List.length_cons, length_enumL (k + 1) xs]
theorem pair_rep {T : Addr} {v w : V} {d e : D} (hT : H T = none) (h1 : Rep C S H v d) (h2 : Rep C S H w e) : Rep C S (upd H T (.tup [v, w])) (.ref T) (.tuple [d, e]) :=
  .tup (SqT.of upd_same) (by show 2 ≤ sizeLine; decide) (.cons (h1.upd hT) (.cons (h2.upd hT) .nil))
theorem it_enm {a : Addr} {xs : List V} (n : ¬ S a) (r : Rd H a (.lst xs)) (z : xs.length ≤ sizeLine) (h : RepL C S H xs ds) : ItOk C S H (Ite C.K a) (enumL 0 ds) where
  len := by rw [length_enumL, ← h.length]; exact z
  go := fun H' i d k e => let ⟨x, e1, _⟩ := enum_get e; let ⟨v, e', _⟩ := h.get e1; ⟨xs, v, .inl (k.rdL n r), e'⟩
  yld := fun H' i d x H'' k e ⟨T, y, h1, h2, h3, h4⟩ => by
    subst h1 h3
    refine ⟨Same.upd h2, fun S' m => ?_⟩
    obtain ⟨x, e1, rfl⟩ := enum_get e
    obtain ⟨d', e', r'⟩ := h.get' (h4 xs (.inl (k.rdL n r)))
    rw [e1] at e'; cases e'
    rw [Nat.zero_add]
    exact pair_rep h2 (.int _) (r'.keepN k m)
  stop := fun H' i k e => ⟨xs, .inl (k.rdL n r), by rw [h.length]; rw [length_enumL] at e; exact e⟩
theorem zip_get : ∀ {xs ys : List D} {i : Nat} {d : D}, (zipL xs ys)[i]? = some d → ∃ x y, xs[i]? = some x ∧ ys[i]? = some y ∧ d = .tuple [x, y]
  | [], _, _, _, e => by simp [zipL] at e
  | _ :: _, [], _, _, e => by simp [zipL] at e
  | x :: xs, y :: ys, 0, _, e => by simp [zipL] at e; exact ⟨x, y, rfl, rfl, e.symm⟩
  | x :: xs, y :: ys, i + 1, d, e => by
    have e : (zipL xs ys)[i]? = some d := by simpa [zipL] using e
    obtain ⟨u, w, h1, h2, h3⟩ := zip_get e
    exact ⟨u, w, by simpa using h1, by simpa using h2, h3⟩
theorem length_zipL : ∀ (xs ys : List D), (zipL xs ys).length = min xs.length ys.length
  | [], ys => by simp [zipL]
  | _ :: _, [] => by simp [zipL]
  | _ :: xs, _ :: ys => by simp only [zipL, List.length_cons, length_zipL xs ys]; omega
theorem it_zipL {a b : Addr} {xs ys : List V} (n : ¬ S a) (r : Rd H a (.lst xs)) (z : xs.length ≤ sizeLine) (h : RepL C S H xs ds) (n2 : ¬ S b) (r2 : Rd H b (.lst ys)) (g : RepL C S H ys es) : ItOk C S H (Itz C.K a b) (zipL ds es) where
  len := by rw [length_zipL, ← h.length]; exact Nat.le_trans (Nat.min_le_left _ _) z
  go := fun H' i d k e => let ⟨x, y, e1, e2, _⟩ := zip_get e; let ⟨v, e', _⟩ := h.get e1; let ⟨w, e'', _⟩ := g.get e2; ⟨xs, ys, v, w, .inl (k.rdL n r), .inl (k.rdL n2 r2), e', e''⟩
  yld := fun H' i d x H'' k e ⟨T, y, y', h1, h2, h3, h4, h5⟩ => by
    subst h1 h3
    refine ⟨Same.upd h2, fun S' m => ?_⟩
    obtain ⟨x, x', e1, e2, rfl⟩ := zip_get e
    obtain ⟨d', e', r'⟩ := h.get' (h4 xs (.inl (k.rdL n r)))
    rw [e1] at e'; cases e'
    obtain ⟨d', e', r''⟩ := g.get' (h5 ys (.inl (k.rdL n2 r2)))
    rw [e2] at e'; cases e'
    exact pair_rep h2 (r'.keepN k m) (r''.keepN k m)
  stop := fun H' i k e => ⟨xs, ys, .inl (k.rdL n r), .inl (k.rdL n2 r2), by rw [h.length, g.length]; rw [length_zipL] at e; omega⟩
theorem it_zipT {a b : Addr} {xs ys : List V} (r : SqT C.K H a xs) (z : xs.length ≤ sizeLine) (h : RepL C S H xs ds) (r2 : SqT C.K H b ys) (g : RepL C S H ys es) : ItOk C S H (RZ.ItzT C.K a b) (zipL ds es) where
  len := by rw [length_zipL, ← h.length]; exact Nat.le_trans (Nat.min_le_left _ _) z
  go := fun H' i d k e => let ⟨x, y, e1, e2, _⟩ := zip_get e; let ⟨v, e', _⟩ := h.get e1; let ⟨w, e'', _⟩ := g.get e2; ⟨xs, ys, v, w, k.sqT r, k.sqT r2, e', e''⟩
  yld := fun H' i d x H'' k e ⟨T, y, y', h1, h2, h3, h4, h5⟩ => by
    subst h1 h3
    refine ⟨Same.upd h2, fun S' m => ?_⟩
    obtain ⟨x, x', e1, e2, rfl⟩ := zip_get e
    obtain ⟨d', e', r'⟩ := h.get' (h4 xs (k.sqT r))
    rw [e1] at e'; cases e'
    obtain ⟨d', e', r''⟩ := g.get' (h5 ys (k.sqT r2))
    rw [e2] at e'; cases e'
    exact pair_rep h2 (r'.keepN k m) (r''.keepN k m)
  stop := fun H' i k e => ⟨xs, ys, k.sqT r, k.sqT r2, by rw [h.length, g.length]; rw [length_zipL] at e; omega⟩
end
/-! ### a dict that is locked, walked -/
def ItD (a : Addr) (o : Obj) (u : HO) (xs : List V) : L2.It :=
  ⟨fun i H => H a = some (.frz o u) ∧ i < xs.length, fun i H x H' => H' = H ∧ xs[i]? = some x, fun i H => H a = some (.frz o u) ∧ xs.length ≤ i⟩
theorem turn_dv {P : Program} {w : World} {K : PySem.W.Frag} {tg : Expr} {a it : Addr} {o : Obj} {u : HO} {es : Array DictEntry} {ep : Nat} {xs : List V} (hx : o.ExactDict) (hd : o.data = .dict es ep) (hl : es.size = xs.length) (hr : ∀ i (hi : i < es.size) x, xs[i]? = some x → RelV x es[i].val) (hne : a ≠ it) :
    Turn P w K tg (ItD a o u xs) [it] it (fun i h => h.IsValIter it a i es.size ep) where
  mem := by simp
  obj := fun i h st b hb => by
    have e : b = it := by simpa using hb
    subst e
    obtain ⟨oi, e, c, dd⟩ := st
    exact ⟨oi, e, fun v z => by rw [dd] at z; cases z⟩
  keep := fun i h h' st k => st.at fun oi e => k it (by simp) oi e
  item := by
    intro X hP hw hK hc i pins s σ H E I hf st hg
    subst hP hw hK
    obtain ⟨ha, hi⟩ := hg
    obtain ⟨f0, f1, f2, f3, f4, f5⟩ := hf it (by simp)
    have go : s.heap.get? a = some o := (show _ ∧ _ from I.hok a _ ha).1
    have hi' : i < es.size := by omega
    refine wpAny_pyNext_values_item_raw st ⟨o, go, hx, hd⟩ hi' fun h' st' sb => ?_
    have I1 : Inv X pins σ H { s with heap := h' } := I.turned (t' := s.toks) (fun b ob hb e => (sb.2 b hb).trans e) f0 f1 f3 f4 f5
    obtain ⟨oi, e, c, dd⟩ := id st'
    have e1 : xs[i]? = some xs[i] := List.getElem?_eq_getElem hi
    exact ⟨_, rfl, go_of (s := { s with heap := h' }) e c dd (by decide) ⟨xs[i], H, I1, hr i hi' _ e1, ⟨rfl, e1⟩, st', fun b hb => (hf b hb).1⟩⟩
  done := by
    intro X hP hw hK hc i pins s σ H E I hf st hg
    subst hP hw hK
    obtain ⟨ha, hi⟩ := hg
    obtain ⟨f0, f1, f2, f3, f4, f5⟩ := hf it (by simp)
    have go : s.heap.get? a = some o := (show _ ∧ _ from I.hok a _ ha).1
    exact wpAny_pyNext_values_end_raw (I.ok.hd hc) st ⟨o, go, hx, hd⟩ (by omega) fun h' eb => ⟨rfl, I.turned (t' := s.toks) (fun b ob hb e => eb b ob hb e) f0 f1 f3 f4 f5⟩
  self := fun A i s Q E st h => wpAny_pyIter_valiter st h
theorem turn_dk {P : Program} {w : World} {K : PySem.W.Frag} {tg : Expr} {a it : Addr} {o : Obj} {u : HO} {es : Array DictEntry} {ep : Nat} {xs : List V} (hx : o.ExactDict) (hd : o.data = .dict es ep) (hl : es.size = xs.length) (hr : ∀ i (hi : i < es.size) x, xs[i]? = some x → RelV x es[i].key) (hne : a ≠ it) :
    Turn P w K tg (ItD a o u xs) [it] it (fun i h => h.IsKeyIter it a i es.size ep) where
  mem := by simp
  obj := fun i h st b hb => by
    have e : b = it := by simpa using hb
    subst e
    obtain ⟨oi, e, c, dd⟩ := st
    exact ⟨oi, e, fun v z => by rw [dd] at z; cases z⟩
  keep := fun i h h' st k => st.at fun oi e => k it (by simp) oi e
  item := by
    intro X hP hw hK hc i pins s σ H E I hf st hg
    subst hP hw hK
    obtain ⟨ha, hi⟩ := hg
    obtain ⟨f0, f1, f2, f3, f4, f5⟩ := hf it (by simp)
    have go : s.heap.get? a = some o := (show _ ∧ _ from I.hok a _ ha).1
    have hi' : i < es.size := by omega
    refine wpAny_pyNext_keys_item_raw st ⟨o, go, hx, hd⟩ hi' fun h' st' sb => ?_
    have I1 : Inv X pins σ H { s with heap := h' } := I.turned (t' := s.toks) (fun b ob hb e => (sb.2 b hb).trans e) f0 f1 f3 f4 f5
    obtain ⟨oi, e, c, dd⟩ := id st'
    have e1 : xs[i]? = some xs[i] := List.getElem?_eq_getElem hi
    exact ⟨_, rfl, go_of (s := { s with heap := h' }) e c dd (by decide) ⟨xs[i], H, I1, hr i hi' _ e1, ⟨rfl, e1⟩, st', fun b hb => (hf b hb).1⟩⟩
  done := by
    intro X hP hw hK hc i pins s σ H E I hf st hg
    subst hP hw hK
    obtain ⟨ha, hi⟩ := hg
    obtain ⟨f0, f1, f2, f3, f4, f5⟩ := hf it (by simp)
    have go : s.heap.get? a = some o := (show _ ∧ _ from I.hok a _ ha).1
    exact wpAny_pyNext_keys_end_raw (I.ok.hd hc) st ⟨o, go, hx, hd⟩ (by omega) fun h' eb => ⟨rfl, I.turned (t' := s.toks) (fun b ob hb e => eb b ob hb e) f0 f1 f3 f4 f5⟩
  self := fun A i s Q E st h => by
    refine wpAny_pyIter_slot st.typeIs F.slot_dict_keyiterator_iter (wpAny_call_entry F.slot_dict_keyiterator_iter st.typeIs F.entry_dict_keyiterator_iter ?_ (F.args_dict_keyiterator_iter_1 _))
    show wpAny _ _ (ret (.ref it)) _ _ s
    exact wpAny_pure ⟨_, rfl, "dict_keyiterator", _, st.typeIs, F.slot_dict_keyiterator_next.lookup, h⟩
section
variable {C : Kt} {S : Addr → Prop} {H : Hp} {ds : List D}
theorem it_D {a : Addr} {o : Obj} {u : HO} {xs : List V} (r : H a = some (.frz o u)) (z : xs.length ≤ sizeLine) (h : RepL C S H xs ds) : ItOk C S H (ItD a o u xs) ds where
  len := by rw [← h.length]; exact z
  go := fun H' i d k e => ⟨k _ _ r fun q => q.2.2 _ _ rfl, by rw [h.length]; exact (List.getElem?_eq_some_iff.mp e).1⟩
  yld := fun H' i d x H'' k e ⟨h1, h2⟩ => by
    subst h1
    refine ⟨Same.refl _, fun S' m => ?_⟩
    obtain ⟨d', e', r'⟩ := h.get' h2
    rw [e] at e'; cases e'
    exact r'.keepN k m
  stop := fun H' i k e => ⟨k _ _ r fun q => q.2.2 _ _ rfl, by rw [h.length]; exact e⟩
end
theorem zip_snd {α : Type} : ∀ {ks : List α} {es : List D}, ks.length = es.length → (ks.zip es).map (·.2) = es
  | [], [], _ => rfl
  | k :: ks, e :: es, h => by rw [List.zip_cons_cons, List.map_cons, zip_snd (by simpa using h)]
/-- what a locked dict's object holds -/
theorem frz_parts {X : Cx} {pins : List (Addr × Obj)} {σ : L2.St} {H : Hp} {s : Shared} {S : Addr → Prop} {v : V} {kvs : List (D × D)} (I : Inv X pins σ H s) (rx : Rep (kt X) S H v (.dict kvs)) (hf : isFL kvs = false) :
    ∃ a o u es ep ks vs, v = .ref a ∧ H a = some (.frz o u) ∧ (a == sysModules) = false ∧ s.heap.get? a = some o ∧ o.ExactDict ∧ o.data = .dict es ep ∧ es.size = ks.length ∧ es.size = vs.length ∧ (∀ i (hi : i < es.size) x, ks[i]? = some x → RelV x es[i].key) ∧ (∀ i (hi : i < es.size) x, vs[i]? = some x → RelV x es[i].val) ∧ RepL (kt X) S H ks ((dictBody kvs).map (·.1)) ∧ RepL (kt X) S H vs ((dictBody kvs).map (·.2)) ∧ ks.length ≤ sizeLine := by
  generalize hd : PyData.dict kvs = d at rx
  cases rx with
  | kl h z r => cases hd; cases hf
  | @dK a o xs es' n r z hv =>
    cases hd
    obtain ⟨go, z', hs, vs, kv, dd⟩ := (show _ ∧ _ ∧ _ from I.hok a _ r)
    obtain ⟨es, ep, raw, hz, hk⟩ := dd.raw
    obtain ⟨o', go', hx, hdt⟩ := raw
    rw [go] at go'; cases go'
    have hl : xs.length = vs.length := Paired.length kv
    have hlv := hv.length
    rw [List.length_map] at hlv
    refine ⟨a, o, _, es, ep, xs.map fun p => kV p.1, xs.map (·.2), rfl, r, hs, go, hx, hdt, by rw [List.length_map]; omega, by rw [List.length_map]; omega, fun i hi x e => ?_, fun i hi x e => ?_, ?_, ?_, by rw [List.length_map]; exact z⟩
    · rw [List.getElem?_map] at e
      obtain ⟨p, hp, rfl⟩ := Option.map_eq_some_iff.mp e
      obtain ⟨w', e1, _⟩ := kv_get kv (i := i) (k := p.1) (v := p.2) hp
      exact relV_key (hk i hi _ _ e1).1
    · rw [List.getElem?_map] at e
      obtain ⟨p, hp, rfl⟩ := Option.map_eq_some_iff.mp e
      obtain ⟨w', e1, rw'⟩ := kv_get kv (i := i) (k := p.1) (v := p.2) hp
      rw [(hk i hi _ _ e1).2]
      exact rw'
    · rw [dictBody_K, zip_fst (by rw [List.length_map, hlv])]
      exact rep_keys xs
    · rw [dictBody_K, zip_snd (by rw [List.length_map, hlv])]
      exact hv
  | @dN a o xs ks es' n r z hk e hdp hv =>
    cases hd
    have go : s.heap.get? a = some o := (show _ ∧ _ from I.hok a _ r).1
    obtain ⟨hs, ys, pp, dd⟩ := dictN_at I (.inr ⟨o, r⟩) hk e hdp
    obtain ⟨es, ep, raw, hz, hq⟩ := dd.raw
    obtain ⟨o', go', hx, hdt⟩ := raw
    rw [go] at go'; cases go'
    have hl : xs.length = ys.length := Paired.length pp
    have h1 := keysN_length e
    have h2 := hv.length
    rw [List.length_map] at h1 h2
    refine ⟨a, o, _, es, ep, xs.map fun p => V.ref p.2.1, xs.map (·.2.2), rfl, r, hs, go, hx, hdt, by rw [List.length_map]; omega, by rw [List.length_map]; omega, fun i hi x ex => ?_, fun i hi x ex => ?_, ?_, ?_, by rw [List.length_map]; exact z⟩
    · rw [List.getElem?_map] at ex
      obtain ⟨p, hp, rfl⟩ := Option.map_eq_some_iff.mp ex
      obtain ⟨y, e1, e2, _⟩ := hq i hi
      obtain ⟨y', e3, e4, e5, _⟩ := paired_get pp (i := i) (a := p) hp
      rw [e1] at e3
      cases e3
      rw [e2, ← e5]
      rfl
    · rw [List.getElem?_map] at ex
      obtain ⟨p, hp, rfl⟩ := Option.map_eq_some_iff.mp ex
      obtain ⟨y, e1, _, e2, _⟩ := hq i hi
      obtain ⟨y', e3, e4, e5, e6⟩ := paired_get pp (i := i) (a := p) hp
      rw [e1] at e3
      cases e3
      rw [e2]
      exact e6
    · show RepL (kt X) S H _ ((ks.zip es').map (·.1))
      rw [zip_fst (by rw [h1, h2])]
      exact hk
    · show RepL (kt X) S H _ ((ks.zip es').map (·.2))
      rw [zip_snd (by rw [h1, h2])]
      exact hv
  | _ => cases hd
/-- for k in d -/
theorem i_keys {X : Cx} {pins : List (Addr × Obj)} {σ : L2.St} {H : Hp} {s : Shared} {S : Addr → Prop} {v : V} {u : Value} {kvs : List (D × D)} {tg : Expr} {R : L2.It → Hp → Prop} (I : Inv X pins σ H s) (rx : Rep (kt X) S H v (.dict kvs)) (hf : isFL kvs = false) (r1 : RelV v u) (q : ∀ J, ItOk (kt X) S H J ((dictBody kvs).map (·.1)) → R J H) :
    wpAny (model X.prog X.w) X.A (pyIter u) (PIE X pins σ tg R) X.xe s := by
  obtain ⟨a, o, w, es, ep, ks, vs, rfl, ha, hs, go, hx, hd, l1, l2, g1, g2, rk, rv, z⟩ := frz_parts I rx hf
  cases r1
  refine wpAny_pyIter_dict_raw hs ⟨o, go, hx, hd⟩ ?_
  have hne : a ≠ s.heap.objs.size := Nat.ne_of_lt (Heap.lt_size go)
  refine ⟨s.heap.objs.size, [s.heap.objs.size], _, _, H, rfl, I.kept (t' := s.toks) fun b o e => Heap.get?_push_of_some _ e, turn_dk hx hd l1 g1 hne, ⟨_, Heap.get?_push_size _ rfl, rfl, rfl⟩, fun b hb => ?_, q _ (it_D ha z rk)⟩
  have e : b = s.heap.objs.size := by simpa using hb
  subst e
  exact I.fpOk (Nat.le_refl _) (I.hok.fresh (Nat.le_refl _))
section
variable {X : Cx} {XC : Nat → Value → Prop} {W : WX} {a b tg : Expr} {f g : En → R D} {pos : Pos}
theorem i_val (ha : PE X a (rd (kt X) XC W f)) : PI X tg a (rdI (kt X) XC W fun env => R.bind (f env) fun x => lift (itemsD x)) := by
  refine ⟨fun pins s σ H R I ⟨S0, B, env, er, p⟩ => ?_⟩
  refine thn (ha.run pins s σ H (fun v H1 => ∃ x, Rep (kt X) (OS S0 env σ) H1 v x ∧ ∃ ds, itemsD x = some ds ∧ ∀ J, ItOk (kt X) (OS S0 env σ) H1 J ds → R J H1) I ⟨S0, B, env, er, p.bind.imp fun x H1 s1 p1 v rv => ?_⟩) fun v s1 ⟨y, H1, I1, r1, x, rx, ds, e, q⟩ => ?_
  · obtain ⟨ds, e, q⟩ := p1.lift
    exact ⟨x, rv, ds, e, q H1 (Same.refl _)⟩
  · cases x with
    | list xs =>
      cases e
      obtain ⟨l, ys, rfl, n, r, z, h⟩ := rx.list_of
      cases r1
      obtain ⟨its, rv, p, hz⟩ := I1.list (.inl r)
      refine wpAny_pyIter_list p.isList ?_
      refine ⟨s1.heap.objs.size, [s1.heap.objs.size], _, _, H1, rfl, I1.kept (t' := s1.toks) fun b o e => Heap.get?_push_of_some _ e, turn_list l _, ⟨_, Heap.get?_push_size _ rfl, rfl, rfl⟩, fun b hb => ?_, q _ (it_list n r z h)⟩
      have e : b = s1.heap.objs.size := by simpa using hb
      subst e
      exact I1.fpOk (Nat.le_refl _) (I1.hok.fresh (Nat.le_refl _))
    | tuple xs =>
      cases e
      obtain ⟨l, ys, rfl, r, z, h⟩ := rx.tuple_of
      cases r1
      obtain ⟨its, rv, p, hz⟩ := I1.tuple r
      refine wpAny_pyIter_tuple (show s1.heap.IsTuple l its.toArray from p) ?_
      refine ⟨s1.heap.objs.size, [s1.heap.objs.size], _, _, H1, rfl, I1.kept (t' := s1.toks) fun b o e => Heap.get?_push_of_some _ e, turn_tuple l _, ⟨_, Heap.get?_push_size _ rfl, rfl, rfl⟩, fun b hb => ?_, q _ (it_tup r z h)⟩
      have e : b = s1.heap.objs.size := by simpa using hb
      subst e
      exact I1.fpOk (Nat.le_refl _) (I1.hok.fresh (Nat.le_refl _))
    | str x =>
      obtain ⟨g, rfl⟩ := gd_some (show gd (decide (x.cps.size ≤ lim)) (x.cps.toList.map fun c => PyData.str ⟨#[c]⟩) = some ds from e)
      have g := of_decide_eq_true g
      have ls := lim_lt
      cases rx.str_of
      obtain ⟨t, rfl⟩ := r1
      have q := q _ (it_str (C := kt X) (by omega))
      cases ha : x.cps.all (· < 128)
      · exact wpAny_pyIter_wide ha (pi_one (tk := s1.toks) I1 _ (turn_str _ x t "str_iterator" (.inr rfl)) ⟨_, Heap.get?_push_size _ rfl, rfl, rfl⟩ q)
      · exact wpAny_pyIter_ascii ha (pi_one (tk := s1.toks) I1 _ (turn_str _ x t "str_ascii_iterator" (.inl rfl)) ⟨_, Heap.get?_push_size _ rfl, rfl, rfl⟩ q)
    | dict kvs =>
      cases hf : isFL kvs with
      | false =>
        have e : some ((dictBody kvs).map (·.1)) = some ds := by simpa only [itemsD, flOf_none hf, hf, Bool.not_false, gd_true] using e
        cases e
        exact i_keys I1 rx hf r1 q
      | true =>
        obtain ⟨l, ys, ds', rfl, rfl, r, z, h⟩ := RepB.kl_of0 rx hf
        cases (show some ds' = some ds from e)
        cases r1
        obtain ⟨its, rv, p, hz⟩ := I1.list r.sq
        refine wpAny_pyIter_list p.isList ?_
        refine ⟨s1.heap.objs.size, [s1.heap.objs.size], _, _, H1, rfl, I1.kept (t' := s1.toks) fun b o e => Heap.get?_push_of_some _ e, turn_list l _, ⟨_, Heap.get?_push_size _ rfl, rfl, rfl⟩, fun b hb => ?_, q _ (it_kl r z h)⟩
        have e : b = s1.heap.objs.size := by simpa using hb
        subst e
        exact I1.fpOk (Nat.le_refl _) (I1.hok.fresh (Nat.le_refl _))
    | _ => cases e
theorem pi_imp {e : Expr} {t t' : TI} (h : PI X tg e t) (i : ∀ σ H Q, t' σ H Q → t σ H Q) : PI X tg e t' := ⟨fun pins s σ H Q I q => h.run pins s σ H Q I (i σ H Q q)⟩
theorem i_rng {p : Pos} (b : BltOk X "range") (hs : ∀ e' p, a ≠ .Starred e' p) (ha : PE X a (rd (kt X) XC W f)) : PI X tg (.Call (.Name "range" p) [a] [] pos) (rdI (kt X) XC W fun env => R.bind (f env) fun x => lift (rangeD x)) := by
  refine pi_imp (pi_range1 b.g b.m (pa_cons ha pa_nil (star_of hs [] X.env)) (star_of hs [] X.env)) fun σ H R ⟨S0, B, env, er, p⟩ => ⟨S0, B, env, er, p.bind.imp fun x H1 s1 p1 v rv => ?_⟩
  obtain ⟨ds, e, q⟩ := p1.lift
  cases x with
  | int n =>
    obtain ⟨g, rfl⟩ := gd_some (show gd (decide (-1000000 ≤ n ∧ n ≤ 1000000)) (rangeL n.toNat) = some ds from e)
    have g := of_decide_eq_true g
    refine ⟨n, by rw [rv.int_of], by omega, by omega, q H1 (Same.refl _) _ (it_rng (by rw [sizeLine_eq]; omega))⟩
  | _ => cases e
theorem i_enm {p tpos : Pos} {elts : List Expr} {kk : Nat} (b : BltOk X "enumerate") (hs : ∀ e' p, a ≠ .Starred e' p) (ha : PE X a (rd (kt X) XC W f)) : PI X (.Tuple elts kk tpos) (.Call (.Name "enumerate" p) [a] [] pos) (rdI (kt X) XC W fun env => R.bind (f env) fun x => lift (enmD x)) := by
  refine pi_imp (pi_enum b.g b.m (pa_cons ha pa_nil (star_of hs [] X.env)) (star_of hs [] X.env)) fun σ H R ⟨S0, B, env, er, p⟩ => ⟨S0, B, env, er, p.bind.imp fun x H1 s1 p1 v rv => ?_⟩
  obtain ⟨ds, e, q⟩ := p1.lift
  cases x with
  | list xs =>
    cases e
    obtain ⟨l, ys, rfl, n, r, z, h⟩ := rv.list_of
    exact ⟨l, ys, rfl, .inl r, q H1 (Same.refl _) _ (it_enm n r z h)⟩
  | _ => cases e
theorem i_zip {p tpos : Pos} {elts : List Expr} {kk : Nat} (bt : BltOk X "zip") (hs : ∀ e' p, a ≠ .Starred e' p) (hs2 : ∀ e' p, b ≠ .Starred e' p) (ha : PE X a (rd (kt X) XC W f)) (hb : PE X b (rd (kt X) XC W g)) :
    PI X (.Tuple elts kk tpos) (.Call (.Name "zip" p) [a, b] [] pos) (rdI (kt X) XC W fun env => R.bind (f env) fun x => R.bind (g env) fun y => lift (zipD x y)) := by
  have e2 := star_of hs2 [] X.env
  refine pi_imp (RZ.pi_zipA bt.g bt.m (pa_cons ha (pa_cons hb pa_nil e2) (star_of hs _ X.env)) (star_of hs _ X.env) (by rw [e2]; rfl)) fun σ H R ⟨S0, B, env, er, p⟩ => ⟨S0, B, env, er, p.bind.imp fun x H1 s1 p1 v rv => ⟨S0, B, env, er.same s1, p1.bind.imp fun y H2 s2 p2 w rw' => ?_⟩⟩
  obtain ⟨ds, e, q⟩ := p2.lift
  have rv := rv.same s2
  cases x with
  | list xs =>
    cases y with
    | list ys =>
      cases e
      obtain ⟨l, us, rfl, n, r, z, h⟩ := rv.list_of
      obtain ⟨l2, us2, rfl, n2, r2, z2, h2⟩ := rw'.list_of
      exact ⟨l, l2, us, us2, rfl, .inl ⟨.inl r, .inl r2, q H2 (Same.refl _) _ (it_zipL n r z h n2 r2 h2)⟩⟩
    | _ => cases e
  | tuple xs =>
    cases y with
    | tuple ys =>
      cases e
      obtain ⟨l, us, rfl, r, z, h⟩ := rv.tuple_of
      obtain ⟨l2, us2, rfl, r2, z2, h2⟩ := rw'.tuple_of
      exact ⟨l, l2, us, us2, rfl, .inr ⟨r, r2, q H2 (Same.refl _) _ (it_zipT r z h r2 h2)⟩⟩
    | _ => cases e
  | _ => cases y <;> cases e
end
end PI
end
section
/-! Targets, comprehensions. -/
namespace PI
open PySem PySem.Spec PyProof.Rows L2
def patIdx : Pat → List Nat
  | .nm i => [i]
  | .tp is => is
/-- a target -/
def rdG (C : Kt) (p : Pat) : TG := fun v σ H Q => ∃ S0 B env d env', ER C S0 B σ H env ∧ Rep C (OS S0 env σ) H v d ∧ patSet p d env = some env' ∧ ∀ σ', ER C S0 B σ' H env' → σ'.length = σ.length → (∀ j, j ∉ patIdx p → σ'[j]? = σ[j]?) → Q σ' H
def rdGs (C : Kt) (is : List Nat) : TGs := fun vs σ H Q => ∃ S0 B env ds env', ER C S0 B σ H env ∧ RepL C (OS S0 env σ) H vs ds ∧ setAll env is ds = some env' ∧ ∀ σ', ER C S0 B σ' H env' → σ'.length = σ.length → (∀ j, j ∉ is → σ'[j]? = σ[j]?) → Q σ' H
structure TgOk (X : Cx) (x : Str) (i : Nat) : Prop where
  hi : X.N[i]? = some x
  hl : Loc X.env.scope x
  hf : X.fn x = true ∨ X.env.scope.names.lookup x = some .local
inductive TgsOk (X : Cx) : List Expr → List Nat → Prop
  | nil : TgsOk X [] []
  | cons {x : Str} {p : Pos} {i : Nat} {es : List Expr} {is : List Nat} : TgOk X x i → TgsOk X es is → TgsOk X (.Name x p :: es) (i :: is)
section
variable {X : Cx}
theorem pg_imp {e : Expr} {t t' : TG} (h : PG X e t) (i : ∀ v σ H Q, t' v σ H Q → t v σ H Q) : PG X e t' := ⟨fun pins s σ H v u Q I r q => h.run pins s σ H v u Q I r (i v σ H Q q)⟩
theorem pgs_imp {e : List Expr} {t t' : TGs} (h : PGs X e t) (i : ∀ v σ H Q, t' v σ H Q → t v σ H Q) : PGs X e t' := ⟨fun pins s σ H v u Q I r q => h.run pins s σ H v u Q I r (i v σ H Q q)⟩
theorem ER.OS_set {C : Kt} {S0 : Addr → Prop} {B H : Hp} {σ : L2.St} {env : En} (e : ER C S0 B σ H env) {i : Nat} {d : D} {w : Option V} {a : Addr} (h : OS S0 (setAt env i (.val d)) (σ.set i w) a) : OS S0 env σ a := by
  rcases h with h | ⟨j, f, h1, h2⟩
  · exact .inl h
  · by_cases hj : i = j
    · subst hj
      have hi : i < env.length := by
        have := lt_of_slot h1 (by intro z; cases z)
        rwa [setAt_length] at this
      rw [slotAt_setAt_same hi] at h1
      cases h1
    · rw [slotAt_setAt_ne hj] at h1
      rw [List.getElem?_set_ne hj] at h2
      exact .inr ⟨j, f, h1, h2⟩
theorem g_name {x : Str} {i : Nat} {p : Pos} (hN : X.N.Nodup) (t : TgOk X x i) : PG X (.Name x p) (rdG (kt X) (.nm i)) := by
  refine pg_imp (pg_name hN t.hi t.hl t.hf) fun v σ H Q ⟨S0, B, env, d, env', er, r, e, k⟩ => ?_
  cases e
  refine k _ (er.set r) (by rw [List.length_set]) fun j hj => ?_
  rw [List.getElem?_set_ne]
  intro z; subst z; exact hj (List.mem_singleton.mpr rfl)
theorem gs_names (hN : X.N.Nodup) : ∀ {es : List Expr} {is : List Nat}, TgsOk X es is → PGs X es (rdGs (kt X) is)
  | _, _, .nil => pgs_imp pgs_nil fun vs σ H Q ⟨S0, B, env, ds, env', er, r, e, k⟩ => by
    cases ds with
    | nil => cases e; cases r; exact ⟨rfl, k σ er rfl fun _ _ => rfl⟩
    | cons d ds => cases e
  | _, _, .cons (i := i) (is := is) t ts => pgs_imp (pgs_cons (g_name hN t) (gs_names hN ts)) fun vs σ H Q ⟨S0, B, env, ds, env', er, r, e, k⟩ => by
    cases ds with
    | nil => cases e
    | cons d ds =>
      cases r with
      | cons r1 r2 =>
        refine ⟨_, _, rfl, S0, B, env, d, _, er, r1, rfl, fun σ1 er1 hl1 h1 => ?_⟩
        have m : ∀ a, OS S0 (setAt env i (.val d)) σ1 a → OS S0 env σ a := fun a h => by
          rcases h with h | ⟨j, f, h3, h4⟩
          · exact .inl h
          · by_cases hj : i = j
            · subst hj
              have hi : i < env.length := by
                have := lt_of_slot h3 (by intro z; cases z)
                rwa [setAt_length] at this
              rw [slotAt_setAt_same hi] at h3
              cases h3
            · rw [slotAt_setAt_ne hj] at h3
              rw [h1 j (by intro z; exact hj (List.mem_singleton.mp z).symm)] at h4
              exact .inr ⟨j, f, h3, h4⟩
        refine ⟨S0, B, _, ds, env', er1, r2.keep (.of_same (Same.refl _)) m, e, fun σ2 er2 hl2 h2 => k σ2 er2 (hl2.trans hl1) fun j hj => ?_⟩
        rw [h2 j (fun z => hj (List.mem_cons_of_mem _ z)), h1 j (fun z => hj (by rw [List.mem_singleton.mp z]; exact List.mem_cons_self))]
theorem tgs_each : ∀ {es : List Expr} {is : List Nat} (env : Env), TgsOk X es is → (assignEach es env).length = is.length ∧ (assignEach es env).findIdx? (·.1) = none
  | _, _, env, .nil => ⟨rfl, rfl⟩
  | _, _, env, .cons (x := x) (p := p) (es := es) t ts => by
    obtain ⟨h1, h2⟩ := tgs_each env ts
    have e : assignEach (.Name x p :: es) env = (false, assign (.Name x p) env) :: assignEach es env := rfl
    rw [e]
    refine ⟨by rw [List.length_cons, List.length_cons, h1], ?_⟩
    rw [List.findIdx?_cons, h2]
    rfl
theorem g_tup {es : List Expr} {is : List Nat} {k : Nat} {p : Pos} (hc : X.calm = true) (hN : X.N.Nodup) (t : TgsOk X es is) : PG X (.Tuple es k p) (rdG (kt X) (.tp is)) := by
  obtain ⟨h1, h2⟩ := tgs_each X.env t
  refine pg_imp (pg_tup hc (gs_names hN t) h1 h2) fun v σ H Q ⟨S0, B, env, d, env', er, r, e, k⟩ => ?_
  cases d with
  | tuple ds =>
    have e : setAll env is ds = some env' := e
    obtain ⟨a, xs, rfl, ha, hz, ra⟩ := r.tuple_of
    refine ⟨a, xs, rfl, ha, ?_, S0, B, env, ds, env', er, ra, e, k⟩
    rw [ra.length]
    have go : ∀ {is : List Nat} {ds : List D} {env env' : En}, setAll env is ds = some env' → ds.length = is.length := by
      intro is
      induction is with
      | nil => intro ds env env' h; cases ds with | nil => rfl | cons _ _ => cases h
      | cons i is ih => intro ds env env' h; cases ds with | nil => cases h | cons d ds => rw [List.length_cons, List.length_cons, ih h]
    exact go e
  | _ => cases e
end

/-! ### wiping -/
theorem wipe_at {σ : L2.St} {j : Nat} : ∀ {vs : List Nat}, j ∈ vs → j < σ.length → (wipe σ vs)[j]? = some none
  | [], h, _ => nomatch h
  | v :: vs, h, hl => by
    unfold wipe
    by_cases e : v = j
    · subst e; rw [List.getElem?_set_self (by rw [wipe_length]; exact hl)]
    · rw [List.getElem?_set_ne e]
      exact wipe_at ((List.mem_cons.mp h).resolve_left fun z => e z.symm) hl
theorem wipe_ext {σ τ : L2.St} {vs : List Nat} (hl : τ.length = σ.length) (h : ∀ j, j ∉ vs → τ[j]? = σ[j]?) : wipe τ vs = wipe σ vs := by
  refine List.ext_getElem? fun j => ?_
  by_cases hj : j ∈ vs
  · by_cases hlt : j < σ.length
    · rw [wipe_at hj hlt, wipe_at hj (by rw [hl]; exact hlt)]
    · rw [List.getElem?_eq_none (by rw [wipe_length, hl]; omega), List.getElem?_eq_none (by rw [wipe_length]; omega)]
  · rw [wipe_out hj, wipe_out hj, h j hj]
theorem wipeE_out {env : En} {i : Nat} : ∀ {vs : List Nat}, i ∉ vs → slotAt (wipeE env vs) i = slotAt env i
  | [], _ => rfl
  | v :: vs, h => by
    unfold wipeE
    rw [slotAt_setAt_ne (fun e => h (by rw [e]; exact List.mem_cons_self))]
    exact wipeE_out fun z => h (List.mem_cons_of_mem _ z)
theorem setAll_out {i : Nat} : ∀ {is : List Nat} {ds : List D} {env env' : En}, setAll env is ds = some env' → i ∉ is → slotAt env' i = slotAt env i
  | [], [], _, _, h, _ => by cases h; rfl
  | [], _ :: _, _, _, h, _ => by cases h
  | _ :: _, [], _, _, h, _ => by cases h
  | j :: is, d :: ds, env, env', h, n => by
    rw [setAll_out (show setAll (setAt env j (.val d)) is ds = some env' from h) fun z => n (List.mem_cons_of_mem _ z)]
    exact slotAt_setAt_ne fun e => n (by rw [e]; exact List.mem_cons_self)
theorem patSet_out {p : Pat} {d : D} {env env' : En} {i : Nat} (h : patSet p d env = some env') (n : i ∉ patIdx p) : slotAt env' i = slotAt env i := by
  cases p with
  | nm j =>
    cases h
    exact slotAt_setAt_ne fun e => n (by rw [e]; exact List.mem_singleton.mpr rfl)
  | tp is =>
    cases d with
    | tuple ds => exact setAll_out (show setAll env is ds = some env' from h) n
    | _ => cases h

/-! ### comprehensions -/
/-- what one turn of a comprehension gives -/
def lcF (p : Pat) (c e : En → R D) (own : List Nat) (env : En) (x : D) : Option (Option D) := (patSet p x (wipeE env own)).bind fun env' => ((c env').quiet.bind truthD).bind fun t => cond t ((e env').quiet.map some) (some none)
def lcE (p : Pat) (it : En → R (List D)) (c e : En → R D) (own : List Nat) (env : En) : R D := cond (own.all fun i => noOwn (slotAt env i)) (R.bind (it env) fun xs => R.bind (lift (lcGo (lcF p c e own env) xs)) fun ys => .ok (.list ys)) .stuck
/-- a value that is new -/
def rdF0 (C : Kt) (XC : Nat → Value → Prop) (W : WX) (f : En → R D) : TE := fun σ H Q => ∃ S0 B env, ER C S0 B σ H env ∧ Post XC W σ H (fun d H' => ∀ a, H a = none → OwnR C (fun b => OS S0 env σ b ∨ b = a) H' a d → Q (.ref a) H') (f env)
theorem quiet_of {α : Type} {r : R α} {a : α} (h : r.quiet = some a) : r = .ok a := by
  cases r with
  | ok b => cases h; rfl
  | exc _ => cases h
  | stuck => cases h
section
variable {X : Cx} {XC : Nat → Value → Prop} {W : WX}
/-- a value that is new, or the thing locked -/
def rdF (C : Kt) (XC : Nat → Value → Prop) (W : WX) (f : En → R D) : TE := fun σ H Q => rdF0 C XC W f σ H (QL Q)
theorem pe_F {e : Expr} {f : En → R D} (h : PE X e (rdF0 (kt X) XC W f)) : PE X e (rdF (kt X) XC W f) := ⟨fun pins s σ H Q I q => wp_lock (h.run pins s σ H (QL Q) I q)⟩
theorem rd_of_F {e : Expr} {f : En → R D} (h : PE X e (rdF0 (kt X) XC W f)) : PE X e (rd (kt X) XC W f) := pe_imp (pe_F h) fun σ H Q ⟨S0, B, env, er, p⟩ => ⟨S0, B, env, er, by
  have p : Post XC W σ H (fun d H' => ∀ v, Rep (kt X) (OS S0 env σ) H' v d → Q v H') (f env) := p
  show Post XC W σ H (fun d H' => ∀ a, H a = none → OwnR (kt X) (fun b => OS S0 env σ b ∨ b = a) H' a d → QL Q (.ref a) H') (f env)
  cases hf : f env with
  | stuck => rw [hf] at p; exact p
  | exc c => rw [hf] at p; exact p
  | ok d =>
    rw [hf] at p
    intro H' s a ha o
    rcases OwnR.rep (S' := OS S0 env σ) (.inr rfl) (fun q => by obtain ⟨u, z⟩ := er.there q; rw [ha] at z; cases z) (fun _ q => .inl q) o with r | ⟨u, e, mt, _, r⟩
    · exact .inl (p H' s _ r)
    · refine .inr ⟨a, u, rfl, e, mt, fun o => p _ (fun b v hb => ?_) _ (r o)⟩
      rw [upd_ne (fun z => by rw [z, ha] at hb; cases hb)]
      exact s b v hb⟩
theorem lc_imp {p : Pat} {it : En → R (List D)} {c e : En → R D} {own : List Nat} {tt : TT} (hp : ∀ i ∈ patIdx p, i ∈ own) (ht : ∀ σ H Q, rdT (kt X) XC (fun _ _ _ _ => False) c σ H Q → tt σ H Q) (σ : L2.St) (H : Hp) (Q : VK)
    (h : rdF0 (kt X) XC W (lcE p it c e own) σ H Q) : tLc (rdI (kt X) XC W it) (rdG (kt X) p) tt (rd (kt X) XC (fun _ _ _ _ => False) e) own σ H Q := by
  obtain ⟨S0, B, env, er, q⟩ := h
  have ls := sizeLine_eq
  cases hown : own.all fun i => noOwn (slotAt env i) with
  | false =>
    unfold lcE at q
    rw [hown] at q
    exact q.elim
  | true =>
    unfold lcE at q
    rw [hown] at q
    have q : Post XC W σ H (fun d H' => ∀ a, H a = none → OwnR (kt X) (fun b => OS S0 env σ b ∨ b = a) H' a d → Q (.ref a) H') (R.bind (it env) fun xs => R.bind (lift (lcGo (lcF p c e own env) xs)) fun ys => .ok (.list ys)) := q
    have nown : ∀ i d, slotAt env i = .own d → i ∉ own := fun i d h1 h2 => by
      have := List.all_eq_true.mp hown i h2
      rw [h1] at this
      cases this
    refine ⟨S0, B, env, er, q.bind.imp fun xs H1 s1 p1 J ok Dd hD => ?_⟩
    obtain ⟨ys, el, q1⟩ := p1.bind.lift
    have er1 := er.same s1
    have hDH : H Dd = none := by
      cases z : H Dd with
      | none => rfl
      | some o => rw [s1 _ _ z] at hD; cases hD
    -- the turn's invariant
    let Inv1 : Nat → Hp → Prop := fun i H2 => Same H1 H2 ∧ ∃ acc ds zs, H2 Dd = some (.lst acc) ∧ RepL (kt X) (fun b => OS S0 env σ b ∨ b = Dd) H2 acc ds ∧ acc.length ≤ i ∧ lcGo (lcF p c e own env) (xs.drop i) = some zs ∧ ds ++ zs = ys
    have start : Inv1 0 (upd H1 Dd (.lst [])) := ⟨Same.upd hD, [], [], ys, upd_same, .nil, Nat.le_refl _, el, rfl⟩
    refine ⟨fun i m H2 => m = xs.length - i ∧ i ≤ xs.length ∧ Inv1 i H2, ⟨_, rfl, Nat.zero_le _, start⟩, ?_⟩
    rintro i m H2 ⟨rfl, hi, s2, acc, ds, zs, hacc, racc, hlen, hzs, hys⟩
    by_cases hlt : i < xs.length
    · refine .inr ⟨ok.go H2 i xs[i] (.of_same s2) (List.getElem?_eq_getElem hlt), Inv1 (i + 1), fun H' q' => ⟨xs.length - (i + 1), by omega, rfl, by omega, q'⟩, fun x H2' y => ?_⟩
      obtain ⟨s3, rx⟩ := ok.yld H2 i xs[i] x H2' (.of_same s2) (List.getElem?_eq_getElem hlt) y
      have s23 := s2.trans s3
      have hacc' : H2' Dd = some (.lst acc) := s3 _ _ hacc
      have racc' := racc.same s3
      rw [List.drop_eq_getElem_cons hlt] at hzs
      obtain ⟨o, ho, hzs⟩ := Option.bind_eq_some_iff.mp hzs
      obtain ⟨r, hr, hzs⟩ := Option.map_eq_some_iff.mp hzs
      obtain ⟨env', he', ho⟩ := Option.bind_eq_some_iff.mp ho
      obtain ⟨t, ht', ho⟩ := Option.bind_eq_some_iff.mp ho
      obtain ⟨cv, hcv, htv⟩ := Option.bind_eq_some_iff.mp ht'
      have hcv := quiet_of hcv
      have erb := (er1.block hD s23 ⟨_, hacc'⟩).wipe own
      have mW : ∀ a, OS (fun a => S0 a ∨ a = Dd) (wipeE env own) (wipe σ own) a → OS S0 env σ a ∨ H1 a = none := fun a ha => by
        rcases wipe_OS own ha er.len with (ha | rfl) | ha
        · exact .inl (.inl ha)
        · exact .inr hD
        · exact .inl (.inr ha)
      refine ⟨_, B, wipeE env own, xs[i], env', erb, rx _ mW, he', fun σ2 er2 hl2 h2 => ?_⟩
      have h2' : ∀ j, j ∉ own → σ2[j]? = σ[j]? := fun j hj => by
        rw [h2 j fun z => hj (hp j z), wipe_out hj]
      refine ⟨wipe_ext (hl2.trans (wipe_length σ own)) h2', ?_⟩
      have big : ∀ a, (OS S0 env σ a ∨ a = Dd) → OS (fun a => S0 a ∨ a = Dd) env' σ2 a := fun a ha => by
        rcases ha with (ha | ⟨j, d, h3, h4⟩) | ha
        · exact .inl (.inl ha)
        · have hj := nown j d h3
          refine .inr ⟨j, d, ?_, by rw [h2' j hj]; exact h4⟩
          rw [patSet_out he' fun z => hj (hp j z), wipeE_out hj, h3]
        · exact .inl (.inr ha)
      refine ht _ _ _ ⟨_, B, env', er2, ?_⟩
      rw [hcv]
      show Post XC _ σ2 H2' _ (lift (truthD cv))
      rw [htv]
      intro H3 s3'
      cases t with
      | false =>
        have ho : some none = some o := ho
        cases ho
        have hzs : r = zs := hzs
        subst hzs
        rw [if_neg Bool.false_ne_true]
        exact ⟨s23.trans s3', acc, ds, r, s3' _ _ hacc', racc'.same s3', by omega, hr, hys⟩
      | true =>
        have ho : (e env').quiet.map some = some o := ho
        obtain ⟨yv, hyv, rfl⟩ := Option.map_eq_some_iff.mp ho
        have hyv := quiet_of hyv
        have hzs : yv :: r = zs := hzs
        subst hzs
        rw [if_pos rfl]
        refine ⟨_, B, env', er2.same s3', ?_⟩
        rw [hyv]
        intro H4 s4 y ry
        have s34 := s3'.trans s4
        have hacc4 : H4 Dd = some (.lst acc) := s34 _ _ hacc'
        have hz := ok.len
        refine ⟨acc, hacc4, by omega, fun b u hb => ?_, acc ++ [y], ds ++ [yv], r, upd_same, ?_, by rw [List.length_append]; simp; omega, hr, by rw [← hys, List.append_assoc]; rfl⟩
        · have hne : b ≠ Dd := fun z => by rw [z, hD] at hb; cases hb
          rw [upd_ne hne]
          exact s34 _ _ (s23 _ _ hb)
        · have kp : Keep (fun b => OS S0 env σ b ∨ b = Dd) H4 (upd H4 Dd (.lst (acc ++ [y]))) := fun b u hb n => by
            by_cases z : b = Dd
            · subst z
              rw [hacc4] at hb; cases hb
              exact absurd ⟨.inr rfl, Mu.lst⟩ n
            · rw [upd_ne z]; exact hb
          refine RepL.append ((racc'.same s34).keep kp fun _ z => z) (.cons ?_ .nil)
          exact (ry.keep (.of_same (Same.refl _)) big).keep kp fun _ z => z
    · have hie : i = xs.length := by omega
      subst hie
      rw [List.drop_length] at hzs
      cases hzs
      rw [List.append_nil] at hys
      subst hys
      exact .inl ⟨ok.stop H2 _ (.of_same s2) (Nat.le_refl _), (q1 H2 s2).here Dd hDH ⟨acc, hacc, by have := ok.len; omega, racc⟩⟩
end
end PI
end
section
/-! Statements, one by one. -/
namespace PI
open PySem PySem.Spec PyProof.Rows L2
/-- what is wanted behind a statement -/
def PostS (C : Kt) (XC : Nat → Value → Prop) (W : WX) (S0 : Addr → Prop) (B : Hp) (D : Ends) : Rs → Prop
  | .nx env' => ∀ σ' H', ER C S0 B σ' H' env' → D.nx σ' H'
  | .rt d => ∀ v H', Same B H' → Rep C S0 H' v d → D.rt v H'
  | .ex c env' => ∀ cls σ' H', XC c cls → ER C S0 B σ' H' env' → W cls none σ' H'
  | .bad => False
def rdS (C : Kt) (XC : Nat → Value → Prop) (W : WX) (f : En → Rs) : TS := fun D σ H => ∃ S0 B env, ER C S0 B σ H env ∧ PostS C XC W S0 B D (f env)
section
variable {C : Kt} {XC : Nat → Value → Prop} {W : WX} {S0 : Addr → Prop} {B H H' : Hp} {σ : L2.St} {env : En} {Dn : Ends}
theorem PostS.of {α : Type} {r : R α} {k : α → Rs} (er : ER C S0 B σ H env) (h : PostS C XC W S0 B Dn (Rs.of r env k)) : Post XC W σ H (fun a _ => PostS C XC W S0 B Dn (k a)) r := by
  cases r with
  | ok a => exact fun _ _ => h
  | exc c => exact fun cls H' x s => h cls σ H' x (er.same s)
  | stuck => exact h
theorem PostS.lf {α : Type} {r : Option α} {k : α → Rs} (h : PostS C XC W S0 B Dn (Rs.lf r k)) : ∃ a, r = some a ∧ PostS C XC W S0 B Dn (k a) := by
  cases r with
  | some a => exact ⟨a, rfl, h⟩
  | none => exact h.elim
theorem PostS.bind {r : Rs} {k : En → Rs} (h : PostS C XC W S0 B Dn (Rs.bind r k)) : PostS C XC W S0 B { Dn with nx := fun σ' H' => ∃ env', ER C S0 B σ' H' env' ∧ PostS C XC W S0 B Dn (k env') } r := by
  cases r with
  | nx env' => exact fun σ' H' e => ⟨env', e, h⟩
  | rt d => exact h
  | ex c e => exact h
  | bad => exact h

/-! ### the environment changed -/
/-- a slot owns a new thing -/
theorem ER.setOwn (e : ER C S0 B σ H env) (s : Same H H') {a : Addr} (ha : H a = none) {d : D} {i : Nat} (o : OwnR C (fun b => OS S0 env σ b ∨ b = a) H' a d) : ER C S0 B (σ.set i (some (.ref a))) H' (setAt env i (.own d)) := by
  by_cases hi : i < env.length
  · have his : i < σ.length := by rw [e.len]; exact hi
    have ne : ∀ j f b, slotAt env j = .own f → σ[j]? = some (some (.ref b)) → b ≠ a := fun j f b h1 h2 z => by
      obtain ⟨u, q⟩ := e.own_there h1 h2
      rw [z, ha] at q; cases q
    have sub : ∀ b, OS S0 (setAt env i (.own d)) (σ.set i (some (.ref a))) b → OS S0 env σ b ∨ b = a := fun b h => by
      rcases h with h | ⟨j, f, h1, h2⟩
      · exact .inl (.inl h)
      · by_cases hj : i = j
        · subst hj
          rw [List.getElem?_set_self his] at h2
          injection h2 with h2; injection h2 with h2; injection h2 with h2
          exact .inr h2.symm
        · rw [slotAt_setAt_ne hj] at h1
          rw [List.getElem?_set_ne hj] at h2
          exact .inl (.inr ⟨j, f, h1, h2⟩)
    have m : ∀ b, OS S0 (setAt env i (.own d)) (σ.set i (some (.ref a))) b → OS S0 env σ b ∨ H b = none := fun b h => (sub b h).imp id fun z => by rw [z]; exact ha
    refine ⟨by rw [List.length_set, setAt_length]; exact e.len, fun j => ?_, fun j k d1 d2 b h1 h2 h3 h4 => ?_, e.base.trans s, fun j f b h1 h2 => ?_, fun b h => let ⟨u, q⟩ := e.s0 b h; ⟨u, s _ _ q⟩, fun j f b h1 h2 => ?_⟩
    · by_cases hj : i = j
      · subst hj
        rw [slotAt_setAt_same hi, List.getElem?_set_self his]
        exact ⟨a, rfl, .inr ⟨i, d, slotAt_setAt_same hi, List.getElem?_set_self his⟩, o.keep (.of_same (Same.refl _)) sub fun _ q => q⟩
      · rw [slotAt_setAt_ne hj, List.getElem?_set_ne hj]
        have q := e.slots j
        cases hs : slotAt env j with
        | emp => trivial
        | val f => rw [hs] at q; obtain ⟨u, h1, h2⟩ := q; exact ⟨u, h1, h2.keepN (.of_same s) m⟩
        | own f =>
          rw [hs] at q
          obtain ⟨b, h1, h2, h3⟩ := q
          exact ⟨b, h1, .inr ⟨j, f, by rw [slotAt_setAt_ne hj]; exact hs, by rw [List.getElem?_set_ne hj]; exact h1⟩, h3.keepN (.of_same s) m fun u q => s _ _ q⟩
    · by_cases hj : i = j
      · by_cases hk : i = k
        · rw [← hj, ← hk]
        · subst hj
          rw [List.getElem?_set_self his] at h3
          injection h3 with h3; injection h3 with h3; injection h3 with h3
          rw [slotAt_setAt_ne hk] at h2
          rw [List.getElem?_set_ne hk] at h4
          exact absurd h3.symm (ne k d2 b h2 h4)
      · rw [slotAt_setAt_ne hj] at h1
        rw [List.getElem?_set_ne hj] at h3
        by_cases hk : i = k
        · subst hk
          rw [List.getElem?_set_self his] at h4
          injection h4 with h4; injection h4 with h4; injection h4 with h4
          exact absurd h4.symm (ne j d1 b h1 h3)
        · rw [slotAt_setAt_ne hk] at h2
          rw [List.getElem?_set_ne hk] at h4
          exact e.inj j k d1 d2 b h1 h2 h3 h4
    · by_cases hj : i = j
      · subst hj
        rw [List.getElem?_set_self his] at h2
        injection h2 with h2; injection h2 with h2; injection h2 with h2
        subst h2
        cases z : B a with
        | none => rfl
        | some u => rw [e.base _ _ z] at ha; cases ha
      · rw [slotAt_setAt_ne hj] at h1
        rw [List.getElem?_set_ne hj] at h2
        exact e.fresh j f b h1 h2
    · by_cases hj : i = j
      · subst hj
        rw [List.getElem?_set_self his] at h2
        injection h2 with h2; injection h2 with h2; injection h2 with h2
        subst h2
        intro q
        obtain ⟨u, z⟩ := e.s0 _ q
        rw [ha] at z; cases z
      · rw [slotAt_setAt_ne hj] at h1
        rw [List.getElem?_set_ne hj] at h2
        exact e.sep j f b h1 h2
  · have h1 : setAt env i (.own d) = env := by
      have go : ∀ (env : En) (i : Nat), env.length ≤ i → setAt env i (.own d) = env := by
        intro env
        induction env with
        | nil => intro i _; rfl
        | cons s r ih =>
          intro i h
          cases i with
          | zero => simp at h
          | succ i => simp only [setAt]; rw [ih i (by simpa using h)]
      exact go env i (by omega)
    have h2 : σ.set i (some (.ref a)) = σ := List.set_eq_of_length_le (by rw [e.len]; omega)
    rw [h1, h2]
    exact e.same s
/-- an owned thing has changed -/
theorem ER.mut (e : ER C S0 B σ H env) {i : Nat} {a : Addr} {d d' : D} {o : HO} (hs : slotAt env i = .own d) (hi : σ[i]? = some (some (.ref a))) (r : OwnR C (OS S0 env σ) (upd H a o) a d') : ER C S0 B σ (upd H a o) (setAt env i (.own d')) := by
  have hl : i < env.length := lt_of_slot hs (by intro z; cases z)
  obtain ⟨o0, h0, m0⟩ := (e.ownAt hs hi).there
  have kp : Keep (OS S0 env σ) H (upd H a o) := fun b u hb n => by
    by_cases z : b = a
    · subst z
      rw [h0] at hb; cases hb
      exact absurd ⟨.inr ⟨i, d, hs, hi⟩, m0⟩ n
    · rw [upd_ne z]; exact hb
  have own : ∀ j f, slotAt (setAt env i (.own d')) j = .own f → ∃ f', slotAt env j = .own f' := fun j f h => by
    by_cases hj : i = j
    · subst hj; exact ⟨d, hs⟩
    · rw [slotAt_setAt_ne hj] at h; exact ⟨f, h⟩
  have sub : ∀ b, OS S0 (setAt env i (.own d')) σ b → OS S0 env σ b := fun b h => by
    rcases h with h | ⟨j, f, h1, h2⟩
    · exact .inl h
    · obtain ⟨f', h1'⟩ := own j f h1; exact .inr ⟨j, f', h1', h2⟩
  refine ⟨by rw [setAt_length]; exact e.len, fun j => ?_, fun j k d1 d2 b h1 h2 h3 h4 => ?_, fun b u h => ?_, fun j f b h1 h2 => ?_, fun b h => ?_, fun j f b h1 h2 => ?_⟩
  · by_cases hj : i = j
    · subst hj
      rw [slotAt_setAt_same hl, hi]
      exact ⟨a, rfl, .inr ⟨i, d', slotAt_setAt_same hl, hi⟩, r.keep (.of_same (Same.refl _)) sub fun _ q => q⟩
    · rw [slotAt_setAt_ne hj]
      have q := e.slots j
      cases hq : slotAt env j with
      | emp => trivial
      | val f => rw [hq] at q; obtain ⟨u, h1, h2⟩ := q; exact ⟨u, h1, h2.keep kp sub⟩
      | own f =>
        rw [hq] at q
        obtain ⟨b, h1, h2, h3⟩ := q
        have hne : b ≠ a := fun z => by
          subst z
          exact hj (e.inj i j d f b hs hq hi h1)
        exact ⟨b, h1, .inr ⟨j, f, by rw [slotAt_setAt_ne hj]; exact hq, h1⟩, h3.keep kp sub fun u q => by rw [upd_ne hne]; exact q⟩
  · obtain ⟨f1, q1⟩ := own j d1 h1
    obtain ⟨f2, q2⟩ := own k d2 h2
    exact e.inj j k f1 f2 b q1 q2 h3 h4
  · have hne : b ≠ a := fun z => by
      subst z
      rw [e.fresh i d b hs hi] at h; cases h
    rw [upd_ne hne]
    exact e.base _ _ h
  · obtain ⟨f1, q1⟩ := own j f h1
    exact e.fresh j f1 b q1 h2
  · obtain ⟨u, q⟩ := e.s0 b h
    by_cases z : b = a
    · subst z; exact ⟨_, upd_same⟩
    · exact ⟨u, by rw [upd_ne z]; exact q⟩
  · obtain ⟨f1, q1⟩ := own j f h1
    exact e.sep j f1 b q1 h2
/-- an owned thing is given free -/
theorem ER.frz (e : ER C S0 B σ H env) (i : Nat) : ER C S0 B σ H (setAt env i (frzS (slotAt env i))) ∨ ∃ a u, H a = some u ∧ Mut (some u) ∧ ∀ o, ER C S0 B σ (upd H a (.frz o u)) (setAt env i (frzS (slotAt env i))) := by
  have same : (∀ s, frzS s = s → slotAt env i = s → ER C S0 B σ H (setAt env i (frzS (slotAt env i)))) := fun s h1 h2 => by
    have h3 : setAt env i (frzS (slotAt env i)) = env := by
      rw [h2, h1, ← h2]
      have go : ∀ (env : En) (i : Nat), setAt env i (slotAt env i) = env := by
        intro env
        induction env with
        | nil => intro i; rfl
        | cons s r ih => intro i; cases i with | zero => rfl | succ i => simp only [setAt, slotAt, ih]
      exact go env i
    rw [h3]; exact e
  cases hs : slotAt env i with
  | emp => have := same .emp rfl hs; rw [hs] at this; exact .inl this
  | val d => have := same (.val d) rfl hs; rw [hs] at this; exact .inl this
  | own d =>
    have hl : i < env.length := lt_of_slot hs (by intro z; cases z)
    have q := e.slots i
    rw [hs] at q
    obtain ⟨a, hi, hS, hO⟩ := q
    have sub : ∀ b, OS S0 (setAt env i (.val d)) σ b → OS S0 env σ b ∧ b ≠ a := fun b h => by
      rcases h with h | ⟨j, f, h1, h2⟩
      · exact ⟨.inl h, fun z => by subst z; exact e.sep i d b hs hi h⟩
      · by_cases hj : i = j
        · subst hj
          rw [slotAt_setAt_same hl] at h1
          cases h1
        · rw [slotAt_setAt_ne hj] at h1
          exact ⟨.inr ⟨j, f, h1, h2⟩, fun z => by subst z; exact hj (e.inj i j d f b hs h1 hi h2)⟩
    have nown : ∀ j f, slotAt (setAt env i (.val d)) j = .own f → slotAt env j = .own f := fun j f h => by
      by_cases hj : i = j
      · subst hj
        rw [slotAt_setAt_same hl] at h
        cases h
      · rw [slotAt_setAt_ne hj] at h; exact h
    have mk : ∀ H2 : Hp, (∀ b o, b ≠ a → H b = some o → H2 b = some o) → (∃ o, H2 a = some o) → Keep (OS S0 env σ) H H2 → Rep C (OS S0 (setAt env i (.val d)) σ) H2 (.ref a) d → ER C S0 B σ H2 (setAt env i (.val d)) := fun H2 hk hx kp r => by
      refine ⟨by rw [setAt_length]; exact e.len, fun j => ?_, fun j k d1 d2 b h1 h2 h3 h4 => e.inj j k d1 d2 b (nown _ _ h1) (nown _ _ h2) h3 h4, fun b v hb => ?_, fun j f b h1 h2 => e.fresh j f b (nown _ _ h1) h2, fun b hb => ?_, fun j f b h1 h2 => e.sep j f b (nown _ _ h1) h2⟩
      · by_cases hj : i = j
        · subst hj
          rw [slotAt_setAt_same hl, hi]
          exact ⟨.ref a, rfl, r⟩
        · rw [slotAt_setAt_ne hj]
          have q := e.slots j
          cases hq : slotAt env j with
          | emp => trivial
          | val f => rw [hq] at q; obtain ⟨u, h1, h2⟩ := q; exact ⟨u, h1, h2.keep kp fun b h => (sub b h).1⟩
          | own f =>
            rw [hq] at q
            obtain ⟨b, h1, h2, h3⟩ := q
            have nb : b ≠ a := fun z => by subst z; exact hj (e.inj i j d f b hs hq hi h1)
            exact ⟨b, h1, .inr ⟨j, f, by rw [slotAt_setAt_ne hj]; exact hq, h1⟩, h3.keep kp (fun b h => (sub b h).1) fun o q => hk b o nb q⟩
      · exact hk b v (fun z => by subst z; rw [e.fresh i d b hs hi] at hb; cases hb) (e.base b v hb)
      · by_cases z : b = a
        · subst z; exact hx
        · obtain ⟨o, q⟩ := e.s0 b hb
          exact ⟨o, hk b o z q⟩
    rcases OwnR.rep (S' := OS S0 (setAt env i (.val d)) σ) hS (fun h => (sub a h).2 rfl) (fun b h => (sub b h).1) hO with r | ⟨u, eu, mt, mu, r⟩
    · obtain ⟨o, h0, _⟩ := hO.there
      exact .inl (mk H (fun _ _ _ q => q) ⟨o, h0⟩ (.of_same (Same.refl _)) r)
    · refine .inr ⟨a, u, eu, mt, fun o => mk _ (fun b v nb q => by rw [upd_ne nb]; exact q) ⟨_, upd_same⟩ (fun b v hb n => ?_) (r o)⟩
      by_cases z : b = a
      · subst z
        rw [eu] at hb; cases hb
        exact absurd ⟨hS, mu⟩ n
      · rw [upd_ne z]; exact hb
end

/-! ### the rules -/
section
variable {X : Cx} {XC : Nat → Value → Prop} {W : WX} {a b c : Expr} {f g : En → R D} {pos : Pos} {st : Stmt} {sts : List Stmt}
theorem ps_imp {t t' : TS} (h : PS X st t) (i : ∀ D σ H, t' D σ H → t D σ H) : PS X st t' := ⟨fun pins s σ H D I q => h.run pins s σ H D I (i D σ H q)⟩
theorem pss_imp {t t' : TS} (h : PSs X sts t) (i : ∀ D σ H, t' D σ H → t D σ H) : PSs X sts t' := ⟨fun pins s σ H D I q => h.run pins s σ H D I (i D σ H q)⟩
theorem ss_nil : PSs X [] (rdS (kt X) XC W .nx) := pss_imp pss_nil fun D σ H ⟨S0, B, env, er, p⟩ => p σ H er
theorem ss_cons {h k : En → Rs} (h1 : PS X st (rdS (kt X) XC W h)) (h2 : PSs X sts (rdS (kt X) XC W k)) : PSs X (st :: sts) (rdS (kt X) XC W fun env => Rs.bind (h env) k) :=
  pss_imp (pss_cons h1 h2) fun D σ H ⟨S0, B, env, er, p⟩ => ⟨S0, B, env, er, by
    have q := p.bind
    cases hh : h env with
    | nx env' => rw [hh] at q; exact fun σ' H' e => ⟨S0, B, q σ' H' e⟩
    | rt d => rw [hh] at q; exact q
    | ex c e => rw [hh] at q; exact q
    | bad => rw [hh] at q; exact q⟩
theorem ss_pass : PS X (.Pass pos) (rdS (kt X) XC W .nx) := ps_imp ps_pass fun D σ H ⟨S0, B, env, er, p⟩ => p σ H er
theorem ss_ret (ha : PE X a (rd (kt X) XC W f)) : PS X (.Return (some a) pos) (rdS (kt X) XC W fun env => .of (f env) env .rt) :=
  ps_imp (ps_ret ha) fun D σ H ⟨S0, B, env, er, p⟩ => ⟨S0, B, env, er, (PostS.of er p).imp fun d H' s k v r => k v H' (er.base.trans s) (r.keep (.of_same (Same.refl _)) fun _ h => .inl h)⟩
theorem ss_ret0 : PS X (.Return none pos) (rdS (kt X) XC W fun _ => .rt .none) := ps_imp ps_retN fun D σ H ⟨S0, B, env, er, p⟩ => p _ _ er.base .non
theorem ss_exp (hs : swapsWith a none pos.line X.env = pure false) (ha : PE X a (rd (kt X) XC W f)) : PS X (.Expr a pos) (rdS (kt X) XC W fun env => .of (f env) env fun _ => .nx env) :=
  ps_imp (ps_expr ha hs) fun D σ H ⟨S0, B, env, er, p⟩ => ⟨S0, B, env, er, (PostS.of er p).imp fun d H' s k v r => k σ H' (er.same s)⟩
theorem ss_doc {x : Str} {j : Nat} {p2 : Pos} : PS X (.Expr (.Constant (.str x) j p2) pos) (rdS (kt X) XC W .nx) := ps_imp ps_doc fun D σ H ⟨S0, B, env, er, p⟩ => p σ H er
theorem ss_ite {u v : List Stmt} {h k : En → Rs} (hc : PT X c (rdT (kt X) XC W f)) (ha : PSs X u (rdS (kt X) XC W h)) (hb : PSs X v (rdS (kt X) XC W k)) : PS X (.If c u v pos) (rdS (kt X) XC W fun env => .of (f env) env fun x => .lf (truthD x) fun t => cond t (h env) (k env)) :=
  ps_imp (ps_if hc ha hb) fun D σ H ⟨S0, B, env, er, p⟩ => ⟨S0, B, env, er, by
    have q := PostS.of er p
    cases hf : f env with
    | exc _ => rw [hf] at q; exact q
    | stuck => rw [hf] at q; exact q
    | ok x =>
      rw [hf] at q
      obtain ⟨t, e, q⟩ := (q H (Same.refl _)).lf
      show Post XC W σ H _ (lift (truthD x))
      rw [e]
      intro H' s
      cases t with
      | true => exact ⟨S0, B, env, er.same s, q⟩
      | false => exact ⟨S0, B, env, er.same s, q⟩⟩
theorem ss_set {x : Str} {i : Nat} {p2 : Pos} (hN : X.N.Nodup) (t : TgOk X x i) (hs : swapsWith a (some (.Name x p2)) pos.line X.env = pure false) (ha : PE X a (rd (kt X) XC W f)) : PS X (.Assign [.Name x p2] a pos) (rdS (kt X) XC W fun env => .of (f env) env fun d => .nx (setAt env i (.val d))) :=
  ps_imp (ps_set hN t.hi t.hl ha hs t.hf) fun D σ H ⟨S0, B, env, er, p⟩ => ⟨S0, B, env, er, (PostS.of er p).imp fun d H' s k v r => k _ H' ((er.same s).set r)⟩
theorem ss_own {x : Str} {i : Nat} {p2 : Pos} (hN : X.N.Nodup) (t : TgOk X x i) (hs : swapsWith a (some (.Name x p2)) pos.line X.env = pure false) (ha : PE X a (rdF0 (kt X) XC W f)) : PS X (.Assign [.Name x p2] a pos) (rdS (kt X) XC W fun env => .of (f env) env fun d => .nx (setAt env i (.own d))) :=
  ps_imp (ps_set hN t.hi t.hl ha hs t.hf) fun D σ H ⟨S0, B, env, er, p⟩ => ⟨S0, B, env, er, (PostS.of er p).imp fun d H' s k a ha o => k _ H' (er.setOwn s ha o)⟩
theorem ss_unp {tg : Expr} {q : Pat} (ha : PE X a (rd (kt X) XC W f)) (hg : PG X tg (rdG (kt X) q)) (hs : swapsWithSole [tg] a pos.line X.env = pure false) (hw : swappedStores [tg] a X.env = pure none) (h1 : (assignEach [tg] X.env).map (·.2) = [assign tg X.env]) :
    PS X (.Assign [tg] a pos) (rdS (kt X) XC W fun env => .of (f env) env fun d => .lf (patSet q d env) .nx) :=
  ps_imp (ps_asg ha hg hs hw h1) fun D σ H ⟨S0, B, env, er, p⟩ => ⟨S0, B, env, er, (PostS.of er p).imp fun d H' s k v r => by
    obtain ⟨env', e, k⟩ := k.lf
    exact ⟨S0, B, env, d, env', er.same s, r, e, fun σ' er' _ _ => k σ' H' er'⟩⟩
theorem ss_aug {x : Str} {i : Nat} {p2 : Pos} (hN : X.N.Nodup) (t : TgOk X x i) (ha : PE X a (rd (kt X) XC W f)) : PS X (.AugAssign (.Name x p2) .Add a pos) (rdS (kt X) XC W fun env => .lf (valOf (slotAt env i)) fun u => .of (f env) env fun y => .lf (augD .add u y) fun z => .nx (setAt env i (.val z))) :=
  ps_imp (ps_aug hN t.hi t.hl ha ip_add t.hf) fun D σ H ⟨S0, B, env, er, p⟩ => by
    obtain ⟨u, eu, p⟩ := p.lf
    cases hs : slotAt env i with
    | emp => rw [hs] at eu; cases eu
    | own _ => rw [hs] at eu; cases eu
    | val u' =>
      rw [hs] at eu
      cases eu
      obtain ⟨v, hv, rv⟩ := er.var hs
      refine ⟨v, hv, S0, B, env, er, (PostS.of er p).imp fun y H' s k w rw' => ?_⟩
      obtain ⟨z, e, k⟩ := k.lf
      cases u with
      | int n =>
        cases y with
        | int m =>
          cases e
          exact ⟨n, m, rv.int_of, rw'.int_of, k _ H' ((er.same s).set (.int _))⟩
        | _ => cases e
      | _ => cases y <;> cases e
end
end PI
end
section
/-! Loops, stores into what is owned, new lists. -/
namespace PI
open PySem PySem.Spec PyProof.Rows L2
section
variable {C : Kt} {XC : Nat → Value → Prop} {W : WX} {S0 : Addr → Prop} {B H H' : Hp} {σ σ' : L2.St} {env env' : En}
/-- an owned place -/
def OwnAt (env : En) (σ : L2.St) (a : Addr) : Prop := ∃ i d, slotAt env i = .own d ∧ σ[i]? = some (some (.ref a))
open Classical in
/-- the base ahead of a loop: all but what is owned -/
noncomputable def loopB (env : En) (σ : L2.St) (H : Hp) : Hp := fun a => if OwnAt env σ a then none else H a
theorem ER.loop (e : ER C S0 B σ H env) : ER C S0 (loopB env σ H) σ H env := by
  refine ⟨e.len, e.slots, e.inj, fun b o h => ?_, fun i d a h1 h2 => ?_, e.s0, e.sep⟩
  · unfold loopB at h
    split at h
    · cases h
    · exact h
  · unfold loopB
    rw [if_pos ⟨i, d, h1, h2⟩]
theorem ER.base_loop (e : ER C S0 B σ H env) : Same B (loopB env σ H) := fun b o h => by
  unfold loopB
  rw [if_neg]
  · exact e.base _ _ h
  · rintro ⟨i, d, h1, h2⟩
    rw [e.fresh i d b h1 h2] at h; cases h
theorem ER.unloop (e : ER C S0 B σ H env) (e' : ER C S0 (loopB env σ H) σ' H' env') : ER C S0 B σ' H' env' := by
  refine ⟨e'.len, e'.slots, e'.inj, e.base_loop.trans e'.base, fun i d a h1 h2 => ?_, e'.s0, e'.sep⟩
  have := e'.fresh i d a h1 h2
  cases z : B a with
  | none => rfl
  | some o => rw [e.base_loop _ _ z] at this; cases this
theorem ER.loopKeep (e : ER C S0 B σ H env) (s : Same (loopB env σ H) H') : Keep (OS S0 env σ) H H' := fun b o h n => by
  refine s _ _ ?_
  unfold loopB
  rw [if_neg]
  · exact h
  · rintro ⟨i, d, h1, h2⟩
    obtain ⟨o', q, m⟩ := (e.ownAt h1 h2).there
    rw [h] at q; cases q
    exact n ⟨.inr ⟨i, d, h1, h2⟩, m⟩
theorem ER.loopSub (e : ER C S0 B σ H env) (e' : ER C S0 (loopB env σ H) σ' H' env') : ∀ a, OS S0 env' σ' a → OS S0 env σ a ∨ H a = none := fun a h => by
  rcases h with h | ⟨i, d, h1, h2⟩
  · exact .inl (.inl h)
  · have q := e'.fresh i d a h1 h2
    unfold loopB at q
    split at q
    · rename_i z; exact .inl (.inr z)
    · exact .inr q
theorem PostS.loop {Dn : Ends} {r : Rs} (e : ER C S0 B σ H env) (h : PostS C XC W S0 B Dn r) : PostS C XC W S0 (loopB env σ H) Dn r := by
  cases r with
  | nx env' => exact fun σ' H' e' => h σ' H' (e.unloop e')
  | rt d => exact fun v H' s r => h v H' (e.base_loop.trans s) r
  | ex c env' => exact fun cls σ' H' x e' => h cls σ' H' x (e.unloop e')
  | bad => exact h
end
section
variable {X : Cx} {XC : Nat → Value → Prop} {W : WX} {a b c tg : Expr} {f g : En → R D} {pos : Pos} {body : List Stmt}
theorem fold_none {e : Expr} (h : ∀ es k p, e ≠ .Set es k p) (env : Env) (x : Value) : foldedSetIterable e env x = pure x := by
  cases e <;> first | rfl | exact absurd rfl (h _ _ _)
theorem ss_for {q : Pat} {it : En → R (List D)} {h : En → Rs} (hp : PassesOwn (model X.prog X.w) X.A X.env X.xe) (hc : X.calm = true) (hi : PI X tg a (rdI (kt X) XC W it)) (hg : PG X tg (rdG (kt X) q)) (hb : PSs X body (rdS (kt X) XC W h)) (hs : ∀ es k p, a ≠ .Set es k p) :
    PS X (.For tg a body [] pos) (rdS (kt X) XC W fun env => .of (it env) env fun xs => forGo (fun x env => .lf (patSet q x env) h) xs env) := by
  refine ps_imp (ps_for hp hc hi hg hb (fun x => fold_none hs X.env x)) fun Dn σ H ⟨S0, B, env, er, p⟩ => ⟨S0, B, env, er, (PostS.of er p).imp fun xs H1 s1 k J ok => ?_⟩
  have er1 := er.same s1
  have k1 := k.loop er1
  refine ⟨fun i m σ' H' => m = xs.length - i ∧ i ≤ xs.length ∧ ∃ env', ER (kt X) S0 (loopB env σ H1) σ' H' env' ∧ PostS (kt X) XC W S0 (loopB env σ H1) Dn (forGo (fun x env => .lf (patSet q x env) h) (xs.drop i) env'), ⟨_, rfl, Nat.zero_le _, env, er1.loop, k1⟩, ?_⟩
  rintro i m σ2 H2 ⟨rfl, hi, env2, er2, k2⟩
  have kp := er1.loopKeep er2.base
  by_cases hlt : i < xs.length
  · refine .inr ⟨ok.go H2 i xs[i] kp (List.getElem?_eq_getElem hlt), fun σ' H' => ∃ env', ER (kt X) S0 (loopB env σ H1) σ' H' env' ∧ PostS (kt X) XC W S0 (loopB env σ H1) Dn (forGo (fun x env => .lf (patSet q x env) h) (xs.drop (i + 1)) env'), fun σ' H' n => ⟨xs.length - (i + 1), by omega, rfl, by omega, n⟩, fun x H2' y => ?_⟩
    obtain ⟨s3, rx⟩ := ok.yld H2 i xs[i] x H2' kp (List.getElem?_eq_getElem hlt) y
    rw [List.drop_eq_getElem_cons hlt] at k2
    have k3 := PostS.bind (show PostS (kt X) XC W S0 (loopB env σ H1) Dn (Rs.bind (.lf (patSet q xs[i] env2) h) fun env' => forGo (fun x env => .lf (patSet q x env) h) (xs.drop (i + 1)) env') from k2)
    obtain ⟨env3, e3, k3⟩ := k3.lf
    refine ⟨S0, _, env2, xs[i], env3, er2.same s3, rx _ (er1.loopSub er2), e3, fun σ3 er3 _ _ => ⟨S0, _, env3, er3, ?_⟩⟩
    cases hh : h env3 with
    | nx e => rw [hh] at k3; exact k3
    | rt d => rw [hh] at k3; exact k3
    | ex c e => rw [hh] at k3; exact k3
    | bad => rw [hh] at k3; exact k3
  · have hie : i = xs.length := by omega
    subst hie
    rw [List.drop_length] at k2
    exact .inl ⟨ok.stop H2 _ kp (Nat.le_refl _), k2 σ2 H2 er2⟩
theorem ss_whl {n : Nat} {h : En → Rs} (hp : PassesOwn (model X.prog X.w) X.A X.env X.xe) (hc : PT X c (rdT (kt X) XC W f)) (hb : PSs X body (rdS (kt X) XC W h)) : PS X (.While c body [] pos) (rdS (kt X) XC W fun env => whlGo f h n env) := by
  refine ps_imp (ps_while hp hc hb) fun Dn σ H ⟨S0, B, env, er, p⟩ => ?_
  refine ⟨fun m σ' H' => ∃ env', ER (kt X) S0 B σ' H' env' ∧ PostS (kt X) XC W S0 B Dn (whlGo f h m env'), ⟨n, env, er, p⟩, ?_⟩
  rintro m σ2 H2 ⟨env2, er2, k2⟩
  cases m with
  | zero => exact k2.elim
  | succ m =>
    have q := PostS.of er2 (show PostS (kt X) XC W S0 B Dn (Rs.of (f env2) env2 fun x => Rs.lf (truthD x) fun b => cond b (Rs.bind (h env2) fun env' => whlGo f h m env') (.nx env2)) from k2)
    refine ⟨S0, B, env2, er2, ?_⟩
    cases hf : f env2 with
    | exc _ => rw [hf] at q; exact q
    | stuck => rw [hf] at q; exact q
    | ok x =>
      rw [hf] at q
      obtain ⟨t, e, q⟩ := (q H2 (Same.refl _)).lf
      show Post XC W σ2 H2 _ (lift (truthD x))
      rw [e]
      intro H3 s3
      cases t with
      | false => exact q σ2 H3 (er2.same s3)
      | true =>
        have q3 := PostS.bind (show PostS (kt X) XC W S0 B Dn (Rs.bind (h env2) fun env' => whlGo f h m env') from q)
        rw [if_pos rfl]
        refine ⟨fun σ' H' => ∃ env', ER (kt X) S0 B σ' H' env' ∧ PostS (kt X) XC W S0 B Dn (whlGo f h m env'), fun σ' H' z => ⟨m, Nat.lt_succ_self m, z⟩, S0, B, env2, er2.same s3, ?_⟩
        cases hh : h env2 with
        | nx e => rw [hh] at q3; exact q3
        | rt d => rw [hh] at q3; exact q3
        | ex c e => rw [hh] at q3; exact q3
        | bad => rw [hh] at q3; exact q3

/-! ### what is owned is written -/
/-- x.m(a): the receiver's slot is read first -/
theorem ss_own_mt {x : Str} {i : Nat} {p2 apos cpos : Pos} {m : String} {id : String} {r : V → List V → Hp → VK → Prop} {up : Slot → D → Option Slot} (hN : X.N[i]? = some x) (hv : Vis X.env.scope x) (hd : (x == ("__debug__" : Str)) = false) (hcd : (x == ("__classdict__" : Str)) = false)
    (slot : PySem.Slot "list" (Str.ofString m) id) (hty : typeOf (.builtin id) = pure (.type "method_descriptor")) (hm : MtR X id r) (hs : ∀ e' p, a ≠ .Starred e' p) (hline : (apos.endLine == cpos.line) = true)
    (hr : ∀ (S : Addr → Prop) (H : Hp) (l : Addr) (us : List V) (xs : List D) (v : V) (d : D) (s' : Slot) (Q : VK), S l → H l = some (.lst us) → RepL (kt X) S H us xs → Rep (kt X) S H v d → up (.own (.list xs)) d = some s' →
      ∃ ws ys, s' = .own (.list ys) ∧ ws.length ≤ sizeLine ∧ RepL (kt X) S H ws ys ∧ (Q .non (upd H l (.lst ws)) → r (.ref l) [v] H Q))
    (ha : PE X a (rd (kt X) XC W f)) : PS X (.Expr (.Call (.Attribute (.Name x p2) (Str.ofString m) apos) [a] [] cpos) pos) (rdS (kt X) XC W fun env => cond (ownL (slotAt env i)) (.of (f env) env fun d => .lf (up (slotAt env i) d) fun s => .nx (setAt env i s)) .bad) := by
  have e1 := star_of hs [] X.env
  have hfew : ((backTo cpos (starEach [a] X.env)).all (fun x => !x.1) && (backToKw cpos (keywordEach [] X.env)).all (fun x => x.1.isSome)
      && decide (([a] : List Expr).length + ([] : List Keyword).length + (if ([] : List Keyword).isEmpty then 0 else 1) < 30)) = true := by rw [e1]; rfl
  refine ps_imp (ps_expr (pe_bm PySem.F.plainAttrs_list slot hty hm (pe_var hN hv hd hcd) (pa_cons ha pa_nil e1) rfl hfew hline e1 rfl) rfl) fun Dn σ H ⟨S0, B, env, er, p⟩ => ?_
  simp only [] at p
  cases hs : slotAt env i with
  | emp => rw [hs] at p; exact p.elim
  | val _ => rw [hs] at p; exact p.elim
  | own d0 =>
    rw [hs] at p
    cases d0 with
    | list xs =>
      have q := PostS.of er (show PostS (kt X) XC W S0 B Dn (.of (f env) env fun d => .lf (up (.own (.list xs)) d) fun s => .nx (setAt env i s)) from p)
      have sl := er.slots i
      rw [hs] at sl
      obtain ⟨l, hi, hS, us0, hl0, _, _⟩ := sl
      refine ⟨.ref l, hi, .inl ⟨rfl, us0, .inl (.inl hl0)⟩, S0, B, env, er, q.imp fun d H1 s1 k v rv => ?_⟩
      obtain ⟨s', e, k⟩ := k.lf
      have er1 := er.same s1
      obtain ⟨us, hl, hz, ru⟩ := er1.ownAt hs hi
      obtain ⟨ws, ys, rfl, hz2, rw', go⟩ := hr (OS S0 env σ) H1 l us xs v d s' (fun _ H2 => Dn.nx σ H2) hS hl ru rv e
      refine go (k σ _ (er1.mut hs hi ⟨ws, upd_same, hz2, rw'.keep (fun b u hb n => ?_) fun _ z => z⟩))
      by_cases z : b = l
      · subst z
        rw [hl] at hb; cases hb
        exact absurd ⟨hS, Mu.lst⟩ n
      · rw [upd_ne z]; exact hb
    | _ => exact p.elim
theorem ss_app {x : Str} {i : Nat} {p2 apos cpos : Pos} (hN : X.N[i]? = some x) (hv : Vis X.env.scope x) (hd : (x == ("__debug__" : Str)) = false) (hcd : (x == ("__classdict__" : Str)) = false) (hs : ∀ e' p, a ≠ .Starred e' p) (hline : (apos.endLine == cpos.line) = true)
    (ha : PE X a (rd (kt X) XC W f)) : PS X (.Expr (.Call (.Attribute (.Name x p2) "append" apos) [a] [] cpos) pos) (rdS (kt X) XC W fun env => cond (ownL (slotAt env i)) (.of (f env) env fun d => .lf (appS (slotAt env i) d) fun s => .nx (setAt env i s)) .bad) :=
  ss_own_mt (m := "append") hN hv hd hcd PySem.F.slot_list_append PySem.F.type_list_append mt_append hs hline (fun S H l us xs v d s' Q hS hl ru rv e => by
    obtain ⟨g, rfl⟩ := gd_some (show gd (decide (xs.length < lim)) (Slot.own (.list (xs ++ [d]))) = some s' from e)
    have g := of_decide_eq_true g
    have ls := lim_lt
    have hlen := ru.length
    exact ⟨us ++ [v], xs ++ [d], rfl, by rw [List.length_append]; simp; omega, ru.append (.cons rv .nil), fun q => ⟨l, us, v, rfl, rfl, hl, by omega, q⟩⟩) ha
def rExtR : V → List V → Hp → VK → Prop := fun x vs H Q => ∃ l b xs zs, x = .ref l ∧ vs = [.ref b] ∧ H l = some (.lst xs) ∧ Rd H b (.lst zs) ∧ xs.length + zs.length ≤ sizeLine ∧ Q .non (upd H l (.lst (xs ++ zs)))
theorem mt_extR : MtR X "list.extend" rExtR := by
  intro pins s σ H x vs v us Q I rx rv h
  obtain ⟨l, b, xs, zs, rfl, rfl, hH, hB, hz, q⟩ := h
  cases rx
  obtain ⟨u, rfl, ru⟩ := rv.one
  cases ru
  obtain ⟨z, its, n, r, hl, e⟩ := I.lstM hH
  obtain ⟨z2, its2, n2, r2, hl2, e2⟩ := lstR I hB
  have hsz : its.toArray.size + its2.toArray.size ≤ sizeLine := by rw [List.size_toArray, List.size_toArray]; omega
  have hlong : ¬ (!its.toArray.isEmpty && Builtin.List.listTooLong (its.toArray.size + its2.toArray.size)) = true := by
    rw [notLongL hsz, Bool.and_false]
    exact Bool.false_ne_true
  refine call_meets PySem.F.slot_list_extend ⟨_, e, rfl⟩ PySem.F.entry_list_extend (PySem.F.args_list_extend_2 _ _)
    (AutoSeq1.list_extend_list_list_0 l its.toArray n b its2.toArray n2 hlong (by rw [List.size_toArray]; omega) (by omega)) ⟨e, e2, ?_⟩
  refine ⟨.non, _, I.lset (its' := its ++ its2) hH e (by simp) (r.append r2) ?_, rfl, q⟩
  rw [List.length_append]
  omega
theorem ss_ext {x : Str} {i : Nat} {p2 apos cpos : Pos} (hN : X.N[i]? = some x) (hv : Vis X.env.scope x) (hd : (x == ("__debug__" : Str)) = false) (hcd : (x == ("__classdict__" : Str)) = false) (hs : ∀ e' p, a ≠ .Starred e' p) (hline : (apos.endLine == cpos.line) = true)
    (ha : PE X a (rd (kt X) XC W f)) : PS X (.Expr (.Call (.Attribute (.Name x p2) "extend" apos) [a] [] cpos) pos) (rdS (kt X) XC W fun env => cond (ownL (slotAt env i)) (.of (f env) env fun d => .lf (extS (slotAt env i) d) fun s => .nx (setAt env i s)) .bad) :=
  ss_own_mt (m := "extend") hN hv hd hcd PySem.F.slot_list_extend PySem.F.type_list_extend mt_extR hs hline (fun S H l us xs v d s' Q hS hl ru rv e => by
    cases d with
    | list ys =>
      obtain ⟨g, rfl⟩ := gd_some (show gd (decide (xs.length + ys.length < lim)) (Slot.own (.list (xs ++ ys))) = some s' from e)
      have g := of_decide_eq_true g
      have ls := lim_lt
      have hlen := ru.length
      obtain ⟨b, zs, rfl, nb, hb, hz, rz⟩ := rv.list_of
      have hlen2 := rz.length
      exact ⟨us ++ zs, xs ++ ys, rfl, by rw [List.length_append]; omega, ru.append rz, fun q => ⟨l, b, us, zs, rfl, rfl, hl, hb, by omega, q⟩⟩
    | _ => cases e) ha
/-- x[k] = v -/
def rStk (C : Kt) (env : En) (i : Nat) : V → V → V → Hp → (Hp → Prop) → Prop := fun o k v H Q => ∃ S0 B σ x y s', ER C S0 B σ H env ∧ σ[i]? = some (some o) ∧ Rep C (OS S0 env σ) H k x ∧ Rep C (OS S0 env σ) H v y ∧ stkS (slotAt env i) x y = some s' ∧ ∀ H', ER C S0 B σ H' (setAt env i s') → Q H'
theorem set_stk (hu : X.A.units + 20 < cLine) (env : En) (i : Nat) : PSet X (rStk (kt X) env i) := by
  intro pins s σ0 H o k v ov iv u Q I ro ri rv h
  obtain ⟨S0, B, σ, x, y, s', er, hi, rx, ry, e, q⟩ := h
  cases hs : slotAt env i with
  | emp => rw [hs] at e; cases e
  | val _ => rw [hs] at e; cases e
  | own d0 =>
    rw [hs] at e
    have sl := er.slots i
    rw [hs] at sl
    obtain ⟨l, hi', hS, hO⟩ := sl
    rw [hi] at hi'
    injection hi' with hi'; injection hi' with hi'
    subst hi'
    have keep : ∀ (o' : HO), Keep (OS S0 env σ) H (upd H l o') := fun o' b w hb n => by
      by_cases z : b = l
      · subst z
        obtain ⟨u', h1, h2⟩ := hO.there
        rw [hb] at h1; cases h1
        exact absurd ⟨hS, h2⟩ n
      · rw [upd_ne z]; exact hb
    cases d0 with
    | list xs =>
      cases x with
      | int j =>
        obtain ⟨n, hn, rfl⟩ := Option.map_eq_some_iff.mp (show (L2.ixN xs.length j).map _ = some s' from e)
        obtain ⟨us, hl, hz, ru⟩ := hO
        cases rx.int_of
        refine set_list pins s σ0 H (.ref l) (.int j) v ov iv u Q I ro ri rv ⟨l, us, j, n, rfl, rfl, hl, by rw [ru.length]; exact hn, q _ (er.mut hs hi ⟨us.set n v, upd_same, by rw [List.length_set]; exact hz, ?_⟩)⟩
        exact (RepL.set ry n ru).keep (keep _) fun _ z => z
      | _ => cases e
    | dict ps =>
      have e : cond (decide (ps.length < lim)) ((dictStore ps x y).map fun r => Slot.own (.dict r)) none = some s' := e
      cases g : decide (ps.length < lim) with
      | false => rw [g] at e; cases e
      | true =>
        rw [g] at e
        obtain ⟨ps', e1, rfl⟩ := Option.map_eq_some_iff.mp e
        cases (show ov = Value.ref l from ro)
        exact store_run hu I hS hO.1 hO.2 rx ri ry rv e1 (of_decide_eq_true g) fun s1 o' mu I1 d1 => ⟨_, I1, q _ (er.mut hs hi d1)⟩
    | _ => cases e
theorem assign_sub {o i : Expr} (h : ∀ l u p, i ≠ .Slice l u none p) (env : Env) (p : Pos) (v : Value) : assign (.Subscript o i p) env v = (do
      let ov ← holding [v] (eval o env)
      let iv ← holding [v, ov] (eval i env)
      standAt p
      holding [v, ov, iv] (setItem ov iv v)
      release [v, ov, iv] []) := by
  cases i <;> first | rfl | (rename_i l u st p'; cases st <;> first | rfl | exact absurd rfl (h _ _ _))
theorem ss_stk (hu : X.A.units + 20 < cLine) {x : Str} {i : Nat} {p2 tp : Pos} (hN : X.N[i]? = some x) (hv : Vis X.env.scope x) (hd : (x == ("__debug__" : Str)) = false) (hcd : (x == ("__classdict__" : Str)) = false) (hb : ∀ l u s p, b ≠ .Slice l u s p)
    (hs : swapsWithSole [.Subscript (.Name x p2) b tp] a pos.line X.env = pure false) (hw : swappedStores [.Subscript (.Name x p2) b tp] a X.env = pure none)
    (ha : PE X a (rd (kt X) XC W f)) (hk : PE X b (rd (kt X) XC W g)) :
    PS X (.Assign [.Subscript (.Name x p2) b tp] a pos) (rdS (kt X) XC W fun env => cond (isOwn (slotAt env i)) (.of (f env) env fun y => .of (g env) env fun x => .lf (stkS (slotAt env i) x y) fun s => .nx (setAt env i s)) .bad) := by
  refine ⟨fun pins s σ H Dn I ⟨S0, B, env, er, p⟩ => ?_⟩
  have h1 : (assignEach [.Subscript (.Name x p2) b tp] X.env).map (·.2) = [assign (.Subscript (.Name x p2) b tp) X.env] := rfl
  refine (ps_asg ha (pg_sub (pe_var hN hv hd hcd) hk (set_stk hu env i) (assign_sub (fun l u p z => hb l u none p z) X.env tp)) hs hw h1).run pins s σ H Dn I ?_
  simp only [] at p
  cases hs : slotAt env i with
  | emp => rw [hs] at p; exact p.elim
  | val _ => rw [hs] at p; exact p.elim
  | own d0 =>
    rw [hs] at p
    have p : PostS (kt X) XC W S0 B Dn (.of (f env) env fun y => .of (g env) env fun x => .lf (stkS (.own d0) x y) fun s => .nx (setAt env i s)) := p
    have sl := er.slots i
    rw [hs] at sl
    obtain ⟨l, hi, hS, hO⟩ := sl
    refine ⟨S0, B, env, er, (PostS.of er p).imp fun y H1 s1 k v rv => ⟨.ref l, hi, S0, B, env, er.same s1, (PostS.of (er.same s1) k).imp fun z H2 s2 k2 w rw' => ?_⟩⟩
    obtain ⟨s', e, k3⟩ := k2.lf
    exact ⟨S0, B, σ, z, y, s', (er.same s1).same s2, hi, rw', rv.same s2, by rw [hs]; exact e, fun H' e' => k3 σ H' e'⟩

/-! ### new lists, new dicts -/
theorem f_lst {es : List Expr} {h : En → R (List D)} (hl : es.length ≤ 1000) (hn : ∀ env ds, h env = .ok ds → ds.length = es.length) (ha : PA X es (rdA (kt X) XC W h)) : PE X (.List es pos) (rdF0 (kt X) XC W fun env => R.bind (h env) fun ds => .ok (.list ds)) := by
  refine pe_imp (pe_lst ha) fun σ H Q ⟨S0, B, env, er, p⟩ => ⟨S0, B, env, er, ?_⟩
  simp only [] at p
  cases hh : h env with
  | stuck => rw [hh] at p; exact p
  | exc c => rw [hh] at p; exact p
  | ok ds =>
    rw [hh] at p
    intro H1 s1 vs rvs
    have hz : vs.length ≤ sizeLine := by
      have := hn env ds hh
      have := rvs.length
      have := sizeLine_eq
      omega
    refine ⟨hz, fun q hq => p _ (s1.trans (Same.upd hq)) q ?_ ⟨vs, upd_same, hz, rvs.keepN (.of_same (Same.upd hq)) fun a ha => ha.imp id fun z => by rw [z]; exact hq⟩⟩
    cases z : H q with
    | none => rfl
    | some o => rw [s1 _ _ z] at hq; cases hq
theorem f_dnew : PE X (.Dict [] [] pos) (rdF0 (kt X) XC W fun _ => .ok (.dict [(.none, .none)])) := by
  refine ⟨fun pins s σ H Q I ⟨S0, B, env, er, p⟩ => wpAny_Dict_empty ?_⟩
  have hn := I.hok.fresh (Nat.le_refl s.heap.objs.size)
  refine ⟨.ref s.heap.objs.size, _, I.laid (a := s.heap.objs.size) (o := nO X.prog X.w s.heap.objs.size []) (t' := s.toks) (fun _ _ q => Heap.get?_push_of_some _ q) (Nat.le_refl _) (nO_new s.heap I.big), rfl, ?_⟩
  exact p _ (Same.upd hn) _ hn ⟨.n (kvs := []) (ks := []) (ds := []) (.inl upd_same) (Nat.zero_le _) .nil rfl (fun _ h => nomatch h) .nil, .nO upd_same⟩
end
end PI
end
section
/-! More expressions: turned round, sets that are only counted or sorted, dicts written, three walked at once. -/
namespace PI
open PySem PySem.Spec PyProof.Rows L2 PySem.W
section
variable {X : Cx} {XC : Nat → Value → Prop} {W : WX} {a b c : Expr} {f g k : En → R D} {pos : Pos}
/-! ### xs[::-1] -/
theorem adjust_back (n : Nat) : Builtin.Slice.sliceAdjust none none (-1) (n : Int) = ((n : Int) - 1, -1) := by
  unfold Builtin.Slice.sliceAdjust
  simp
theorem places_back (n : Nat) : Builtin.Slice.slicePlaces ((n : Int) - 1) (-1) (-1) = n := by
  unfold Builtin.Slice.slicePlaces
  simp
  omega
theorem pick_back (xs : Array Value) : ((List.range xs.size).filterMap fun (k : Nat) => xs[(((xs.size : Int) - 1) + (k : Int) * (-1)).toNat]?) = xs.toList.reverse := by
  have e : ((List.range xs.size).filterMap fun (k : Nat) => xs[(((xs.size : Int) - 1) + (k : Int) * (-1)).toNat]?) = ((List.range xs.size).map fun k => xs.size - 1 - k).filterMap (xs[·]?) := by
    rw [List.filterMap_map]
    congr 1
    funext k
    have h1 : (((xs.size : Int) - 1) + (k : Int) * (-1)).toNat = xs.size - 1 - k := by omega
    show xs[_]? = xs[_]?
    rw [h1]
  rw [e, krv_range, List.filterMap_reverse, krv_all]
theorem back_tuple {A : Around} {E : Value → Shared → Prop} {s : Shared} {t sl : Addr} {items : Array Value} {tk : Tok} {Q : Value → Shared → Prop} {P : Program} {w : World} (ht : IsTup s.heap t items) (hs : s.heap.IsSliceOf sl .none .none (.int (-1) tk)) (hz : items.size ≤ sizeLine)
    (h : Q (.ref s.heap.objs.size) { s with heap := s.heap.push { cls := .type "tuple", data := .seq items.toList.reverse.toArray } }) : wpAny (model P w) A (getItem (.ref t) (.ref sl)) Q E s := by
  have hfit : sizeOk (.seq items.toList.reverse.toArray) := by
    show items.toList.reverse.toArray.size ≤ sizeLine
    simpa using hz
  obtain ⟨os, hos, hcs, hds⟩ := id hs
  have hTs : s.TypeIs (.ref sl) "slice" := ⟨os, hos, hcs⟩
  unfold getItem
  try with_reducible refine wpAny_holding ?_
  first | refine wpAny_bind (wpAny_pure ?_) | skip
  refine wpAny_bind (wpAny_sequenceKey ht.typeIs (by decide) ?_)
  refine wpAny_bind (wpAny_callSpecial?_slot (name := Str.ofString "__getitem__") ht.typeIs PyProof.Rows.slot_tuple_getitem
    (wpAny_call_entry PyProof.Rows.slot_tuple_getitem ht.typeIs entry_tuple_getitem ?_ (args_tuple_getitem _ _)))
  show wpAny _ _ (Builtin.Tuple.tupleItemsOf (.ref t) >>= _) _ _ s
  refine wpAny_bind (tupleItemsOf_ ht ?_)
  refine wpAny_bind (wpAny_typeOf hTs ?_)
  rw [if_pos (by decide)]
  refine wpAny_bind ?_
  show wpAny _ _ (Builtin.Slice.sliceApplied (.ref sl) (pure (items.size : Int))) _ _ s
  unfold Builtin.Slice.sliceApplied Builtin.Slice.sliceFields
  refine wpAny_bind (wpAny_bind (wpAny_field hos hds (x := .none) rfl (wpAny_bind (wpAny_field hos hds (x := .none) rfl (wpAny_bind (wpAny_field hos hds (x := .int (-1) tk) rfl (wpAny_pure ?_)))))))
  refine wpAny_bind (slicePart_int ?_)
  show wpAny _ _ (if ((-1 : Int) == 0) = true then _ else _) _ _ s
  rw [if_neg (by decide)]
  refine wpAny_bind (slicePart_none (wpAny_bind (slicePart_none (wpAny_bind (wpAny_pure ?_)))))
  show wpAny _ _ (match Builtin.Slice.sliceAdjust none none (-1) (items.size : Int) with | (lo, hi) => pure (lo, (-1 : Int), Builtin.Slice.slicePlaces lo hi (-1))) _ _ s
  rw [adjust_back]
  show wpAny _ _ (pure ((items.size : Int) - 1, (-1 : Int), Builtin.Slice.slicePlaces ((items.size : Int) - 1) (-1) (-1))) _ _ s
  rw [places_back]
  refine wpAny_pure ?_
  have hno : ¬ ((((items.size : Int) - 1) == 0 && (-1 : Int) == 1 && items.size == items.size) = true) := by
    simp
  show wpAny _ _ (if (((items.size : Int) - 1) == 0 && (-1 : Int) == 1 && items.size == items.size) = true then _ else _) _ _ s
  rw [if_neg hno, pick_back]
  first
    | exact wpAny_bind (m := Builtin.Tuple.tupleExact _) (wpAny_newObj_type (wpAny_pure ⟨_, rfl, wpAny_pure h⟩) hfit)
    | exact wpAny_bind (m := Builtin.Tuple.tupleExact _) (wpAny_newObj_type (wpAny_bind (wpAny_pure (wpAny_pure ⟨_, rfl, wpAny_pure h⟩))) hfit)
    | exact wpAny_bind (wpAny_bind (m := Builtin.Tuple.tupleExact _) (wpAny_newObj_type (wpAny_pure (wpAny_pure ⟨_, rfl, wpAny_pure h⟩)) hfit))
    | exact wpAny_bind (wpAny_bind (m := Builtin.Tuple.tupleExact _) (wpAny_newObj_type (wpAny_pure ⟨_, rfl, wpAny_pure h⟩) hfit))
theorem s_rev {k2 : Nat} {p1 p2 p3 : Pos} (ha : PE X a (rdB (kt X) XC W f)) : PE X (.Subscript a (.Slice none none (some (.UnaryOp .USub (.Constant (.int 1) k2 p1) p2)) p3) pos) (rd (kt X) XC W fun env => R.bind (f env) fun x => lift (revD x)) := by
  refine ⟨fun pins s σ H Q I ⟨S0, B, env, er, p⟩ => ?_⟩
  refine Subscript_ (thn (ha.run pins s σ H (fun v H1 => ∃ x d, Trk (OS S0 env σ) H1 ∧ RepB (kt X) (OS S0 env σ) H1 v x ∧ revD x = some d ∧ PostV (kt X) (OS S0 env σ) H1 Q d) I ⟨S0, B, env, er, p.bind.imp fun x H1 s1 p1 v rv => ?_⟩) fun v s1 ⟨y, H1, I1, r1, x, d, tr, rx, e, q⟩ => ?_)
  · obtain ⟨d, e, q⟩ := p1.lift
    exact ⟨x, d, (er.same s1).trk, rv, e, fun v H' s r => q H' s v r⟩
  have hst : PO X (some (.UnaryOp .USub (.Constant (.int 1) k2 p1) p2)) (tPart (tUn (rU fun i => .int (-i)) (tC (.int 1)))) := po_some (pe_un un_neg pe_int)
  refine wpAny_Slice (thn (po_none.run pins s1 σ H1 (fun o H2 => o = none ∧ H2 = H1) I1 ⟨rfl, rfl⟩) fun vl s2 ⟨l, H2, I2, pl, el, e2⟩ => ?_)
  subst el e2
  refine thn (po_none.run pins s2 σ H2 (fun o H3 => o = none ∧ H3 = H2) I2 ⟨rfl, rfl⟩) fun vu s3 ⟨u, H3, I3, pu, eu, e3⟩ => ?_
  subst eu e3
  refine thn (hst.run pins s3 σ H3 (fun o H4 => o = some (-1) ∧ H4 = H3) I3 ⟨1, rfl, -1, rfl, rfl, rfl⟩) fun vs s4 ⟨o, H4, I4, ps, eo, e4⟩ => ?_
  subst eo e4
  have I5 : Inv X pins σ H4 { s4 with heap := s4.heap.push { cls := .type "slice", data := .fields #[vl, vu, vs] } } := I4.kept (t' := s4.toks) fun b ob q => Heap.get?_push_of_some _ q
  cases x with
  | list zs =>
    cases e
    obtain ⟨l, ys, rfl, ha', z, rr⟩ := rx.list_of
    cases r1
    obtain ⟨its, rv, ht, hz⟩ := I5.list (.inl ha')
    show wpAny (model X.prog X.w) X.A (subscriptTail a (.Slice none none (some (.UnaryOp .USub (.Constant (.int 1) k2 p1) p2)) p3) (.ref l) (.ref s4.heap.objs.size)) (EP X pins σ Q) X.xe { s4 with heap := s4.heap.push { cls := .type "slice", data := .fields #[vl, vu, vs] } }
    refine tail_any (ops := [.ref l, .ref s4.heap.objs.size]) ht.isList.typeIs (PySem.slot_list_getitem.lookup) ?_ (by with_unfolding_all rfl)
    refine wpAny_getItem_list_slice ht.isList (Heap.IsSliceOf.new _ vl vu vs) pl pu ps (by decide) ?_ (by rw [List.size_toArray, ← rv.length]; exact z)
    rw [PySem.W.krv_pick]
    refine ⟨.ref _, _, I5.laid (t' := s4.toks) (o := .lst ys.reverse) (fun b ob q => Heap.get?_push_of_some _ q) (Nat.le_refl _) ?_, rfl, q.newL tr (I5.hok.fresh (Nat.le_refl _)) (by rw [List.length_reverse]; exact z) rr.reverse⟩
    exact ⟨by rw [List.length_reverse]; exact z, _, 0, rv.reverse, Heap.get?_push_size _ rfl⟩
  | tuple zs =>
    cases e
    obtain ⟨l, ys, rfl, ha', z, rr⟩ := rx.tuple_of
    cases r1
    obtain ⟨its, rv, ht, hz⟩ := I5.tuple ha'
    cases pl
    cases pu
    cases ps with
    | int _ tk =>
      show wpAny (model X.prog X.w) X.A (subscriptTail a (.Slice none none (some (.UnaryOp .USub (.Constant (.int 1) k2 p1) p2)) p3) (.ref l) (.ref s4.heap.objs.size)) (EP X pins σ Q) X.xe { s4 with heap := s4.heap.push { cls := .type "slice", data := .fields #[.none, .none, .int (-1) tk] } }
      refine tail_any (ops := [.ref l, .ref s4.heap.objs.size]) ht.typeIs PyProof.Rows.slot_tuple_getitem.lookup ?_ (by with_unfolding_all rfl)
      refine back_tuple ht (Heap.IsSliceOf.new _ .none .none (.int (-1) tk)) (by rw [List.size_toArray, ← rv.length]; exact z) ?_
      refine ⟨.ref _, _, I5.laid (t' := s4.toks) (o := .tup ys.reverse) (fun b ob q => Heap.get?_push_of_some _ q) (Nat.le_refl _) ?_, rfl, q.newT (I5.hok.fresh (Nat.le_refl _)) (by rw [List.length_reverse]; exact z) rr.reverse⟩
      refine ⟨by rw [List.length_reverse]; exact z, its.reverse, rv.reverse, ?_⟩
      have e2 : its.toArray.toList.reverse.toArray = its.reverse.toArray := by simp
      rw [← e2]
      exact IsTup.new _ _
  | _ => cases e

/-! ### sets -/
theorem firstsE_mem {α : Type} [DecidableEq α] : ∀ {l : List α} {x : α}, x ∈ firstsE l ↔ x ∈ l
  | [], _ => Iff.rfl
  | y :: r, x => by
    unfold firstsE
    rw [List.mem_cons, List.mem_cons, List.mem_filter, firstsE_mem, decide_eq_true_eq]
    constructor
    · rintro (h | h)
      · exact .inl h
      · exact .inr h.1
    · rintro (h | h)
      · exact .inl h
      · by_cases e : x = y
        · exact .inl e
        · exact .inr ⟨h, e⟩
theorem firstsE_nodup {α : Type} [DecidableEq α] : ∀ l : List α, (firstsE l).Nodup
  | [] => List.nodup_nil
  | y :: r => by
    unfold firstsE
    refine List.nodup_cons.mpr ⟨fun h => ?_, (firstsE_nodup r).filter _⟩
    have := (List.mem_filter.mp h).2
    simp at this
theorem firstsE_perm {α : Type} [DecidableEq α] {l m : List α} (hn : m.Nodup) (hm : ∀ x, x ∈ m ↔ x ∈ l) : m.Perm (firstsE l) := (List.perm_ext_iff_of_nodup hn (firstsE_nodup l)).mpr fun x => by rw [hm, firstsE_mem]
theorem keysN_filter : ∀ {xs : List D} {ks : List NestedKey} {x : D} {k : NestedKey}, keyN x = some k → keysN xs = some ks → keysN (xs.filter fun y => !PyData.eqv x y) = some (ks.filter fun j => decide (j ≠ k))
  | [], _, _, _, _, h => by cases h; rfl
  | d :: xs, ks, x, k, hx, h => by
    simp only [keysN] at h
    obtain ⟨j, k1, h⟩ := Option.bind_eq_some_iff.mp h
    obtain ⟨js, k2, rfl⟩ := Option.map_eq_some_iff.mp h
    have ih := keysN_filter hx k2
    have e := eqv_key hx k1
    by_cases c : k = j
    · rw [List.filter_cons_of_neg (by simp [e, c]), List.filter_cons_of_neg (by simp [c])]
      exact ih
    · rw [List.filter_cons_of_pos (by simp [e, c]), List.filter_cons_of_pos (by simpa using fun z => c z.symm), keysN, k1, ih]
      rfl
theorem firsts_keys : ∀ {xs : List D} {ks : List NestedKey}, keysN xs = some ks → keysN (firsts xs) = some (firstsE ks)
  | [], _, h => by cases h; rfl
  | d :: xs, ks, h => by
    simp only [keysN] at h
    obtain ⟨j, k1, h⟩ := Option.bind_eq_some_iff.mp h
    obtain ⟨js, k2, rfl⟩ := Option.map_eq_some_iff.mp h
    unfold firsts firstsE
    rw [keysN, k1, keysN_filter k1 (firsts_keys k2)]
    rfl
theorem firsts_ints : ∀ ns : List Int, firsts (ns.map PyData.int) = (firstsE ns).map PyData.int
  | [] => rfl
  | n :: r => by
    rw [List.map_cons, firsts, firstsE, firsts_ints r, List.map_cons, List.filter_map]
    congr 2
    refine List.filter_congr fun m _ => ?_
    simp only [Function.comp, PyData.eqv]
    by_cases c : n = m
    · simp [c]
    · have c2 : ¬ m = n := fun z => c z.symm
      rw [decide_eq_true (show m ≠ n from c2), show (n == m) = false from beq_eq_false_iff_ne.mpr c]
      rfl
theorem intsOf_map : ∀ {xs : List D} {ns : List Int}, intsOf xs = some ns → xs = ns.map .int
  | [], _, h => by cases h; rfl
  | d :: xs, ns, h => by
    cases d with
    | int i =>
      obtain ⟨r, e, rfl⟩ := Option.map_eq_some_iff.mp (show (intsOf xs).map (i :: ·) = some ns from h)
      rw [intsOf_map e]; rfl
    | _ => cases h
theorem tupsOf_map : ∀ {xs : List D} {as : List (List Int)}, tupsOf xs = some as → xs = as.map rowD
  | [], _, h => by cases h; rfl
  | d :: xs, as, h => by
    cases d with
    | tuple ds =>
      obtain ⟨a, e1, h⟩ := Option.bind_eq_some_iff.mp (show ((intsOf ds).bind fun a => (tupsOf xs).map (a :: ·)) = some as from h)
      obtain ⟨r, e2, rfl⟩ := Option.map_eq_some_iff.mp h
      rw [tupsOf_map e2, intsOf_map e1]; rfl
    | _ => cases h
theorem allInt_map : ∀ {xs : List D}, xs.all intB = true → ∃ ns : List Int, xs = ns.map .int
  | [], _ => ⟨[], rfl⟩
  | d :: xs, h => by
    rw [List.all_cons, Bool.and_eq_true] at h
    obtain ⟨ns, rfl⟩ := allInt_map h.2
    cases d with
    | int i => exact ⟨i :: ns, rfl⟩
    | _ => cases h.1
section
variable {pins : List (Addr × Obj)} {σ : L2.St} {H : Hp} {s : Shared} {S : Addr → Prop}
theorem refs_of_valsK : ∀ {ks : List Mem} {us : List Value}, Vals (ks.map fun p => V.ref p.1) us → us = ks.map fun p => Value.ref p.1
  | [], _, .nil => rfl
  | p :: ks, _, .cons r t => by
    cases r
    rw [refs_of_valsK t]
    rfl
/-- the sequence itself -/
theorem seq_is (I : Inv X pins σ H s) {v : V} {u : Value} {d : D} {xs : List D} (r : Rep (kt X) S H v d) (rv : RelV v u) (e : seqD d = some xs) : ∃ (l : Addr) (vs : List V) (its : List Value), u = .ref l ∧ SeqIs s.heap l its.toArray ∧ Vals vs its ∧ RepL (kt X) S H vs xs := by
  cases d with
  | list zs =>
    cases e
    obtain ⟨l, ys, rfl, n, ha, z, rr⟩ := r.list_of
    cases rv
    obtain ⟨its, rv, pl, hz⟩ := I.list (.inl ha)
    exact ⟨l, ys, its, rfl, .lst pl.isList, rv, rr⟩
  | tuple zs =>
    cases e
    obtain ⟨l, ys, rfl, ha, z, rr⟩ := r.tuple_of
    cases rv
    obtain ⟨its, rv, pl, hz⟩ := I.tuple ha
    exact ⟨l, ys, its, rfl, .tup pl, rv, rr⟩
  | _ => cases e
theorem mems_of (I : Inv X pins σ H s) : ∀ {xs : List D} {vs : List V}, RepL (kt X) S H vs xs → xs.all tupK = true → ∃ ks : List Mem, vs = (ks.map fun p => V.ref p.1) ∧ keysN xs = some (ks.map (·.2)) ∧ ∀ p ∈ ks, IsK X.prog X.w s.heap p.2 p.1
  | [], _, r, _ => by cases r; exact ⟨[], rfl, rfl, fun _ h => nomatch h⟩
  | d :: xs, _, r, h => by
    rw [List.all_cons, Bool.and_eq_true] at h
    cases r with
    | cons r1 r2 =>
      obtain ⟨ks, rfl, e2, e3⟩ := mems_of I r2 h.2
      obtain ⟨ds, k, rfl, hk, hd⟩ := tupK_of h.1
      have r1' := r1
      obtain ⟨a, ys, rfl, _, _, _⟩ := r1.tuple_of
      refine ⟨(a, k) :: ks, rfl, by rw [keysN, hk, e2]; rfl, fun p hp => ?_⟩
      rcases List.mem_cons.mp hp with rfl | hp
      · exact ⟨Rep.key I (u := .ref a) r1' hk rfl, hd⟩
      · exact e3 p hp
theorem ints_val : ∀ {ns : List Int} {vs : List V}, RepL (kt X) S H vs (ns.map .int) → vs = ns.map .int
  | [], _, r => by cases r; rfl
  | n :: ns, _, r => by
    cases r with
    | cons r1 r2 => rw [r1.int_of, ints_val r2]; rfl
/-- set(xs) of tuples -/
theorem set_T (hc : X.calm = true) (hu : X.A.units + 20 < cLine) (I : Inv X pins σ H s) {v : V} {u : Value} {d : D} {xs : List D} (r : Rep (kt X) S H v d) (rv : RelV v u) (e : seqD d = some xs) (hk : xs.all tupK = true) (hn : xs.length ≤ 305) {Q : Value → Shared → Prop} {E : Value → Shared → Prop}
    (q : ∀ (S0 : Addr) (ks L : List Mem) es ep t h' tk, SetN X.prog X.w h' S0 L es ep t → (∀ p ∈ L, p ∈ ks) → (∀ p ∈ ks, p.2 ∈ L.map (·.2)) → keysN xs = some (ks.map (·.2)) → RepL (kt X) S H (ks.map fun p => V.ref p.1) xs →
      (∀ b o, s.heap.get? b = some o → h'.get? b = some o) → Q (.ref S0) { s with heap := h', toks := tk }) : wpAny (model X.prog X.w) X.A (call (.type "set") [u]) Q E s := by
  obtain ⟨l, vs, its, rfl, hs, va, rr⟩ := seq_is I r rv e
  obtain ⟨ks, rfl, k1, k2⟩ := mems_of I rr hk
  have ei : its = ks.map fun p => Value.ref p.1 := refs_of_valsK va
  have hl : ks.length ≤ 305 := by
    have := keysN_length k1
    rw [List.length_map] at this
    omega
  refine make_set (Sv := HoldsT X.prog X.w ks) (I.ok.hd hc) hs (fun A' hA => by rw [List.toList_toArray, ei]; exact grows_T k2 hl (by omega)) fun h' tk ⟨L, es, ep, t, R, g1, g2, g3⟩ kp => ?_
  have sz : its.toArray.size = ks.length := by rw [ei]; simp
  rw [sz, List.take_length] at g1 g2
  exact q _ ks L es ep t h' tk R g1 g2 k1 rr kp
/-- set(xs) of ints -/
theorem set_I (hc : X.calm = true) (I : Inv X pins σ H s) {v : V} {u : Value} {d : D} {ns : List Int} (r : Rep (kt X) S H v d) (rv : RelV v u) (e : seqD d = some (ns.map .int)) (hn : ns.length ≤ 4000) {Q : Value → Shared → Prop} {E : Value → Shared → Prop}
    (q : ∀ (S0 : Addr) c h' tk, SetR X.w h' S0 (fun j => decide (j ∈ ns)) c → c ≤ ns.length → (∀ b o, s.heap.get? b = some o → h'.get? b = some o) → Q (.ref S0) { s with heap := h', toks := tk }) : wpAny (model X.prog X.w) X.A (call (.type "set") [u]) Q E s := by
  obtain ⟨l, vs, its, rfl, hs, va, rr⟩ := seq_is I r rv e
  obtain rfl := ints_val rr
  have ia := intsAre_of va
  refine make_set (Sv := HoldsI X.w ns) (I.ok.hd hc) hs (fun A' hA => by rw [List.toList_toArray]; exact grows_I ia (by unfold scanBound; omega)) fun h' tk ⟨c, h1, R⟩ kp => ?_
  have sz : its.toArray.size = ns.length := by rw [List.size_toArray, ia.length]
  rw [sz] at h1 R
  rw [List.take_length] at R
  exact q _ c h' tk R h1 kp
end
end
end PI
end
section
/-! Sets that are only counted or sorted; dicts written. -/
namespace PI
open PySem PySem.Spec PyProof.Rows L2 PySem.W
section
variable {X : Cx} {XC : Nat → Value → Prop} {W : WX} {a b c : Expr} {f g k : En → R D} {pos : Pos}
theorem s_setLen {p p2 q : Pos} (b1 : BltOk X "len") (b2 : BltOk X "set") (hc : X.calm = true) (hu : X.A.units + 20 < cLine) (hs : ∀ e' p, a ≠ .Starred e' p) (hs2 : ∀ e' p, (Expr.Call (.Name "set" p2) [a] [] q) ≠ .Starred e' p) (ha : PE X a (rd (kt X) XC W f)) :
    PE X (.Call (.Name "len" p) [.Call (.Name "set" p2) [a] [] q] [] pos) (rd (kt X) XC W fun env => R.bind (f env) fun x => lift (biD .setLen [x])) := by
  have na := star_of hs [] X.env
  have na2 := star_of hs2 [] X.env
  refine ⟨fun pins s σ H Q I ⟨S0, B, env, er, pp⟩ => ?_⟩
  refine Call_ (ld_blt I b1.g b1.m boot_len ?_)
  refine PyProof.Rows.callWith_builtin1 (PyProof.Rows.args_cons ?_ na2) na2 rfl
  refine Call_ (ld_blt I b2.g b2.m boot_set ?_)
  refine PyProof.Rows.callWith_type1 (PyProof.Rows.args_cons (thn (ha.run pins s σ H (fun v H1 => ∃ x xs, Rep (kt X) (OS S0 env σ) H1 v x ∧ seqD x = some xs ∧ setOk xs = true ∧ Q (.int (firsts xs).length) H1) I ⟨S0, B, env, er, pp.bind.imp fun x H1 s1 p1 v rv => ?_⟩) fun v s1 ⟨y, H1, I1, r1, x, xs, rx, ex, ok, q1⟩ => PyProof.Rows.args_nil ?_) na) na rfl
  · obtain ⟨d, e, q⟩ := p1.lift
    obtain ⟨xs, e1, e2⟩ := Option.bind_eq_some_iff.mp (show (seqD x).bind (fun xs => gd (setOk xs) (PyData.int (firsts xs).length)) = some d from e)
    obtain ⟨g, rfl⟩ := gd_some e2
    exact ⟨x, xs, rv, e1, g, q H1 (Same.refl _) _ (.int _)⟩
  · obtain ⟨o1, o2⟩ := Bool.and_eq_true_iff.mp ok
    have o1 := of_decide_eq_true o1
    rcases Bool.or_eq_true_iff.mp o2 with o2 | o2
    · obtain ⟨ns, rfl⟩ := allInt_map o2
      rw [List.length_map] at o1
      refine set_I hc I1 rx r1 ex (by omega) fun S c h' tk R hcn kp => ?_
      refine PyProof.Rows.args_nil ?_
      have I2 : Inv X pins σ H1 { s1 with heap := h', toks := tk } := I1.kept kp
      obtain ⟨o, es, ep, t, ho, hex, hd, g, nd, hm, hb, hf, hn, _⟩ := R
      have pm : (es.toList.map keyOf).Perm (firstsE ns) := firstsE_perm nd fun z => by rw [← hm z]; simp
      have ln : es.size = (firsts (ns.map PyData.int)).length := by
        have := pm.length_eq
        rw [List.length_map, Array.length_toList] at this
        rw [firsts_ints, List.length_map, this]
      exact call_len_set ho hex hd hf (by unfold scanBound at hb; omega) ⟨.int _, H1, I2.tok _, ⟨_, by rw [ln]⟩, q1⟩
    · refine set_T hc hu I1 rx r1 ex o2 o1 fun S ks L es ep t h' tk R g1 g2 k1 rr kp => ?_
      refine PyProof.Rows.args_nil ?_
      have I2 : Inv X pins σ H1 { s1 with heap := h', toks := tk } := I1.kept kp
      obtain ⟨o, ho, hex, hd⟩ := R.ob
      have pm : (L.map (·.2)).Perm (firstsE (ks.map (·.2))) := firstsE_perm R.nd fun z => by
        constructor
        · intro h
          obtain ⟨p, hp, rfl⟩ := List.mem_map.mp h
          exact List.mem_map.mpr ⟨p, g1 p hp, rfl⟩
        · intro h
          obtain ⟨p, hp, rfl⟩ := List.mem_map.mp h
          exact g2 p hp
      have ln : es.size = (firsts xs).length := by
        have h1 := pm.length_eq
        have h2 := keysN_length (firsts_keys k1)
        rw [List.length_map] at h1
        rw [SetN.sz (s := { s1 with heap := h', toks := tk }) R, h2, h1]
      exact call_len_set ho hex hd (SetN.fits (s := { s1 with heap := h', toks := tk }) R) (by rw [SetN.sz (s := { s1 with heap := h', toks := tk }) R]; have := R.fw; omega) ⟨.int _, H1, I2.tok _, ⟨_, by rw [ln]⟩, q1⟩
/-! sorted -/
theorem keyN_row (a : List Int) : keyN (rowD a) = some (.tup (a.map .num)) := by
  have : keysN (a.map PyData.int) = some (a.map NestedKey.num) := by
    induction a with
    | nil => rfl
    | cons i r ih => rw [List.map_cons, keysN, ih]; rfl
  show (keysN (a.map PyData.int)).map NestedKey.tup = _
  rw [this]; rfl
theorem depth_nums : ∀ a : List Int, NestedKey.depthAll (a.map NestedKey.num) = 0
  | [] => rfl
  | _ :: a => by rw [List.map_cons, NestedKey.depthAll, depth_nums a]; rfl
theorem nums_nums : ∀ a : List Int, numsAll (a.map NestedKey.num) = true
  | [] => rfl
  | _ :: a => by rw [List.map_cons, numsAll, nums_nums a]; rfl
theorem tupK_row (a : List Int) : tupK (rowD a) = true := by
  unfold tupK rowD
  simp only
  have := keyN_row a
  unfold rowD at this
  rw [this]
  show decide (NestedKey.depth _ ≤ 8) = true
  rw [NestedKey.depth, depth_nums]
  rfl
theorem num_inj : ∀ {a b : List Int}, a.map NestedKey.num = b.map NestedKey.num → a = b
  | [], [], _ => rfl
  | [], _ :: _, h => by cases h
  | _ :: _, [], h => by cases h
  | x :: a, y :: b, h => by
    rw [List.map_cons, List.map_cons] at h
    injection h with h1 h2
    injection h1 with h1
    rw [h1, num_inj h2]
theorem perm_lift {α β : Type} {f : α → β} : ∀ {l m : List β}, l.Perm m → ∀ {xs : List α}, m = xs.map f → ∃ ys : List α, ys.Perm xs ∧ l = ys.map f := by
  intro l m h
  induction h with
  | nil => intro xs e; cases xs with | nil => exact ⟨[], .nil, rfl⟩ | cons _ _ => cases e
  | cons x _ ih =>
    intro xs e
    cases xs with
    | nil => cases e
    | cons y ys =>
      rw [List.map_cons] at e
      injection e with e1 e2
      obtain ⟨zs, p, rfl⟩ := ih e2
      exact ⟨y :: zs, p.cons y, by rw [List.map_cons, e1]⟩
  | swap x y l =>
    intro xs e
    cases xs with
    | nil => cases e
    | cons u xs =>
      cases xs with
      | nil => cases e
      | cons v xs =>
        rw [List.map_cons, List.map_cons] at e
        injection e with e1 e2
        injection e2 with e2 e3
        exact ⟨v :: u :: xs, .swap u v xs, by rw [List.map_cons, List.map_cons, e1, e2, e3]⟩
  | trans _ _ ih1 ih2 =>
    intro xs e
    obtain ⟨ys, p, rfl⟩ := ih2 e
    obtain ⟨zs, q, rfl⟩ := ih1 rfl
    exact ⟨zs, q.trans p, rfl⟩
theorem le_rows (a b : List Int) : _root_.PySem.W.dataLe false id (rowD a) (rowD b) = decide (a ≤ b) := by
  rw [dataLe_eq]
  show (!dataLt (.tuple (b.map .int)) (.tuple (a.map .int))) = _
  rw [dataLt_tuple]
  have := dataLt_ints b a
  unfold rowLt at this
  rw [this]
  by_cases h : a ≤ b
  · rw [decide_eq_true h, decide_eq_false (List.not_lt.mpr h)]; rfl
  · rw [decide_eq_false h, decide_eq_true (List.not_le.mp h)]; rfl
theorem sortR_of {as bs : List (List Int)} (h : bs.Perm (firstsE as)) : (bs.map rowD).mergeSort (_root_.PySem.W.dataLe false id) = (sortR as).map rowD := by
  rw [← sort_maps (r := fun a b => decide (a ≤ b)) rowD fun a _ b _ => (le_rows a b).symm]
  congr 1
  have tr : ∀ a b c : List Int, decide (a ≤ b) = true → decide (b ≤ c) = true → decide (a ≤ c) = true := fun a b c h1 h2 => decide_eq_true (List.le_trans (of_decide_eq_true h1) (of_decide_eq_true h2))
  have to : ∀ a b : List Int, (decide (a ≤ b) || decide (b ≤ a)) = true := fun a b => by
    rcases List.le_total a b with h | h
    · rw [decide_eq_true h]; rfl
    · rw [decide_eq_true h]; simp
  refine List.Perm.eq_of_pairwise (le := fun a b => decide (a ≤ b) = true) (fun a b _ _ h1 h2 => List.le_antisymm (of_decide_eq_true h1) (of_decide_eq_true h2)) (List.pairwise_mergeSort tr to _) (List.pairwise_mergeSort tr to _) ?_
  exact (List.mergeSort_perm _ _).trans (h.trans (List.mergeSort_perm _ _).symm)
theorem sortU_of {ns ms : List Int} (h : ms.Pairwise (· < ·)) (hm : ∀ k, k ∈ ms ↔ k ∈ ns) : ms = sortU ns := by
  have nd : ms.Nodup := h.imp fun h => Int.ne_of_lt h
  have tr : ∀ a b c : Int, decide (a ≤ b) = true → decide (b ≤ c) = true → decide (a ≤ c) = true := fun a b c h1 h2 => decide_eq_true (Int.le_trans (of_decide_eq_true h1) (of_decide_eq_true h2))
  have to : ∀ a b : Int, (decide (a ≤ b) || decide (b ≤ a)) = true := fun a b => by
    rcases Int.le_total a b with h | h
    · rw [decide_eq_true h]; rfl
    · rw [decide_eq_true h]; simp
  refine List.Perm.eq_of_pairwise (le := fun a b => decide (a ≤ b) = true) (fun a b _ _ h1 h2 => Int.le_antisymm (of_decide_eq_true h1) (of_decide_eq_true h2)) (h.imp fun h => decide_eq_true (Int.le_of_lt h)) (List.pairwise_mergeSort tr to _) ?_
  exact (firstsE_perm nd hm).trans (List.mergeSort_perm _ _).symm
theorem ints_rp (C : Kt) (S : Addr → Prop) (H : Hp) : ∀ ns : List Int, RepL C S H (ns.map V.int) (ns.map PyData.int)
  | [] => .nil
  | _ :: ns => .cons (.int _) (ints_rp C S H ns)
theorem keysN_rows : ∀ as : List (List Int), keysN (as.map rowD) = some (as.map fun z => NestedKey.tup (z.map .num))
  | [] => rfl
  | a :: as => by rw [List.map_cons, keysN, keyN_row, keysN_rows as]; rfl
theorem rows_of {C : Kt} {S : Addr → Prop} {H : Hp} : ∀ {as : List (List Int)} {ks : List Mem}, keysN (as.map rowD) = some (ks.map (·.2)) → RepL C S H (ks.map fun p => V.ref p.1) (as.map rowD) → ∀ p ∈ ks, ∃ z ∈ as, p.2 = .tup (z.map .num) ∧ Rep C S H (.ref p.1) (rowD z)
  | [], ks, e, r, p, hp => by cases ks with | nil => cases hp | cons _ _ => cases r
  | a :: as, [], e, r, p, hp => by cases hp
  | a :: as, q :: ks, e, r, p, hp => by
    rw [keysN_rows] at e
    have e := Option.some.inj e
    rw [List.map_cons, List.map_cons] at e
    injection e with e1 e2
    cases r with
    | cons r1 r2 =>
      rcases List.mem_cons.mp hp with rfl | hp
      · exact ⟨a, List.mem_cons_self, e1.symm, r1⟩
      · obtain ⟨z, h1, h2⟩ := rows_of (by rw [keysN_rows, e2]) r2 p hp
        exact ⟨z, List.mem_cons_of_mem _ h1, h2⟩
theorem valsK : ∀ M : List Mem, Vals (M.map fun p => V.ref p.1) (M.map fun p => Value.ref p.1)
  | [] => .nil
  | _ :: M => .cons rfl (valsK M)
theorem perm_rep {C : Kt} {S : Addr → Prop} {H : Hp} {M L : List Mem} (h : M.Perm L) : ∀ {rs : List (List Int)}, RepL C S H (L.map fun p => V.ref p.1) (rs.map rowD) → ∃ zs : List (List Int), zs.Perm rs ∧ RepL C S H (M.map fun p => V.ref p.1) (zs.map rowD) := by
  induction h with
  | nil => intro rs r; exact ⟨rs, .refl _, r⟩
  | cons x _ ih =>
    intro rs r
    cases rs with
    | nil => cases r
    | cons a rs =>
      cases r with
      | cons r1 r2 =>
        obtain ⟨zs, p, q⟩ := ih r2
        exact ⟨a :: zs, p.cons a, .cons r1 q⟩
  | swap x y l =>
    intro rs r
    cases rs with
    | nil => cases r
    | cons a rs =>
      cases rs with
      | nil => cases r with | cons _ r2 => cases r2
      | cons b rs =>
        cases r with
        | cons r1 r2 =>
          cases r2 with
          | cons r2 r3 => exact ⟨b :: a :: rs, .swap a b rs, .cons r2 (.cons r1 r3)⟩
  | trans _ _ ih1 ih2 =>
    intro rs r
    obtain ⟨zs, p, q⟩ := ih2 r
    obtain ⟨ys, p2, q2⟩ := ih1 q
    exact ⟨ys, p2.trans p, q2⟩
theorem s_sortedSet {p p2 q : Pos} (b1 : BltOk X "sorted") (b2 : BltOk X "set") (hc : X.calm = true) (hu : X.A.units + 80 < cLine) (hs : ∀ e' p, a ≠ .Starred e' p) (hs2 : ∀ e' p, (Expr.Call (.Name "set" p2) [a] [] q) ≠ .Starred e' p) (ha : PE X a (rd (kt X) XC W f)) :
    PE X (.Call (.Name "sorted" p) [.Call (.Name "set" p2) [a] [] q] [] pos) (rd (kt X) XC W fun env => R.bind (f env) fun x => lift (biD .sortedSet [x])) := by
  have na := star_of hs [] X.env
  have na2 := star_of hs2 [] X.env
  refine ⟨fun pins s σ H Q I ⟨S0, B, env, er, pp⟩ => ?_⟩
  refine Call_ (ld_blt I b1.g b1.m boot_sorted ?_)
  refine PyProof.Rows.callWith_builtin1 (PyProof.Rows.args_cons ?_ na2) na2 rfl
  refine Call_ (ld_blt I b2.g b2.m boot_set ?_)
  refine PyProof.Rows.callWith_type1 (PyProof.Rows.args_cons (thn (ha.run pins s σ H (fun v H1 => ∃ x xs d, Trk (OS S0 env σ) H1 ∧ Rep (kt X) (OS S0 env σ) H1 v x ∧ seqD x = some xs ∧ sortedSetD xs = some d ∧ PostV (kt X) (OS S0 env σ) H1 Q d) I ⟨S0, B, env, er, pp.bind.imp fun x H1 s1 p1 v rv => ?_⟩) fun v s1 ⟨y, H1, I1, r1, x, xs, d, tr, rx, ex, ed, q1⟩ => PyProof.Rows.args_nil ?_) na) na rfl
  · obtain ⟨d, e, q⟩ := p1.lift
    obtain ⟨xs, e1, e2⟩ := Option.bind_eq_some_iff.mp (show (seqD x).bind sortedSetD = some d from e)
    exact ⟨x, xs, d, (er.same s1).trk, rv, e1, e2, fun v H' s r => q H' s v r⟩
  · have fin : ∀ (s' s2 : Shared) (pl : Addr) (vs : List V) (out : List Value) (c : Nat), Inv X pins σ H1 s2 → (∀ b o, s2.heap.get? b = some o → s'.heap.get? b = some o) → s'.gens = s2.gens → s'.os = s2.os → s2.heap.objs.size ≤ pl →
        s'.heap.get? pl = some (seqObj "list" out.toArray c) → Vals vs out → vs.length ≤ sizeLine → Q (.ref pl) (upd H1 pl (.lst vs)) → EP X pins σ Q (.ref pl) s' := fun s' s2 pl vs out c I2 k g o hp hg va hz q => by
      have hn := I2.hok.fresh hp
      have J : Inv X pins σ (upd H1 pl (.lst vs)) { s2 with heap := s'.heap, gens := s'.gens, drawn := s'.drawn, toks := s'.toks } :=
        I2.call (ch := []) (Un.laid k hp hn) (I2.hok.laid k hp ⟨hz, out, c, va, hg⟩) (by rw [g]; exact I2.bare) (fun _ z => nomatch z)
      have e : s' = { s2 with heap := s'.heap, gens := s'.gens, drawn := s'.drawn, toks := s'.toks } := by
        cases s'
        cases s2
        cases o
        rfl
      rw [e]
      exact ⟨.ref pl, _, J, rfl, q⟩
    unfold sortedSetD at ed
    cases hi : intsOf xs with
    | some ns =>
      rw [hi] at ed
      obtain ⟨g, rfl⟩ := gd_some ed
      have g := of_decide_eq_true g
      obtain rfl := intsOf_map hi
      refine set_I hc I1 rx r1 ex (by omega) fun S c h' tk R hcn kp => ?_
      refine PyProof.Rows.args_nil ?_
      have I2 : Inv X pins σ H1 { s1 with heap := h', toks := tk } := I1.kept kp
      refine sorted_set R (I1.ok.hd hc) (by omega) fun s' pl out cc ms k g1 o1 hp hg ia pw hm hl => ?_
      have em : ms = sortU ns := sortU_of pw fun z => by rw [hm z]; simp
      have va := vals_of_ints ia
      have hz : (ms.map V.int).length ≤ sizeLine := by rw [List.length_map, hl, sizeLine_eq]; omega
      refine fin s' _ pl (ms.map V.int) out.toList cc I2 k g1 o1 hp (by simpa using hg) va hz (q1.newL tr (I2.hok.fresh hp) hz ?_)
      rw [em]
      exact ints_rp _ _ _ _
    | none =>
      rw [hi] at ed
      cases ht : tupsOf xs with
      | none => rw [ht] at ed; cases ed
      | some as =>
        rw [ht] at ed
        obtain ⟨g, rfl⟩ := gd_some ed
        obtain ⟨g1, g2⟩ := Bool.and_eq_true_iff.mp g
        have g1 := of_decide_eq_true g1
        obtain rfl := tupsOf_map ht
        obtain ⟨s1', s2', s3'⟩ := sortOk_of g2
        refine set_T hc (by omega) I1 rx r1 ex (by rw [List.all_map, List.all_eq_true]; exact fun z _ => tupK_row z) (by rw [List.length_map]; exact g1) fun S ks L es ep t h' tk R h1 h2 k1 rr kp => ?_
        refine PyProof.Rows.args_nil ?_
        have I2 : Inv X pins σ H1 { s1 with heap := h', toks := tk } := I1.kept kp
        -- each member's row
        have each : ∀ p ∈ ks, ∃ z ∈ as, p.2 = .tup (z.map .num) ∧ Rep (kt X) (OS S0 env σ) H1 (.ref p.1) (rowD z) := rows_of k1 rr
        have key : ∃ rs : List (List Int), L.map (·.2) = rs.map (fun z => NestedKey.tup (z.map .num)) ∧ RepL (kt X) (OS S0 env σ) H1 (L.map fun p => V.ref p.1) (rs.map rowD) ∧ ∀ z ∈ rs, z ∈ as := by
          have go : ∀ M : List Mem, (∀ p ∈ M, p ∈ ks) → ∃ rs : List (List Int), M.map (·.2) = rs.map (fun z => NestedKey.tup (z.map .num)) ∧ RepL (kt X) (OS S0 env σ) H1 (M.map fun p => V.ref p.1) (rs.map rowD) ∧ ∀ z ∈ rs, z ∈ as := by
            intro M
            induction M with
            | nil => exact fun _ => ⟨[], rfl, .nil, fun _ h => nomatch h⟩
            | cons p M ih =>
              intro hM
              obtain ⟨rs, q1, q2, q3⟩ := ih fun p hp => hM p (List.mem_cons_of_mem _ hp)
              obtain ⟨z, z1, z2, z3⟩ := each p (hM p List.mem_cons_self)
              refine ⟨z :: rs, by rw [List.map_cons, List.map_cons, q1, z2], .cons z3 q2, fun y hy => ?_⟩
              rcases List.mem_cons.mp hy with rfl | hy
              · exact z1
              · exact q3 y hy
          exact go L h1
        obtain ⟨rs, m1, m2, m3⟩ := key
        have hnum : ∀ p ∈ L, numsB p.2 = true := fun p hp => by
          obtain ⟨z, _, z2, _⟩ := each p (h1 p hp)
          rw [z2]; exact nums_nums z
        have ndr : rs.Nodup := by
          have := R.nd
          rw [m1] at this
          exact List.Pairwise.of_map _ (fun _ _ hne e => hne (by rw [e])) this
        have pmr : rs.Perm (firstsE as) := firstsE_perm ndr fun z => ⟨m3 z, fun hz => by
          have hk : (NestedKey.tup (z.map .num)) ∈ ks.map (·.2) := by
            have e := keysN_rows as
            rw [e] at k1
            rw [← Option.some.inj k1]
            exact List.mem_map.mpr ⟨z, hz, rfl⟩
          obtain ⟨p, hp, e⟩ := List.mem_map.mp hk
          have := h2 p hp
          rw [e, m1] at this
          obtain ⟨y, hy, e2⟩ := List.mem_map.mp this
          injection e2 with e2
          rw [← num_inj e2]; exact hy⟩
        refine sorted_gath (T := fun ds => ∃ zs : List (List Int), zs.Perm rs ∧ ds = zs.map rowD) (R := fun u d => ∃ x, RelV x u ∧ Rep (kt X) (OS S0 env σ) H1 x d) (gather_T R hnum (I1.ok.hd hc)) (fun out ho => ?_) fun s' pl out cc ds k g1 o1 hp hg ⟨zs, pz, edz⟩ lo eo => ?_
        · obtain ⟨M, pM, rfl⟩ := perm_lift ho rfl
          obtain ⟨zs, pz, rz⟩ := perm_rep pM m2
          have va : Vals (M.map fun p => V.ref p.1) (M.map fun p => Value.ref p.1) := valsK M
          have sub : ∀ d ∈ zs.map rowD, d ∈ as.map rowD := fun d hd => by
            obtain ⟨z, hz, rfl⟩ := List.mem_map.mp hd
            exact List.mem_map.mpr ⟨z, m3 z (pz.mem_iff.mp hz), rfl⟩
          have shp : ∀ d ∈ zs.map rowD, SeqAt.shaped d = true := fun d hd => s3' d (sub d hd)
          obtain ⟨as', rs'⟩ := Dp.readsAll I2 (zs.map rowD) _ _ (rz.dp (canLayAll_of fun d hd => SeqAt.canLay_of_shaped (shp d hd))) va
          refine ⟨zs.map rowD, as', ⟨zs, pz, rfl⟩, ?_, each_of_rep I2 rz va, rs', ?_, ?_, canLayAll_of fun d hd => SeqAt.canLay_of_shaped (shp d hd), fun d hd => ?_⟩
          · have := R.fw
            rw [List.length_map, pM.length_eq, sizeLine_eq]; omega
          · intro d hd e he
            exact s1' d (sub d hd) e (sub e he)
          · rcases s2' with z | z
            · exact .inl fun d hd => z d (sub d hd)
            · exact .inr fun d hd => z d (sub d hd)
          · have := SeqAt.depth_of_shaped (shp d hd)
            omega
        · subst edz
          rw [sortR_of (pz.trans pmr)] at eo
          obtain ⟨vs, v1, v2⟩ := rep_of_each eo
          have hz : vs.length ≤ sizeLine := by
            have e1 := pmr.length_eq
            have e2 : (L.map (·.2)).length = rs.length := by rw [m1, List.length_map]
            have := R.fw
            rw [List.length_map] at e2
            rw [v1.length, lo, List.length_map, pz.length_eq, sizeLine_eq]; omega
          exact fin s' _ pl vs out cc I2 k g1 o1 hp hg v1 hz (q1.newL tr (I2.hok.fresh hp) hz v2)
end
end PI
end
section
/-! Dicts written out. -/
namespace PI
open PySem PySem.Spec PyProof.Rows L2
def flat2 : List (V × V) → List V
  | [] => []
  | p :: r => p.1 :: p.2 :: flat2 r
theorem flat2_length : ∀ ps : List (V × V), (flat2 ps).length = 2 * ps.length
  | [] => rfl
  | p :: r => by simp only [flat2, List.length_cons, flat2_length r]; omega
def rdP (C : Kt) (XC : Nat → Value → Prop) (W : WX) (f : En → R (List D)) (σ : L2.St) (H : Hp) (Q : List (V × V) → Hp → Prop) : Prop := ∃ S0 B env, ER C S0 B σ H env ∧ Post XC W σ H (fun ds H' => ∀ ps, RepL C (OS S0 env σ) H' (flat2 ps) ds → Q ps H') (f env)
structure PPr (X : Cx) (pos : Pos) (keys : List (Option Expr)) (values : List Expr) (t : L2.St → Hp → (List (V × V) → Hp → Prop) → Prop) : Prop where
  run : ∀ (pins : List (Addr × Obj)) (s : Shared) (σ : L2.St) (H : Hp) (Q : List (V × V) → Hp → Prop), Inv X pins σ H s → t σ H Q → wpAny (model X.prog X.w) X.A (evalPairs (pairTrees keys values X.env pos)) (fun vs s' => ∃ ps H', Inv X pins σ H' s' ∧ VV ps vs ∧ Q ps H') X.xe s
section
variable {X : Cx} {XC : Nat → Value → Prop} {W : WX} {pos : Pos}
theorem ppr_nil : PPr X pos [] [] (rdP (kt X) XC W fun _ => .ok []) := ⟨fun pins s σ H Q I ⟨S0, B, env, er, p⟩ => pairTrees_nil_walk ⟨[], H, I, .nil, p.here [] .nil⟩⟩
theorem ppr_cons {k v : Expr} {ks : List (Option Expr)} {vs : List Expr} {f g : En → R D} {h : En → R (List D)} (hk : PE X k (rd (kt X) XC W f)) (hv : PE X v (rd (kt X) XC W g)) (hr : PPr X pos ks vs (rdP (kt X) XC W h)) :
    PPr X pos (some k :: ks) (v :: vs) (rdP (kt X) XC W fun env => R.bind (f env) fun x => R.bind (R.bind (g env) fun y => R.bind (h env) fun zs => .ok (y :: zs)) fun r => .ok (x :: r)) := ⟨fun pins s σ H Q I ⟨S0, B, env, er, p⟩ =>
  pairTrees_cons_walk (thn (hk.run pins s σ H (fun v H1 => rd (kt X) XC W g σ H1 fun w H2 => rdP (kt X) XC W h σ H2 fun ps H3 => Q ((v, w) :: ps) H3) I
    ⟨S0, B, env, er, p.bind.imp fun x H1 s1 p1 v rv => ⟨S0, B, env, er.same s1, p1.bind.bind.imp fun y H2 s2 p2 w rw' => ⟨S0, B, env, (er.same s1).same s2, p2.bind.imp fun zs H3 s3 p3 ps rps => p3.here.here ((v, w) :: ps) (.cons ((rv.same s2).same s3) (.cons (rw'.same s3) rps))⟩⟩⟩)
    fun u s1 ⟨x, H1, I1, rx, q1⟩ => thn (hv.run pins s1 σ H1 _ I1 q1) fun w2 s2 ⟨y, H2, I2, ry, q2⟩ => thn (hr.run pins s2 σ H2 _ I2 q2) fun ws s3 ⟨ps, H3, I3, rel, q3⟩ => ⟨(x, y) :: ps, H3, I3, .cons ⟨rx, ry⟩ rel, q3⟩)⟩
/-! keys that are ints and texts -/
theorem disp_K {C : Kt} {S : Addr → Prop} {H : Hp} : ∀ {n : Nat} {ds : List D} {ps : List (V × V)} {acc res : List (D × D)} {kv0 : List (Key × V)} {es0 : List D}, ps.length = n → dctP ds acc = some res → acc = (kv0.map fun p => keyOfD p.1).zip es0 → RepL C S H (kv0.map (·.2)) es0 → RepL C S H (flat2 ps) ds →
    ∃ (kvs : List (Key × V)) (es : List D), ps = kvs.map (fun kv => (kV kv.1, kv.2)) ∧ res = ((mergeK kv0 kvs).map fun p => keyOfD p.1).zip es ∧ RepL C S H ((mergeK kv0 kvs).map (·.2)) es
  | 0, ds, ps, acc, res, kv0, es0, hl, e, ea, r0, r => by
    cases ps with
    | cons _ _ => cases hl
    | nil => cases r; cases e; exact ⟨[], es0, rfl, ea, r0⟩
  | n + 1, ds, ps, acc, res, kv0, es0, hl, e, ea, r0, r => by
    cases ps with
    | nil => cases hl
    | cons p ps =>
      obtain ⟨v, w⟩ := p
      cases r with
      | @cons _ _ k ds1 r1 r =>
        cases r with
        | @cons _ _ d ds2 r2 r3 =>
          have e : (dictStore acc k d).bind (dctP ds2) = some res := e
          obtain ⟨acc2, e1, e2⟩ := Option.bind_eq_some_iff.mp e
          rw [ea, dictStore_K] at e1
          obtain ⟨ha, rfl⟩ := gd_some e1
          obtain ⟨key, rfl⟩ := atomK_of ha
          cases rep_keyOfD r1
          obtain ⟨es1, q1, q2⟩ := storeK (k := key) r0 r2
          obtain ⟨kvs, es, h1, h2, h3⟩ := disp_K (by simpa using hl) e2 q1 q2 r3
          exact ⟨(key, w) :: kvs, es, by rw [h1]; rfl, h2, h3⟩
theorem f_disp {keys : List (Option Expr)} {values : List Expr} {f : En → R (List D)} (h : PPr X pos keys values (rdP (kt X) XC W f)) (hn : ∀ env ds, f env = .ok ds → ds.length = 2 * keys.length) (hall : keys.all (·.isSome) = true) (hl : keys.length = values.length) (h0 : keys ≠ [])
    (h15 : keys.length ≤ 15) : PE X (.Dict keys values pos) (rdF0 (kt X) XC W fun env => R.bind (f env) fun ds => R.bind (lift (dctP ds [])) fun kvs => .ok (.dict kvs)) := by
  refine ⟨fun pins s σ H Q I ⟨S0, B, env, er, p⟩ => ?_⟩
  have hn0 := I.hok.fresh (Nat.le_refl s.heap.objs.size)
  have I1 := I.laid (a := s.heap.objs.size) (o := .dK []) (h' := s.heap.push { cls := .type "dict", data := .dict #[] }) (t' := s.toks) (fun _ _ q => Heap.get?_push_of_some _ q) (Nat.le_refl _) (dk_empty s.heap I.big)
  generalize hp0 : s.heap.objs.size = p0 at *
  have erb := er.block hn0 (Same.upd (o := HO.dK []) hn0) ⟨_, upd_same⟩
  have sub : ∀ a, OS (fun b => S0 b ∨ b = p0) env σ a ↔ (OS S0 env σ a ∨ a = p0) := fun a => by
    constructor
    · rintro ((h | h) | h)
      · exact .inl (.inl h)
      · exact .inr h
      · exact .inl (.inr h)
    · rintro ((h | h) | h)
      · exact .inl (.inl h)
      · exact .inr h
      · exact .inl (.inr h)
  have q : rdP (kt X) XC W f σ (upd H p0 (.dK [])) fun ps H2 => H2 p0 = some (.dK []) ∧ ∃ kvs : List (Key × V), ps = kvs.map (fun kv => (kV kv.1, kv.2)) ∧ kvs.length ≤ 15 ∧ Q (.ref p0) (upd H2 p0 (.dK (mergeK [] kvs))) := by
    refine ⟨_, B, env, erb, ?_⟩
    simp only [] at p
    cases hf : f env with
    | stuck => rw [hf] at p; exact p
    | exc c => rw [hf] at p; exact Post.same (r := (R.exc c : R (List D))) (K := fun ps H2 => True) (Same.upd hn0) p
    | ok ds =>
      rw [hf] at p
      cases hd : dctP ds [] with
      | none =>
        have p : Post XC W σ H _ (R.bind (lift (dctP ds [])) fun kvs => R.ok (PyData.dict kvs)) := p
        rw [hd] at p; exact p.elim
      | some kvs0 =>
        have p : Post XC W σ H (fun d H' => ∀ a, H a = none → OwnR (kt X) (fun b => OS S0 env σ b ∨ b = a) H' a d → Q (.ref a) H') (R.bind (lift (dctP ds [])) fun kvs => R.ok (PyData.dict kvs)) := p
        rw [hd] at p
        intro H2 s2 ps rps
        have e2 : H2 p0 = some (.dK []) := s2 _ _ upd_same
        obtain ⟨kvs, es, h1, h2, h3⟩ := disp_K (kv0 := []) (es0 := []) rfl hd rfl .nil rps
        have lk : kvs.length ≤ 15 := by
          have l1 := rps.length
          rw [flat2_length, hn env ds hf, h1, List.length_map] at l1
          omega
        refine ⟨e2, kvs, h1, lk, p _ (fun b o hb => ?_) p0 hn0 ?_⟩
        · have ne : b ≠ p0 := fun z => by rw [z, hn0] at hb; cases hb
          rw [upd_ne ne]
          exact s2 _ _ (by rw [upd_ne ne]; exact hb)
        · rw [h2]
          refine ⟨DictAt.k (.inl upd_same) ?_ (h3.keep (fun b o hb n => ?_) fun a h => (sub a).mpr h), .dK upd_same⟩
          · have := length_mergeK kvs []
            rw [List.length_nil] at this
            rw [sizeLine_eq]; omega
          · by_cases z : b = p0
            · subst z
              rw [e2] at hb
              cases hb
              exact absurd ⟨.inl (.inr rfl), .dK⟩ n
            · rw [upd_ne z]; exact hb
  refine wpAny_Dict_walk (knd := mixKind X.prog X.w) hall hl h0 h15 (thn (h.run pins _ σ _ _ I1 q) fun ws s2 ⟨ps, H2, I2, rel, e, kvs, ep, lk, q2⟩ => ?_)
  subst ep
  obtain ⟨rs, c, rk⟩ := carries_of (P := X.prog) (w := X.w) rel
  obtain ⟨z, hd, vs0, r0, dd⟩ := dk_of I2.hok e
  cases r0
  subst hp0
  refine ⟨rs, c, dd, fun h' dd' hs => ⟨.ref s.heap.objs.size, _, ?_, rfl, q2⟩⟩
  have hz : (mergeK [] kvs).length ≤ sizeLine := by
    have h1 := length_mergeK kvs []
    rw [List.length_nil] at h1
    rw [sizeLine_eq]; omega
  have he : ∃ q, h'.get? s.heap.objs.size = some q := let ⟨q, _, _, hq, _⟩ := dd'; ⟨q, hq⟩
  exact d_write I2 (by rw [e]; exact True.intro) hs he (dk_new hz hd (rk.merge .nil) dd')
/-! keys that are tuples -/
theorem disp_N {C : Kt} {S : Addr → Prop} {H : Hp} : ∀ {n : Nat} {ds : List D} {ps : List (V × V)} {res : List (D × D)} {kv0 : List (NestedKey × Addr × V)} {ks0 es0 : List D}, ps.length = n → dctP ds ((.none, .none) :: ks0.zip es0) = some res → keysN ks0 = some (kv0.map (·.1)) → RepL C S H (kv0.map fun p => V.ref p.2.1) ks0 → (∀ p ∈ kv0, p.1.depth ≤ 8) → RepL C S H (kv0.map (·.2.2)) es0 → RepL C S H (flat2 ps) ds →
    ∃ (kvs : List (NestedKey × Addr × V)) (ks es : List D), ps = kvs.map (fun p => (V.ref p.2.1, p.2.2)) ∧ (∀ p ∈ kvs, p.1.depth ≤ 8 ∧ ∃ x, keyN x = some p.1 ∧ Rep C S H (.ref p.2.1) x) ∧ res = (.none, .none) :: ks.zip es ∧ keysN ks = some ((mgN kv0 kvs).map (·.1)) ∧ RepL C S H ((mgN kv0 kvs).map fun p => V.ref p.2.1) ks ∧ (∀ p ∈ mgN kv0 kvs, p.1.depth ≤ 8) ∧ RepL C S H ((mgN kv0 kvs).map (·.2.2)) es
  | 0, ds, ps, res, kv0, ks0, es0, hl, e, h1, h2, h3, h4, r => by
    cases ps with
    | cons _ _ => cases hl
    | nil => cases r; cases e; exact ⟨[], ks0, es0, rfl, (fun _ h => nomatch h), rfl, h1, h2, h3, h4⟩
  | n + 1, ds, ps, res, kv0, ks0, es0, hl, e, h1, h2, h3, h4, r => by
    cases ps with
    | nil => cases hl
    | cons p ps =>
      obtain ⟨v, w⟩ := p
      cases r with
      | @cons _ _ k ds1 r1 r =>
        cases r with
        | @cons _ _ d ds2 r2 r3 =>
          have e : (gd (tupK k) ((.none, .none) :: storeD (ks0.zip es0) k d)).bind (dctP ds2) = some res := e
          obtain ⟨acc2, e1, e2⟩ := Option.bind_eq_some_iff.mp e
          obtain ⟨ha, rfl⟩ := gd_some e1
          obtain ⟨xs, key, rfl, hk, hd⟩ := tupK_of ha
          have r1' := r1
          obtain ⟨b, _, rfl, _, _, _⟩ := r1.tuple_of
          obtain ⟨ks', ds', q1, q2, q3, q4, q5⟩ := storeN h1 h2 h3 h4 hk hd r1' r2
          rw [q1] at e2
          obtain ⟨kvs, ks, es, g1, g2, g3⟩ := disp_N (by simpa using hl) e2 q2 q3 q4 q5 r3
          refine ⟨(key, b, w) :: kvs, ks, es, by rw [g1]; rfl, fun z hz => ?_, g3⟩
          rcases List.mem_cons.mp hz with rfl | hz
          · exact ⟨hd, _, hk, r1'⟩
          · exact g2 z hz
theorem carries_N {h : Heap} {P : Program} {w : World} : ∀ {kvs : List (NestedKey × Addr × V)} {ws : List (Value × Value)}, VV (kvs.map fun p => (V.ref p.2.1, p.2.2)) ws → (∀ p ∈ kvs, (nestedKind P w).is h p.1 p.2.1) → ∃ rs, CarriesH (nestedKind P w) h ws rs ∧ Paired PN kvs rs
  | [], _, r, _ => by rw [List.map_nil] at r; cases r; exact ⟨[], True.intro, .nil⟩
  | p :: kvs, _, r, hk => by
    rw [List.map_cons] at r
    cases r with
    | @cons a b as bs h t =>
      obtain ⟨rs, c, q⟩ := carries_N t fun p hp => hk p (List.mem_cons_of_mem _ hp)
      obtain ⟨b1, b2⟩ := b
      obtain ⟨h1, h2⟩ := h
      cases h1
      exact ⟨(p.1, p.2.1, b2) :: rs, ⟨rfl, rfl, hk p List.mem_cons_self, c⟩, .cons ⟨rfl, rfl, h2⟩ q⟩
theorem f_dispN (hu : X.A.units + 20 < cLine) {keys : List (Option Expr)} {values : List Expr} {f : En → R (List D)} (h : PPr X pos keys values (rdP (kt X) XC W f)) (hn : ∀ env ds, f env = .ok ds → ds.length = 2 * keys.length) (hall : keys.all (·.isSome) = true) (hl : keys.length = values.length) (h0 : keys ≠ [])
    (h15 : keys.length ≤ 15) : PE X (.Dict keys values pos) (rdF0 (kt X) XC W fun env => R.bind (f env) fun ds => R.bind (lift (dctP ds [(.none, .none)])) fun kvs => .ok (.dict kvs)) := by
  refine ⟨fun pins s σ H Q I ⟨S0, B, env, er, p⟩ => ?_⟩
  have hn0 := I.hok.fresh (Nat.le_refl s.heap.objs.size)
  have I1 := I.laid (a := s.heap.objs.size) (o := nO X.prog X.w s.heap.objs.size []) (h' := s.heap.push { cls := .type "dict", data := .dict #[] }) (t' := s.toks) (fun _ _ q => Heap.get?_push_of_some _ q) (Nat.le_refl _) (nO_new s.heap I.big)
  generalize hp0 : s.heap.objs.size = p0 at *
  have erb := er.block hn0 (Same.upd (o := nO X.prog X.w p0 []) hn0) ⟨_, upd_same⟩
  have sub : ∀ a, OS (fun b => S0 b ∨ b = p0) env σ a ↔ (OS S0 env σ a ∨ a = p0) := fun a => by
    constructor
    · rintro ((h | h) | h)
      · exact .inl (.inl h)
      · exact .inr h
      · exact .inl (.inr h)
    · rintro ((h | h) | h)
      · exact .inl (.inl h)
      · exact .inr h
      · exact .inl (.inr h)
  have q : rdP (kt X) XC W f σ (upd H p0 (nO X.prog X.w p0 [])) fun ps H2 => H2 p0 = some (nO X.prog X.w p0 []) ∧ ∃ (S : Addr → Prop) (kvs : List (NestedKey × Addr × V)), ps = kvs.map (fun p => (V.ref p.2.1, p.2.2)) ∧ kvs.length ≤ 15 ∧ (∀ p ∈ kvs, p.1.depth ≤ 8 ∧ ∃ x, keyN x = some p.1 ∧ Rep (kt X) S H2 (.ref p.2.1) x) ∧ Q (.ref p0) (upd H2 p0 (nO X.prog X.w p0 (mgN [] kvs))) := by
    refine ⟨_, B, env, erb, ?_⟩
    simp only [] at p
    cases hf : f env with
    | stuck => rw [hf] at p; exact p
    | exc c => rw [hf] at p; exact Post.same (r := (R.exc c : R (List D))) (K := fun ps H2 => True) (Same.upd hn0) p
    | ok ds =>
      rw [hf] at p
      cases hd : dctP ds [(.none, .none)] with
      | none =>
        have p : Post XC W σ H _ (R.bind (lift (dctP ds [(.none, .none)])) fun kvs => R.ok (PyData.dict kvs)) := p
        rw [hd] at p; exact p.elim
      | some kvs0 =>
        have p : Post XC W σ H (fun d H' => ∀ a, H a = none → OwnR (kt X) (fun b => OS S0 env σ b ∨ b = a) H' a d → Q (.ref a) H') (R.bind (lift (dctP ds [(.none, .none)])) fun kvs => R.ok (PyData.dict kvs)) := p
        rw [hd] at p
        intro H2 s2 ps rps
        have e2 : H2 p0 = some (nO X.prog X.w p0 []) := s2 _ _ upd_same
        obtain ⟨kvs, ks, es, h1, h2, rfl, h4, h5, h6, h7⟩ := disp_N (kv0 := []) (ks0 := []) (es0 := []) rfl hd rfl .nil (fun _ h => nomatch h) .nil rps
        have lk : kvs.length ≤ 15 := by
          have l1 := rps.length
          rw [flat2_length, hn env ds hf, h1, List.length_map] at l1
          omega
        have kp : Keep (OS (fun b => S0 b ∨ b = p0) env σ) H2 (upd H2 p0 (nO X.prog X.w p0 (mgN [] kvs))) := fun b o hb n => by
          by_cases z : b = p0
          · subst z
            rw [e2] at hb
            cases hb
            exact absurd ⟨.inl (.inr rfl), .nO⟩ n
          · rw [upd_ne z]; exact hb
        refine ⟨e2, _, kvs, h1, lk, h2, p _ (fun b o hb => ?_) p0 hn0 ?_⟩
        · have ne : b ≠ p0 := fun z => by rw [z, hn0] at hb; cases hb
          rw [upd_ne ne]
          exact s2 _ _ (by rw [upd_ne ne]; exact hb)
        · refine ⟨DictAt.n (.inl upd_same) ?_ (h5.keep kp fun a h => (sub a).mpr h) h4 h6 (h7.keep kp fun a h => (sub a).mpr h), .nO upd_same⟩
          have := length_mgN kvs []
          rw [List.length_nil] at this
          rw [sizeLine_eq]; omega
  have shape := zip_pairTrees keys values X.env pos hall hl
  have len := pairTrees_length keys values X.env pos hall hl
  have ne : pairTrees keys values X.env pos ≠ [] := fun z => by
    rw [z] at len
    exact h0 (List.length_eq_zero_iff.mp len.symm)
  rw [arm_eval_Dict, shape, dictDisplay_pairs _ ne (by rw [len]; omega)]
  have room : (nestedKind X.prog X.w).room X.A := by show X.A.units + 8 < cLine; omega
  subst hp0
  refine wpAny_bind (wpAny_standAt (wpAny_bind (wpAny_subDictH (knd := nestedKind X.prog X.w) room (by rw [len]; exact h15) (thn (h.run pins _ σ _ _ I1 q) fun ws s2 ⟨ps, H2, I2, rel, e, S, kvs, ep, lk, hk, q2⟩ => ?_))))
  subst ep
  have isk : ∀ p ∈ kvs, (nestedKind X.prog X.w).is s2.heap p.1 p.2.1 := fun p hp => by
    obtain ⟨h1, x, h2, h3⟩ := hk p hp
    exact ⟨Rep.key I2 (u := .ref p.2.1) h3 h2 rfl, h1⟩
  obtain ⟨rs, c, rk⟩ := carries_N (P := X.prog) (w := X.w) rel isk
  obtain ⟨hs0, xs0, px, dd⟩ := dictN_at I2 (ks := []) (S := fun _ => False) (.inl e) .nil rfl (fun _ h => nomatch h)
  cases px
  refine ⟨rs, c, dd, fun h' tk dd' hsb => wpAny_pure ⟨.ref s.heap.objs.size, _, ?_, rfl, q2⟩⟩
  have he : ∃ q, h'.get? s.heap.objs.size = some q := let ⟨q, _, _, hq, _⟩ := dd'; ⟨q, hq⟩
  exact d_write I2 (by rw [e]; exact True.intro) hsb he (nO_ok hs0 (pn_mg rk .nil) dd')
/-! == of a thing that is only looked into -/
section
variable {a b : Expr} {f g : En → R D}
theorem RepB.atom {C : Kt} {S : Addr → Prop} {H : Hp} {v : V} {d : D} (r : RepB C S H v d) (h : (∃ i, d = .int i) ∨ (∃ x, d = .str x) ∨ d = .none) : Rep C S H v d := by
  rcases r with r | ⟨a, rfl, sa, h2⟩
  · exact r
  · rcases h with ⟨i, rfl⟩ | ⟨x, rfl⟩ | rfl <;> exact h2.elim
def rEqB (C : Kt) (o : COp) : R2 := fun x y H Q => ∃ S d1 d2 b, RepB C S H x d1 ∧ Rep C S H y d2 ∧ cmpD o d1 d2 = some b ∧ Q (.bl b) H
def isEqO : COp → Bool
  | .eq => true
  | .ne => true
  | _ => false
theorem op_eqB (hu : X.A.units + 65 < cLine) {o : COp} (ho : isEqO o = true) : OpR X (compareOp (cmpOf o)) (rEqB (kt X) o) := by
  intro pins s σ H x y v u Q I rx ry h
  obtain ⟨S, d1, d2, b, r1, r2, e, q⟩ := h
  have key : ∀ c, eqD d1 d2 = some c → (Rep (kt X) S H x d1) ∨ (SeqAt.shaped d1 = true ∧ SeqAt.shaped d2 = true ∧ c = PyData.eqv d1 d2) := fun c e => by
    rcases eq_case e with ⟨i, j, rfl, rfl, rfl⟩ | ⟨i, j, rfl, rfl, rfl⟩ | ⟨rfl, rfl, rfl⟩ | h
    · exact .inl (r1.atom (.inl ⟨_, rfl⟩))
    · exact .inl (r1.atom (.inr (.inl ⟨_, rfl⟩)))
    · exact .inl (r1.atom (.inr (.inr rfl)))
    · exact .inr h
  cases o with
  | eq =>
    rcases key b e with r1 | ⟨g1, g2, rfl⟩
    · exact op_eqX (by omega) pins s σ H x y v u Q I rx ry ⟨S, d1, d2, b, r1, r2, e, q⟩
    · exact op_eqD (by omega) pins s σ H x y v u Q I rx ry ⟨d1, d2, r1.dp (SeqAt.canLay_of_shaped g1), r2.dpS g2, g1, g2, q⟩
  | ne =>
    obtain ⟨c, e', rfl⟩ := Option.map_eq_some_iff.mp e
    rcases key c e' with r1 | ⟨g1, g2, rfl⟩
    · exact op_neX (by omega) pins s σ H x y v u Q I rx ry ⟨S, d1, d2, c, r1, r2, e', q⟩
    · exact op_neD (by omega) pins s σ H x y v u Q I rx ry ⟨d1, d2, r1.dp (SeqAt.canLay_of_shaped g1), r2.dpS g2, g1, g2, q⟩
  | _ => cases ho
theorem plain_eqO {o : COp} (ho : isEqO o = true) : plainC o = true := by cases o <;> first | rfl | cases ho
theorem go_eqB {o : COp} {σ : L2.St} {H : Hp} {Q : VK} {S0 : Addr → Prop} {B : Hp} {env : En} (er : ER (kt X) S0 B σ H env)
    (p : Post XC W σ H (fun d H' => ∀ v, Rep (kt X) (OS S0 env σ) H' v d → Q v H') (R.bind (f env) fun x => R.bind (g env) fun y => R.bind (lift (cmpD o x y)) fun t => .ok (.bool t))) : tOp (rEqB (kt X) o) (rdB (kt X) XC W f) (rd (kt X) XC W g) σ H Q :=
  ⟨S0, B, env, er, p.bind.imp fun x H1 s1 p1 v rv => ⟨S0, B, env, er.same s1, p1.bind.imp fun y H2 s2 p2 w rw' => by
    obtain ⟨t, e, q⟩ := p2.bind.lift
    have rv2 : RepB (kt X) (OS S0 env σ) H2 v x := by
      rcases rv with r | ⟨a, rfl, sa, h⟩
      · exact .inl (r.same s2)
      · exact .inr ⟨a, rfl, sa, h.keep (.of_same s2) (fun _ q => q) fun o hh => s2 _ _ hh⟩
    exact ⟨_, x, y, t, rv2, rw', e, (q H2 (Same.refl _)).here _ (.bl _)⟩⟩⟩
theorem s_eqB (hu : X.A.units + 65 < cLine) {o : COp} (ho : isEqO o = true) (ha : PE X a (rdB (kt X) XC W f)) (hb : PE X b (rd (kt X) XC W g)) : PE X (.Compare a [cmpOf o] [b] pos) (rd (kt X) XC W fun env => R.bind (f env) fun x => R.bind (g env) fun y => R.bind (lift (cmpD o x y)) fun r => .ok (.bool r)) :=
  pe_imp (pe_cmpR (op_eqB hu ho) ha hb (mark_plain (plain_eqO ho) b)) fun σ H Q ⟨S0, B, env, er, p⟩ => go_eqB er p
theorem t_eqB (hu : X.A.units + 65 < cLine) {o : COp} (ho : isEqO o = true) (ha : PE X a (rdB (kt X) XC W f)) (hb : PE X b (rd (kt X) XC W g)) : PT X (.Compare a [cmpOf o] [b] pos) (rdT (kt X) XC W fun env => R.bind (f env) fun x => R.bind (g env) fun y => R.bind (lift (cmpD o x y)) fun r => .ok (.bool r)) :=
  t_of (pt_cmpR (op_eqB hu ho) ha hb (mark_plain (plain_eqO ho) b)) (fun σ H Q ⟨S0, B, env, er, p⟩ => go_eqB er p) (fun env => bl_bind fun x => bl_bind fun y => bl_bind fun t => bl_ok)
end
end
end PI
end
section
/-! zip of three tuples. -/
namespace PI
open PySem PySem.Spec PyProof.Rows L2
def ItzT3 (K : PySem.W.Frag) (a b c : Addr) (m : Nat) : L2.It :=
  ⟨fun i H => i < m ∧ ∃ (xs ys zs : List V) (x y z : V), SqT K H a xs ∧ SqT K H b ys ∧ SqT K H c zs ∧ xs[i]? = some x ∧ ys[i]? = some y ∧ zs[i]? = some z,
    fun i H v H' => ∃ T x y z, v = .ref T ∧ H T = none ∧ H' = upd H T (.tup [x, y, z]) ∧ (∀ xs, SqT K H a xs → xs[i]? = some x) ∧ (∀ ys, SqT K H b ys → ys[i]? = some y) ∧ ∀ zs, SqT K H c zs → zs[i]? = some z,
    fun i H => m ≤ i ∧ ∃ xs ys zs : List V, SqT K H a xs ∧ SqT K H b ys ∧ SqT K H c zs ∧ m = min (min xs.length ys.length) zs.length⟩
theorem turn_zipT3 {P : Program} {w : World} {K : PySem.W.Frag} {elts : List Expr} {kk : Nat} {tpos : Pos} {a b c z TI TO i1 i2 i3 : Addr} {m : Nat} (D : ZipSep3 z TI TO i1 i2 i3 [i1, a] [i2, b] [i3, c]) :
    Turn P w K (.Tuple elts kk tpos) (ItzT3 K a b c m) [z, TI, TO, i1, i2, i3] z (fun i h => i ≤ m ∧ IsZip h z TI TO .none ∧ IsTupOf3 h TI (.ref i1) (.ref i2) (.ref i3) ∧ (∃ x y u, IsTupOf3 h TO x y u) ∧ h.IsTupleIter i1 a i ∧ h.IsTupleIter i2 b i ∧ h.IsTupleIter i3 c i) where
  mem := by simp
  obj := fun i h st d hd => by
    obtain ⟨_, hz, hTI, ⟨x, y, u, hTO⟩, ⟨o1, e1, _, d1⟩, ⟨o2, e2, _, d2⟩, ⟨o3, e3, _, d3⟩⟩ := st
    have e' : d = z ∨ d = TI ∨ d = TO ∨ d = i1 ∨ d = i2 ∨ d = i3 := by simpa using hd
    rcases e' with q | q | q | q | q | q
    · rw [q]; exact ⟨_, hz, fun v q => nomatch q⟩
    · rw [q]; exact ⟨_, hTI, fun v q => nomatch q⟩
    · rw [q]; exact ⟨_, hTO, fun v q => nomatch q⟩
    · rw [q]; exact ⟨o1, e1, fun v q => by rw [d1] at q; cases q⟩
    · rw [q]; exact ⟨o2, e2, fun v q => by rw [d2] at q; cases q⟩
    · rw [q]; exact ⟨o3, e3, fun v q => by rw [d3] at q; cases q⟩
  keep := fun i h h' st k => by
    obtain ⟨hm, hz, hTI, ⟨x, y, u, hTO⟩, h1, h2, h3⟩ := st
    exact ⟨hm, k z (by simp) _ hz, k TI (by simp) _ hTI, ⟨x, y, u, k TO (by simp) _ hTO⟩, h1.at fun o q => k i1 (by simp) o q, h2.at fun o q => k i2 (by simp) o q, h3.at fun o q => k i3 (by simp) o q⟩
  item := by
    intro X hP hw hK hc i pins s σ H E I hf st hg
    subst hP hw hK
    obtain ⟨hm, hz, hTI, ⟨x0, y0, u0, hTO⟩, h1, h2, h3⟩ := st
    obtain ⟨him, xs, ys, zs, x, y, q, hqx, hqy, hqz, hx, hy, hq⟩ := hg
    obtain ⟨its, rv, p, _⟩ := I.tuple hqx
    obtain ⟨its2, rv2, p2, _⟩ := I.tuple hqy
    obtain ⟨its3, rv3, p3, _⟩ := I.tuple hqz
    obtain ⟨u, hu, ru⟩ := rv.get hx
    obtain ⟨u2, hu2, ru2⟩ := rv2.get hy
    obtain ⟨u3, hu3, ru3⟩ := rv3.get hq
    have hzl : z < s.heap.objs.size := Heap.lt_size hz
    have hh : X.A.in1.handled = none := I.ok.hd hc
    have l1 := (List.getElem?_eq_some_iff.mp hu).1
    have l2 := (List.getElem?_eq_some_iff.mp hu2).1
    have l3 := (List.getElem?_eq_some_iff.mp hu3).1
    have na : a ≠ i1 := fun e => by
      obtain ⟨o, ho, hcl, _⟩ := p
      obtain ⟨o1, e1, hcl1, _⟩ := h1
      rw [e, e1] at ho; cases ho
      rw [hcl1] at hcl; simp at hcl
    have nb : b ≠ i2 := fun e => by
      obtain ⟨o, ho, hcl, _⟩ := p2
      obtain ⟨o1, e1, hcl1, _⟩ := h2
      rw [e, e1] at ho; cases ho
      rw [hcl1] at hcl; simp at hcl
    have nc : c ≠ i3 := fun e => by
      obtain ⟨o, ho, hcl, _⟩ := p3
      obtain ⟨o1, e1, hcl1, _⟩ := h3
      rw [e, e1] at ho; cases ho
      rw [hcl1] at hcl; simp at hcl
    refine wpAny_pyNext_zipD3_item D (Draws.tuple hh i1 a na its.toArray) (Draws.tuple hh i2 b nb its2.toArray) (Draws.tuple hh i3 c nc its3.toArray) hz hTI hTO ⟨h1, p⟩ ⟨h2, p2⟩ ⟨h3, p3⟩ (by simpa using l1) (by simpa using l2) (by simpa using l3)
      fun v1 v2 v3 h' tk y1 y2 y3 z' TO' d1 d2 d3 hT hsz hk => ?_
    have e1 : v1 = u := by simpa [hu] using y1.symm
    have e2 : v2 = u2 := by simpa [hu2] using y2.symm
    have e3 : v3 = u3 := by simpa [hu3] using y3.symm
    subst e1 e2 e3
    refine ⟨_, rfl, wpAny_letOwnedTupleGo_zip (s := { s with heap := h', toks := tk }) z' fun h'' z'' sb => ?_⟩
    have hT2 : h''.get? s.heap.objs.size = some { cls := .type "tuple", data := .seq #[v1, v2, v3] } := (sb.2 _ (Nat.ne_of_gt hzl)).trans hT
    have new : ObjOk X.prog X.w (upd H s.heap.objs.size (.tup [x, y, q])) h'' s.heap.objs.size (.tup [x, y, q]) :=
      ⟨by show 3 ≤ sizeLine; decide, [v1, v2, v3], .cons ru (.cons ru2 (.cons ru3 .nil)), ⟨_, hT2, rfl, _, rfl⟩⟩
    have I1 : Inv X pins σ (upd H s.heap.objs.size (.tup [x, y, q])) { s with heap := h'', toks := tk } :=
      I.turnedNew (t' := tk) (ch := [z, TI, TO, i1, i2, i3]) (fun d o hb e => (sb.2 d (fun q' => hb (by simp [q']))).trans (hk d o (fun q' => hb (by simp [q'])) (fun q' => hb (by simp [q'])) (fun q' => hb (by simp [q'])) (fun q' => hb (by simp [q'])) (fun q' => hb (by simp [q'])) e)) hf (Nat.le_refl _) new
    have iz1 : i1 ≠ z := fun e => D.zi1 e.symm
    have iz2 : i2 ≠ z := fun e => D.zi2 e.symm
    have iz3 : i3 ≠ z := fun e => D.zi3 e.symm
    refine ⟨.ref s.heap.objs.size, _, I1, rfl, ⟨_, x, y, q, rfl, I.hok.fresh (Nat.le_refl _), rfl, fun l hl => by rw [I.tuple_inj hl hqx]; exact hx, fun l hl => by rw [I.tuple_inj hl hqy]; exact hy, fun l hl => by rw [I.tuple_inj hl hqz]; exact hq⟩, ⟨him, z'', ?_, ⟨v1, v2, v3, ?_⟩, ?_, ?_, ?_⟩, fun d hdm => ?_⟩
    · exact (sb.2 _ D.TIz).trans (hk _ _ D.TIz D.TITO D.TIi1 D.TIi2 D.TIi3 hTI)
    · exact (sb.2 _ D.TOz).trans TO'
    · exact d1.1.at fun o q => (sb.2 _ iz1).trans q
    · exact d2.1.at fun o q => (sb.2 _ iz2).trans q
    · exact d3.1.at fun o q => (sb.2 _ iz3).trans q
    · have hlt : d < s.heap.objs.size := by
        have e' : d = z ∨ d = TI ∨ d = TO ∨ d = i1 ∨ d = i2 ∨ d = i3 := by simpa using hdm
        rcases e' with q | q | q | q | q | q
        · rw [q]; exact hzl
        · rw [q]; exact Heap.lt_size hTI
        · rw [q]; exact Heap.lt_size hTO
        · rw [q]; obtain ⟨_, e1, _⟩ := h1; exact Heap.lt_size e1
        · rw [q]; obtain ⟨_, e2, _⟩ := h2; exact Heap.lt_size e2
        · rw [q]; obtain ⟨_, e3, _⟩ := h3; exact Heap.lt_size e3
      rw [upd_ne (Nat.ne_of_lt hlt)]
      exact (hf d hdm).1
  done := by
    intro X hP hw hK hc i pins s σ H E I hf st hg
    subst hP hw hK
    obtain ⟨hm, hz, hTI, ⟨x0, y0, u0, hTO⟩, h1, h2, h3⟩ := st
    obtain ⟨hmi, xs, ys, zs, hqx, hqy, hqz, hend⟩ := hg
    obtain ⟨its, rv, p, _⟩ := I.tuple hqx
    obtain ⟨its2, rv2, p2, _⟩ := I.tuple hqy
    obtain ⟨its3, rv3, p3, _⟩ := I.tuple hqz
    have hh : X.A.in1.handled = none := I.ok.hd hc
    have l1 := rv.length
    have l2 := rv2.length
    have l3 := rv3.length
    have na : a ≠ i1 := fun e => by
      obtain ⟨o, ho, hcl, _⟩ := p
      obtain ⟨o1, e1, hcl1, _⟩ := h1
      rw [e, e1] at ho; cases ho
      rw [hcl1] at hcl; simp at hcl
    have nb : b ≠ i2 := fun e => by
      obtain ⟨o, ho, hcl, _⟩ := p2
      obtain ⟨o1, e1, hcl1, _⟩ := h2
      rw [e, e1] at ho; cases ho
      rw [hcl1] at hcl; simp at hcl
    have nc : c ≠ i3 := fun e => by
      obtain ⟨o, ho, hcl, _⟩ := p3
      obtain ⟨o1, e1, hcl1, _⟩ := h3
      rw [e, e1] at ho; cases ho
      rw [hcl1] at hcl; simp at hcl
    refine wpAny_pyNext_zipD3_end D (Draws.tuple hh i1 a na its.toArray) (Draws.tuple hh i2 b nb its2.toArray) (Draws.tuple hh i3 c nc its3.toArray) hz hTI hTO ⟨h1, p⟩ ⟨h2, p2⟩ ⟨h3, p3⟩ (by simp; omega) (by simp; omega) (by simp; omega) (by simp; omega)
      fun h' tk hk => ⟨rfl, I.turnedL (t' := tk) (ch := [z, TI, TO, i1, i2, i3]) (fun d o hb q => hk d o (fun q' => hb (by simp [q'])) (fun q' => hb (by simp [q'])) (fun q' => hb (by simp [q'])) (fun q' => hb (by simp [q'])) (fun q' => hb (by simp [q'])) q) hf⟩
  self := fun A i s Q E st h => wpAny_pyIter_zip st.2.1 h
def iZip3 (K : PySem.W.Frag) (ta : TA) : TI := fun σ H R => ta σ H fun vs H1 => ∃ a b c xs ys zs, vs = [.ref a, .ref b, .ref c] ∧ SqT K H1 a xs ∧ SqT K H1 b ys ∧ SqT K H1 c zs ∧ R (ItzT3 K a b c (min (min xs.length ys.length) zs.length)) H1
theorem pi_zip3 {X : Cx} {e e2 e3 : Expr} {ta : TA} {p pos tpos : Pos} {elts : List Expr} {kk : Nat} (hg : Gl X "zip") (hm : X.mg "zip" = none) (ha : PA X [e, e2, e3] ta)
    (hs : starEach [e, e2, e3] X.env = (false, eval e X.env) :: starEach [e2, e3] X.env) (hpl : (backTo pos (starEach [e2, e3] X.env)).any (·.1) = false) :
    PI X (.Tuple elts kk tpos) (.Call (.Name "zip" p) [e, e2, e3] [] pos) (iZip3 X.K ta) := by
  refine ⟨fun pins s σ H R I h => ?_⟩
  refine Call_ (ld_blt I hg hm PyProof.Rows.boot_zip (PyProof.Rows.callWith_type1 (thn (ha.run pos pins s σ H _ I h) fun us s1 ⟨vs, H1, I1, r1, q1⟩ => ?_) hs hpl))
  obtain ⟨a, b, c, xs, ys, zs, ex, hqx, hqy, hqz, q⟩ := q1
  subst ex
  cases r1 with
  | cons r rr =>
    cases rr with
    | cons r' rr =>
      cases rr with
      | cons r'' rr =>
        cases rr
        cases r
        cases r'
        cases r''
        have fresh6 : ∀ d, d ∈ [s1.heap.objs.size + 5, s1.heap.objs.size + 3, s1.heap.objs.size + 4, s1.heap.objs.size, s1.heap.objs.size + 1, s1.heap.objs.size + 2] → FpOk X pins H1 d := fun d hdm => by
          have e' : d = s1.heap.objs.size + 5 ∨ d = s1.heap.objs.size + 3 ∨ d = s1.heap.objs.size + 4 ∨ d = s1.heap.objs.size ∨ d = s1.heap.objs.size + 1 ∨ d = s1.heap.objs.size + 2 := by simpa using hdm
          have hle : s1.heap.objs.size ≤ d := by omega
          exact I1.fpOk hle (I1.hok.fresh hle)
        obtain ⟨its, rv, p1, _⟩ := I1.tuple hqx
        obtain ⟨its2, rv2, p2, _⟩ := I1.tuple hqy
        obtain ⟨its3, rv3, p3, _⟩ := I1.tuple hqz
        obtain ⟨o1, ho1, _⟩ := id p1
        obtain ⟨o2, ho2, _⟩ := id p2
        obtain ⟨o3, ho3, _⟩ := id p3
        have g1 : @LT.lt Nat _ a s1.heap.objs.size := Heap.lt_size ho1
        have g2 : @LT.lt Nat _ b s1.heap.objs.size := Heap.lt_size ho2
        have g3 : @LT.lt Nat _ c s1.heap.objs.size := Heap.lt_size ho3
        refine zip_begins3 (begins_tuple a its.toArray) (begins_tuple b its2.toArray) (begins_tuple c its3.toArray) p1 p2 p3 fun h' hz hTI hTO h1 h2 h3 hsz hk => wpAny_pyIter_zip hz ?_
        have I2 : Inv X pins σ H1 { s1 with heap := h' } := I1.kept (t' := s1.toks) hk
        have sep : ZipSep3 (s1.heap.objs.size + 5) (s1.heap.objs.size + 3) (s1.heap.objs.size + 4) s1.heap.objs.size (s1.heap.objs.size + 1) (s1.heap.objs.size + 2) [s1.heap.objs.size, a] [s1.heap.objs.size + 1, b] [s1.heap.objs.size + 2, c] := by
          have n1 : (s1.heap.objs.size + 5 : Nat) ≠ a ∧ s1.heap.objs.size + 4 ≠ a ∧ s1.heap.objs.size + 1 ≠ a ∧ s1.heap.objs.size + 2 ≠ a := by omega
          have n2 : (s1.heap.objs.size + 5 : Nat) ≠ b ∧ s1.heap.objs.size + 4 ≠ b ∧ s1.heap.objs.size ≠ b ∧ s1.heap.objs.size + 2 ≠ b := by omega
          have n3 : (s1.heap.objs.size + 5 : Nat) ≠ c ∧ s1.heap.objs.size + 4 ≠ c ∧ s1.heap.objs.size ≠ c ∧ s1.heap.objs.size + 1 ≠ c := by omega
          constructor <;> simp [n1, n2, n3]
        exact ⟨s1.heap.objs.size + 5, [s1.heap.objs.size + 5, s1.heap.objs.size + 3, s1.heap.objs.size + 4, s1.heap.objs.size, s1.heap.objs.size + 1, s1.heap.objs.size + 2], _, _, H1, rfl, I2, turn_zipT3 sep, ⟨Nat.zero_le _, hz, hTI, ⟨_, _, _, hTO⟩, ⟨_, h1, rfl, rfl⟩, ⟨_, h2, rfl, rfl⟩, ⟨_, h3, rfl, rfl⟩⟩, fresh6, q⟩
section
variable {C : Kt} {S : Addr → Prop} {H : Hp} {ds es fs : List D}
theorem zip3_get : ∀ {xs ys zs : List D} {i : Nat} {d : D}, (zip3L xs ys zs)[i]? = some d → ∃ x y z, xs[i]? = some x ∧ ys[i]? = some y ∧ zs[i]? = some z ∧ d = .tuple [x, y, z]
  | [], _, _, _, _, e => by simp [zip3L] at e
  | _ :: _, [], _, _, _, e => by simp [zip3L] at e
  | _ :: _, _ :: _, [], _, _, e => by simp [zip3L] at e
  | x :: xs, y :: ys, z :: zs, 0, _, e => by simp [zip3L] at e; exact ⟨x, y, z, rfl, rfl, rfl, e.symm⟩
  | x :: xs, y :: ys, z :: zs, i + 1, d, e => by
    have e : (zip3L xs ys zs)[i]? = some d := by simpa [zip3L] using e
    obtain ⟨u, v, q, h1, h2, h3, h4⟩ := zip3_get e
    exact ⟨u, v, q, by simpa using h1, by simpa using h2, by simpa using h3, h4⟩
theorem length_zip3L : ∀ (xs ys zs : List D), (zip3L xs ys zs).length = min (min xs.length ys.length) zs.length
  | [], ys, zs => by simp [zip3L]
  | _ :: _, [], zs => by simp [zip3L]
  | _ :: _, _ :: _, [] => by simp [zip3L]
  | _ :: xs, _ :: ys, _ :: zs => by simp only [zip3L, List.length_cons, length_zip3L xs ys zs]; omega
theorem it_zipT3 {a b c : Addr} {xs ys zs : List V} (r : SqT C.K H a xs) (z : xs.length ≤ sizeLine) (h : RepL C S H xs ds) (r2 : SqT C.K H b ys) (g : RepL C S H ys es) (r3 : SqT C.K H c zs) (f : RepL C S H zs fs) : ItOk C S H (ItzT3 C.K a b c (min (min xs.length ys.length) zs.length)) (zip3L ds es fs) where
  len := by rw [length_zip3L, ← h.length]; omega
  go := fun H' i d k e => by
    have hl := (List.getElem?_eq_some_iff.mp e).1
    rw [length_zip3L, ← h.length, ← g.length, ← f.length] at hl
    obtain ⟨x, y, q, e1, e2, e3, _⟩ := zip3_get e
    obtain ⟨v, e1', _⟩ := h.get e1
    obtain ⟨w, e2', _⟩ := g.get e2
    obtain ⟨u, e3', _⟩ := f.get e3
    exact ⟨hl, xs, ys, zs, v, w, u, k.sqT r, k.sqT r2, k.sqT r3, e1', e2', e3'⟩
  yld := fun H' i d x H'' k e ⟨T, u, v, q, h1, h2, h3, h4, h5, h6⟩ => by
    subst h1 h3
    refine ⟨Same.upd h2, fun S' m => ?_⟩
    obtain ⟨d1, d2, d3, e1, e2, e3, rfl⟩ := zip3_get e
    obtain ⟨d1', e1', r1'⟩ := h.get' (h4 xs (k.sqT r))
    obtain ⟨d2', e2', r2'⟩ := g.get' (h5 ys (k.sqT r2))
    obtain ⟨d3', e3', r3'⟩ := f.get' (h6 zs (k.sqT r3))
    rw [e1] at e1'; cases e1'
    rw [e2] at e2'; cases e2'
    rw [e3] at e3'; cases e3'
    exact .tup (SqT.of upd_same) (by show 3 ≤ sizeLine; decide) (.cons ((r1'.keepN k m).upd h2) (.cons ((r2'.keepN k m).upd h2) (.cons ((r3'.keepN k m).upd h2) .nil)))
  stop := fun H' i k e => ⟨by rw [length_zip3L, ← h.length, ← g.length, ← f.length] at e; exact e, xs, ys, zs, k.sqT r, k.sqT r2, k.sqT r3, rfl⟩
end
section
variable {X : Cx} {XC : Nat → Value → Prop} {W : WX} {a b c : Expr} {f g k : En → R D} {pos : Pos}
theorem i_zip3 {p tpos : Pos} {elts : List Expr} {kk : Nat} (bt : BltOk X "zip") (hs : ∀ e' p, a ≠ .Starred e' p) (hs2 : ∀ e' p, b ≠ .Starred e' p) (hs3 : ∀ e' p, c ≠ .Starred e' p) (ha : PE X a (rd (kt X) XC W f)) (hb : PE X b (rd (kt X) XC W g)) (hc : PE X c (rd (kt X) XC W k)) :
    PI X (.Tuple elts kk tpos) (.Call (.Name "zip" p) [a, b, c] [] pos) (rdI (kt X) XC W fun env => R.bind (f env) fun x => R.bind (g env) fun y => R.bind (k env) fun z => lift (zip3D x y z)) := by
  have e3 := star_of hs3 [] X.env
  have e2 := star_of hs2 [c] X.env
  refine pi_imp (pi_zip3 bt.g bt.m (pa_cons ha (pa_cons hb (pa_cons hc pa_nil e3) e2) (star_of hs _ X.env)) (star_of hs _ X.env) (by rw [e2, e3]; rfl)) fun σ H R ⟨S0, B, env, er, p⟩ => ⟨S0, B, env, er, p.bind.imp fun x H1 s1 p1 v rv => ⟨S0, B, env, er.same s1, p1.bind.imp fun y H2 s2 p2 w rw' => ⟨S0, B, env, (er.same s1).same s2, p2.bind.imp fun z H3 s3 p3 u ru => ?_⟩⟩⟩
  obtain ⟨ds, e, q⟩ := p3.lift
  have rv := (rv.same s2).same s3
  have rw' := rw'.same s3
  cases x with
  | tuple xs =>
    cases y with
    | tuple ys =>
      cases z with
      | tuple zs =>
        cases e
        obtain ⟨l, us, rfl, r, z1, h⟩ := rv.tuple_of
        obtain ⟨l2, us2, rfl, r2, z2, h2⟩ := rw'.tuple_of
        obtain ⟨l3, us3, rfl, r3, z3, h3⟩ := ru.tuple_of
        exact ⟨l, l2, l3, us, us2, us3, rfl, r, r2, r3, q H3 (Same.refl _) _ (it_zipT3 r z1 h r2 h2 r3 h3)⟩
      | _ => cases e
    | _ => cases e
  | _ => cases e
end
end PI
end
section
/-! d.values(). -/
namespace PI
open PySem PySem.Spec PyProof.Rows L2
section
variable {X : Cx} {XC : Nat → Value → Prop} {W : WX} {a tg : Expr} {f : En → R D} {pos apos mpos : Pos}
theorem valsD_some {d : D} {ds : List D} (h : valsD d = some ds) : ∃ kvs, d = .dict kvs ∧ isFL kvs = false ∧ ds = (dictBody kvs).map (·.2) := by
  cases d with
  | dict kvs =>
    obtain ⟨g, rfl⟩ := gd_some (show gd (!isFL kvs) ((dictBody kvs).map (·.2)) = some ds from h)
    exact ⟨kvs, rfl, by simpa using g, rfl⟩
  | _ => cases h
/-- a view comes -/
theorem view_run {pins : List (Addr × Obj)} {s : Shared} {σ : L2.St} {H B : Hp} {S0 : Addr → Prop} {env : En} {rest : List D → Hp → Prop} {Q : Value → Shared → Prop} (hb : ∀ f p, a ≠ .Call f [] [] p) (hline : (apos.endLine == mpos.line) = true) (ha : PE X a (rd (kt X) XC W f)) (I : Inv X pins σ H s) (er : ER (kt X) S0 B σ H env)
    (p : Post XC W σ H (fun ds H1 => rest ds H1) (R.bind (f env) fun x => lift (valsD x)))
    (k : ∀ (ds : List D) (H1 : Hp) (s1 : Shared) (d : Addr) (o : Obj) (u : HO) (es : Array DictEntry) (ep : Nat) (vs : List V) (q : Addr), rest ds H1 → Same H H1 → Inv X pins σ H1 s1 → s1.heap.IsValuesView q d → H1 q = none → H1 d = some (.frz o u) → (d == sysModules) = false → s1.heap.get? d = some o → o.ExactDict → o.data = .dict es ep →
      es.size = vs.length → (∀ i (hi : i < es.size) x, vs[i]? = some x → RelV x es[i].val) → RepL (kt X) (OS S0 env σ) H1 vs ds → vs.length ≤ sizeLine → Q (.ref q) s1) :
    wpAny (model X.prog X.w) X.A (eval (.Call (.Attribute a "values" apos) [] [] mpos) X.env) Q X.xe s := by
  refine wpAny_Call_method0_late (base_of hb _ X.env _) hline (thn (ha.run pins s σ H (fun v H1 => ∃ x ds, Same H H1 ∧ Rep (kt X) (OS S0 env σ) H1 v x ∧ valsD x = some ds ∧ rest ds H1) I ⟨S0, B, env, er, p.bind.imp fun x H1 s1 p1 v rv => ?_⟩) fun u s1 ⟨y, H1, I1, r1, x, ds, sm, rx, e, q⟩ => ?_)
  · obtain ⟨ds, e, q⟩ := p1.lift
    exact ⟨x, ds, s1, rv, e, q H1 (Same.refl _)⟩
  · obtain ⟨kvs, rfl, hf, rfl⟩ := valsD_some e
    obtain ⟨d, o, w, es, ep, ks, vs, rfl, hd, hs, go, hx, hdt, l1, l2, g1, g2, rk, rv, z⟩ := frz_parts I1 rx hf
    cases r1
    refine ⟨"dict", "dict.values", PySem.F.plainAttrs_dict, PySem.F.slot_dict_values, PySem.F.type_dict_values, ⟨o, go, hx.1⟩, fun b e => by cases e; exact ⟨o, go, hx.2.1⟩, ?_⟩
    refine PyProof.Rows.callWith_method0 (env := X.env) (call_meetsIn PySem.F.slot_dict_values ⟨o, go, hx.1⟩ PySem.F.entry_dict_values (PySem.F.args_dict_values_1 _) (meets_dict_values_raw d hs) ⟨⟨es, ep, o, go, hx, hdt⟩, ?_⟩)
    have hn := I1.hok.fresh (Nat.le_refl s1.heap.objs.size)
    exact k _ H1 _ d o w es ep vs s1.heap.objs.size q sm (I1.kept (t' := s1.toks) fun b o e => Heap.get?_push_of_some _ e) ⟨_, Heap.get?_push_size _ rfl, rfl, rfl⟩ hn hd hs (Heap.get?_push_of_some _ go) hx hdt l2 g2 rv (by omega)
theorem vals_at {es : Array DictEntry} {vs : List V} {out : List Value} (hl : es.size = vs.length) (g : ∀ i (hi : i < es.size) x, vs[i]? = some x → RelV x es[i].val) (l : out.length = es.size) (c : ∀ i v, out[i]? = some v → ∃ hi : i < es.size, v = es[i].val) : Vals vs out := by
  refine vals_of_idx _ _ (by rw [l, hl]) fun j u hu => ?_
  obtain ⟨hi, rfl⟩ := c j u hu
  have hj : j < vs.length := by omega
  exact ⟨vs[j], List.getElem?_eq_getElem hj, g j hi _ (List.getElem?_eq_getElem hj)⟩
theorem s_listVals {p : Pos} (b1 : BltOk X "list") (hc : X.calm = true) (hb : ∀ f p, a ≠ .Call f [] [] p) (hline : (apos.endLine == mpos.line) = true) (ha : PE X a (rd (kt X) XC W f)) :
    PE X (.Call (.Name "list" p) [.Call (.Attribute a "values" apos) [] [] mpos] [] pos) (rd (kt X) XC W fun env => R.bind (f env) fun x => lift (biD .values [x])) := by
  have na := star_of (e := .Call (.Attribute a "values" apos) [] [] mpos) (fun _ _ h => nomatch h) [] X.env
  refine ⟨fun pins s σ H Q I ⟨S0, B, env, er, pp⟩ => ?_⟩
  refine Call_ (ld_blt I b1.g b1.m boot_list ?_)
  have pp : Post XC W σ H (fun ds H1 => ∀ H2, Same H1 H2 → ∀ v, Rep (kt X) (OS S0 env σ) H2 v (.list ds) → Q v H2) (R.bind (f env) fun x => lift (valsD x)) := by
    have pp : Post XC W σ H (fun d H' => ∀ v, Rep (kt X) (OS S0 env σ) H' v d → Q v H') (R.bind (f env) fun x => lift ((valsD x).map .list)) := pp
    cases hf : f env with
    | stuck => rw [hf] at pp; exact pp
    | exc c => rw [hf] at pp; exact pp
    | ok x =>
      rw [hf] at pp
      cases hv : valsD x with
      | none => rw [ok_bind, hv] at pp; exact pp.elim
      | some ds =>
        rw [ok_bind, hv] at pp
        rw [ok_bind, hv]
        exact fun H1 s1 H2 s2 => pp H2 (s1.trans s2)
  refine PyProof.Rows.callWith_type1 (PyProof.Rows.args_cons (view_run hb hline ha I er pp fun ds H1 s1 d o u es ep vs q hq sm I1 hv hqn hd hs go hx hdt l2 g2 rv z => PyProof.Rows.args_nil ?_) na) na rfl
  have raw : s1.heap.DictRaw d es ep := ⟨o, go, hx, hdt⟩
  refine PySem.W.kdl_call (KdlSrc.rawValues (r := q)) (I1.ok.hd hc) ⟨hv, raw⟩ (by rw [l2]; exact z) fun h' tk acc c hk e' it => ?_
  have hn := I1.hok.fresh (Nat.le_refl s1.heap.objs.size)
  have vv : Vals vs acc.toList := vals_at l2 g2 (by rw [Array.length_toList]; exact it.1) fun i v e => it.2 i v (by rw [← Array.getElem?_toList]; exact e)
  refine ⟨.ref s1.heap.objs.size, upd H1 s1.heap.objs.size (.lst vs), I1.laid hk (Nat.le_refl _) (show ObjOk X.prog X.w _ _ _ (.lst vs) from ⟨z, acc.toList, c, vv, by rw [Array.toArray_toList]; exact e'⟩), rfl, ?_⟩
  exact hq _ (Same.upd hn) _ (.lst ((er.same sm).trk.no hn) (.inl upd_same) z (rv.upd hn))
theorem s_sortedVals {p : Pos} (b1 : BltOk X "sorted") (hc : X.calm = true) (hu : X.A.units + 70 < cLine) (hb : ∀ f p, a ≠ .Call f [] [] p) (hline : (apos.endLine == mpos.line) = true) (ha : PE X a (rd (kt X) XC W f)) :
    PE X (.Call (.Name "sorted" p) [.Call (.Attribute a "values" apos) [] [] mpos] [] pos) (rd (kt X) XC W fun env => R.bind (f env) fun x => lift (biD .sortedValues [x])) := by
  have na := star_of (e := .Call (.Attribute a "values" apos) [] [] mpos) (fun _ _ h => nomatch h) [] X.env
  refine ⟨fun pins s σ H Q I ⟨S0, B, env, er, pp⟩ => ?_⟩
  refine Call_ (ld_blt I b1.g b1.m boot_sorted ?_)
  have pp : Post XC W σ H (fun ds H1 => ∃ d, sortD ds = some d ∧ ∀ H2, Same H1 H2 → ∀ v, Rep (kt X) (OS S0 env σ) H2 v d → Q v H2) (R.bind (f env) fun x => lift (valsD x)) := by
    have pp : Post XC W σ H (fun d H' => ∀ v, Rep (kt X) (OS S0 env σ) H' v d → Q v H') (R.bind (f env) fun x => lift ((valsD x).bind sortD)) := pp
    cases hf : f env with
    | stuck => rw [hf] at pp; exact pp
    | exc c => rw [hf] at pp; exact pp
    | ok x =>
      rw [hf] at pp
      cases hv : valsD x with
      | none => rw [ok_bind, hv] at pp; exact pp.elim
      | some ds =>
        rw [ok_bind, hv, Option.bind_some] at pp
        rw [ok_bind, hv]
        obtain ⟨d, e, q⟩ := pp.lift
        exact fun H1 s1 => ⟨d, e, fun H2 s2 => q H2 (s1.trans s2)⟩
  refine PyProof.Rows.callWith_builtin1 (PyProof.Rows.args_cons (view_run hb hline ha I er pp fun ds H1 s1 d o u es ep vs q hq sm I1 hv hqn hd hs go hx hdt l2 g2 rv z => PyProof.Rows.args_nil ?_) na) na rfl
  obtain ⟨e, es0, hq⟩ := hq
  obtain ⟨g0, rfl⟩ := gd_some (show gd (sortOk ds) (PyData.list (ds.mergeSort (PySem.W.dataLe false id))) = some e from es0)
  obtain ⟨g1, g2', g3⟩ := sortOk_of g0
  have raw : s1.heap.DictRaw d es ep := ⟨o, go, hx, hdt⟩
  have hh : X.A.in1.handled = none := I1.ok.hd hc
  have G : Gathers X.prog X.w X.A.in1 s1 q (fun out => Vals vs out) := fun E R r => by
    refine gather_src (KdlSrc.rawValues (r := q)) hh ⟨hv, raw⟩ (by rw [l2]; exact z) E R fun s' out k1 k2 k3 k4 ⟨c1, c2⟩ => r s' out k1 k2 k3 k4 (vals_at l2 g2 c1 c2)
  have hl := rv.length
  refine sorted_gath (T := fun es => es = ds) (R := fun u d => ∃ x, RelV x u ∧ Rep (kt X) (OS S0 env σ) H1 x d) G (fun out ho => ?_) fun s' p out c es' k g o hp hg ed lo eo => ?_
  · have rvv : Vals vs out := ho
    obtain ⟨as, rs⟩ := Dp.readsAll I1 ds vs out (rv.dp (canLayAll_of fun d hd => SeqAt.canLay_of_shaped (g3 d hd))) rvv
    have hvl := rvv.length
    exact ⟨ds, as, rfl, by rw [← hvl]; exact z, each_of_rep I1 rv rvv, rs, g1, g2', canLayAll_of fun d hd => SeqAt.canLay_of_shaped (g3 d hd), fun d hd => by have := SeqAt.depth_of_shaped (g3 d hd); omega⟩
  · subst ed
    obtain ⟨ws, v1, v2⟩ := rep_of_each eo
    have hz' : ws.length ≤ sizeLine := by rw [v1.length, lo, ← hl]; exact z
    have hn := I1.hok.fresh hp
    have J : Inv X pins σ (upd H1 p (.lst ws)) { s1 with heap := s'.heap, gens := s'.gens, drawn := s'.drawn, toks := s'.toks } :=
      I1.call (ch := []) (Un.laid k hp hn) (I1.hok.laid k hp ⟨hz', out, c, v1, hg⟩) (by rw [g]; exact I1.bare) (fun _ z => nomatch z)
    have e : s' = { s1 with heap := s'.heap, gens := s'.gens, drawn := s'.drawn, toks := s'.toks } := by
      cases s'
      cases s1
      cases o
      rfl
    rw [e]
    exact ⟨.ref p, _, J, rfl, hq _ (Same.upd hn) _ (.lst ((er.same sm).trk.no hn) (.inl upd_same) hz' (v2.upd hn))⟩
/-- for v in d.values() -/
theorem i_vls (hb : ∀ f p, a ≠ .Call f [] [] p) (hline : (apos.endLine == mpos.line) = true) (ha : PE X a (rd (kt X) XC W f)) :
    PI X tg (.Call (.Attribute a "values" apos) [] [] mpos) (rdI (kt X) XC W fun env => R.bind (f env) fun x => lift (valsD x)) := by
  refine ⟨fun pins s σ H R I ⟨S0, B, env, er, p⟩ => ?_⟩
  refine view_run hb hline ha I er p fun ds H1 s1 d o u es ep vs q hq sm I1 hv hqn hd hs go hx hdt l2 g2 rv z => ?_
  refine wpAny_pyIter_values_raw hv ⟨o, go, hx, hdt⟩ ?_
  have hne : d ≠ s1.heap.objs.size := Nat.ne_of_lt (Heap.lt_size go)
  refine ⟨s1.heap.objs.size, [s1.heap.objs.size], _, _, H1, rfl, I1.kept (t' := s1.toks) fun b o e => Heap.get?_push_of_some _ e, turn_dv hx hdt l2 g2 hne, ⟨_, Heap.get?_push_size _ rfl, rfl, rfl⟩, fun b hb => ?_, hq _ (it_D hd z rv)⟩
  have e : b = s1.heap.objs.size := by simpa using hb
  subst e
  exact I1.fpOk (Nat.le_refl _) (I1.hok.fresh (Nat.le_refl _))
end
end PI
end
section
/-! From the model's syntax to mine; expressions. -/
namespace PI
open PySem PySem.Spec PyProof.Rows L2
/-- what the names of a module stand for -/
structure Tab where
  fns : List (Str × Nat × (List D → R D))
  cns : List (Str × D)
  exs : List (Str × Nat)
/-- a name in a list of pairs -/
def find {α : Type} (x : Str) : List (Str × α) → Option α
  | [] => none
  | p :: r => cond (p.1 == x) (some p.2) (find x r)
theorem find_mem {α : Type} {x : Str} {a : α} : ∀ {l : List (Str × α)}, find x l = some a → (x, a) ∈ l
  | [], h => by cases h
  | p :: r, h => by
    unfold find at h
    cases e : p.1 == x with
    | true =>
      rw [e] at h
      cases h
      have := eq_of_beq e
      rw [← this]
      exact List.mem_cons_self
    | false => rw [e] at h; exact List.mem_cons_of_mem _ (find_mem h)
def ixOf (x : Str) : Nat → List Str → Option Nat
  | _, [] => none
  | k, y :: r => cond (y == x) (some k) (ixOf x (k + 1) r)
theorem ixOf_at {x : Str} : ∀ {l : List Str} {k i : Nat}, ixOf x k l = some i → k ≤ i ∧ l[i - k]? = some x
  | [], _, _, h => by cases h
  | y :: r, k, i, h => by
    unfold ixOf at h
    cases e : y == x with
    | true =>
      rw [e] at h
      cases h
      have := eq_of_beq e
      exact ⟨Nat.le_refl _, by simp [this]⟩
    | false =>
      rw [e] at h
      obtain ⟨h1, h2⟩ := ixOf_at h
      exact ⟨by omega, by rw [show i - k = (i - (k + 1)) + 1 by omega, List.getElem?_cons_succ]; exact h2⟩
theorem ixOf_N {x : Str} {N : List Str} {i : Nat} (h : ixOf x 0 N = some i) : N[i]? = some x := (ixOf_at h).2
def visB (sc : Scope) (x : Str) : Bool := match sc.names.lookup x with
  | some .local => true
  | some .cell => true
  | some .free => true
  | _ => false
theorem visB_ok {sc : Scope} {x : Str} (h : visB sc x = true) : Vis sc x := by
  unfold visB at h
  unfold Vis
  split at h
  · rename_i e; exact .inl e
  · rename_i e; exact .inr (.inl e)
  · rename_i e; exact .inr (.inr e)
  · cases h
def glB (sc : Scope) (x : Str) : Bool := match sc.names.lookup x with
  | some .globalImplicit => true
  | _ => false
theorem glB_ok {sc : Scope} {x : Str} (h : glB sc x = true) : sc.names.lookup x = some .globalImplicit := by
  unfold glB at h
  split at h
  · assumption
  · cases h
def oddB (x : Str) : Bool := x == ("__debug__" : Str) || x == ("__classdict__" : Str)
theorem oddB_ok {x : Str} (h : oddB x = false) : (x == ("__debug__" : Str)) = false ∧ (x == ("__classdict__" : Str)) = false := Bool.or_eq_false_iff.mp h
/-! shapes -/
def isStar : Expr → Bool
  | .Starred .. => true
  | _ => false
def isSet : Expr → Bool
  | .Set .. => true
  | _ => false
def isSlice : Expr → Bool
  | .Slice .. => true
  | _ => false
def isCall0 : Expr → Bool
  | .Call _ [] [] _ => true
  | _ => false
theorem isStar_ok {e : Expr} (h : isStar e = false) : ∀ e' p, e ≠ .Starred e' p := by rintro e' p rfl; cases h
theorem isSet_ok {e : Expr} (h : isSet e = false) : ∀ es k p, e ≠ .Set es k p := by rintro e' p q rfl; cases h
theorem isSlice_ok {e : Expr} (h : isSlice e = false) : ∀ l u s p, e ≠ .Slice l u s p := by rintro l u s p rfl; cases h
theorem isCall0_ok {e : Expr} (h : isCall0 e = false) : ∀ f p, e ≠ .Call f [] [] p := by rintro f p rfl; cases h
theorem mark_of {e : Expr} (h : isSet e = false) (o : CmpOp) : behindInMarks o e = false := by
  cases e <;> first | rfl | cases h
theorem plain_of {e : Expr} (h : isSlice e = false) : PlainIx e := by
  intro o i
  cases e <;> first | rfl | cases h

/-! ### names, constants -/
section
variable (T : Tab) (N : List Str)
def tName (sc : Scope) (x : Str) : E := cond (oddB x) .bad (cond (visB sc x) (match ixOf x 0 N with | some i => .var i | none => .bad) (cond (glB sc x) (match find x T.cns with | some d => .glb x d | none => .bad) .bad))
def tConst : Const → E
  | .none => .con .none
  | .bool b => .con (.bool b)
  | .int i => .con (.int i)
  | .str x => .con (.str x)
  | _ => .bad
/-- a name whose thing is only looked into -/
def tBor (rc : Expr → E) (sc : Scope) : Expr → E
  | .Name x p => cond (!oddB x && visB sc x) (match ixOf x 0 N with | some i => .bor i | none => .bad) (rc (.Name x p))
  | e => rc e
def mapEs (rc : Expr → E) : List Expr → Es
  | [] => .nil
  | e :: es => cond (isStar e) (.cons .bad .nil) (.cons (rc e) (mapEs rc es))
def mapO (rc : Expr → E) : Option Expr → Eo
  | none => .non
  | some e => .som (rc e)
def isAtomC : Option Expr → Bool
  | some (.Constant (.int _) _ _) => true
  | some (.Constant (.str _) _ _) => true
  | _ => false
def mapPs (rc : Expr → E) : List (Option Expr) → List Expr → Es
  | some k :: ks, v :: vs => .cons (rc k) (.cons (rc v) (mapPs rc ks vs))
  | _, _ => .nil
/-- {k: v, ..} -/
def tDict (rc : Expr → E) (ks : List (Option Expr)) (vs : List Expr) : E := cond (ks.all (·.isSome) && (ks.length == vs.length && decide (ks.length ≤ 15))) (.dct (!(!ks.isEmpty && ks.all isAtomC)) (mapPs rc ks vs)) .bad
def binO : Operator → Option BOp
  | .Add => some .add | .Sub => some .sub | .Mult => some .mul | .FloorDiv => some .fdiv | .Mod => some .mod | .Pow => some .pow
  | _ => none
def cmpO : CmpOp → Option COp
  | .Eq => some .eq | .NotEq => some .ne | .Lt => some .lt | .LtE => some .le | .Gt => some .gt | .GtE => some .ge
  | _ => none
def isNilL : Expr → Bool
  | .List [] _ => true
  | _ => false
/-- is None, is True, .. -/
def isO (neg : Bool) : Expr → Option (COp × D)
  | .Constant .none _ _ => some (cond neg .notN .isN, .none)
  | .Constant (.bool b) _ _ => some (cond neg (.notB b) (.isB b), .bool b)
  | _ => none
def tCmp1 (rc : Expr → E) (sc : Scope) (a : Expr) (o : CmpOp) (b : Expr) : E := match o with
  | .In => cond (isSet b) .bad (.cmp .inn (rc a) (tBor N rc sc b))
  | .NotIn => cond (isSet b) .bad (.cmp .nin (rc a) (tBor N rc sc b))
  | .Is => match isO false b with
    | some (o, d) => .cmp o (rc a) (.con d)
    | none => .bad
  | .IsNot => match isO true b with
    | some (o, d) => .cmp o (rc a) (.con d)
    | none => .bad
  | o => match cmpO o with
    | some o => .cmp o (cond (isEqO o && isNilL b) (tBor N rc sc a) (rc a)) (rc b)
    | none => .bad
def tCmp (rc : Expr → E) (sc : Scope) (a : Expr) : List CmpOp → List Expr → E
  | [o], [b] => tCmp1 N rc sc a o b
  | [o, o'], [b, c] => match cmpO o, cmpO o' with
    | some o, some o' => .chain o o' (rc a) (rc b) (rc c)
    | _, _ => .bad
  | _, _ => .bad
def tBool (rc : Expr → E) (op : BoolOp) : List Expr → E
  | [] => .bad
  | [a] => rc a
  | a :: b :: r => match op with
    | .And => .and (rc a) (tBool rc op (b :: r))
    | .Or => .or (rc a) (tBool rc op (b :: r))
def tSub (rc : Expr → E) (sc : Scope) (a : Expr) : Expr → E
  | .Slice lo hi none _ => .slc (rc a) (mapO rc lo) (mapO rc hi)
  | .Slice none none (some (.UnaryOp .USub (.Constant (.int 1) _ _) _)) _ => .rev (tBor N rc sc a)
  | i => cond (isSlice i) .bad (.idx (tBor N rc sc a) (rc i))
def biO : List (Str × Nat × Bi) := [("list", 1, .list), ("tuple", 1, .tuple), ("sorted", 1, .sorted), ("max", 1, .max), ("min", 1, .min), ("max", 2, .max2), ("int", 1, .int), ("str", 1, .str), ("dict", 1, .dictOf)]
def findBi (x : Str) (n : Nat) : List (Str × Nat × Bi) → Option Bi
  | [] => none
  | p :: r => cond (p.1 == x && p.2.1 == n) (some p.2.2) (findBi x n r)
def tyO : List (Str × Ty) := [("int", .int), ("bool", .bool), ("str", .str), ("tuple", .tuple), ("list", .list)]
/-- set(c) -/
def setArg (sc : Scope) : Expr → Option Expr
  | .Call (.Name y _) [c] [] _ => cond (y == ("set" : Str) && (glB sc y && !isStar c)) (some c) none
  | _ => none
/-- e.values() -/
def valArg : Expr → Option Expr
  | .Call (.Attribute o m apos) [] [] pos => cond (m == ("values" : Str) && (!isCall0 o && (apos.endLine == pos.line))) (some o) none
  | _ => none
def valsBi (x : Str) (a : Expr) : Option (Bi × Expr) := match valArg a with
  | some c => cond (x == ("list" : Str)) (some (.values, c)) (cond (x == ("sorted" : Str)) (some (.sortedValues, c)) none)
  | none => none
/-- len(a), isinstance(a, T), list(range(a)), .. -/
def tBlt (rc : Expr → E) (sc : Scope) (x : Str) (args : List Expr) : E := match args with
  | [a] => cond (isStar a) .bad (cond (x == ("len" : Str)) (match setArg sc a with
    | some c => .bi .setLen (.cons (rc c) .nil)
    | none => .bi .len (.cons (tBor N rc sc a) .nil)) (match (match a with
      | .Call (.Name y _) [c] [] _ => cond (x == ("list" : Str) && (y == ("range" : Str) && (glB sc y && !isStar c))) (some c) none
      | _ => none) with
    | some c => .bi .listRange (.cons (rc c) .nil)
    | none => match (cond (x == ("sorted" : Str)) (setArg sc a) none) with
      | some c => .bi .sortedSet (.cons (rc c) .nil)
      | none => match valsBi x a with
        | some (b, c) => .bi b (.cons (rc c) .nil)
        | none => match findBi x 1 biO with
          | some b => .bi b (mapEs rc args)
          | none => .bad))
  | [a, b] => cond (isStar a) .bad (cond (x == ("isinstance" : Str)) (match b with
    | .Name y _ => match find y tyO with
      | some t => cond (glB sc y) (.isI (rc a) t) .bad
      | none => .bad
    | _ => .bad) (match findBi x 2 biO with
      | some t => .bi t (mapEs rc args)
      | none => .bad))
  | _ => .bad
def noStars : List Expr → Bool
  | [] => true
  | e :: es => !isStar e && noStars es
def tCallN (rc : Expr → E) (sc : Scope) (x : Str) (args : List Expr) : E := cond (glB sc x && (!oddB x && noStars args)) (match find x T.fns with
  | some (n, g) => cond (args.length == n && !args.isEmpty) (.call x g (mapEs rc args)) .bad
  | none => tBlt N rc sc x args) .bad
def mtO : List (Str × Nat × Mt) := [("count", 1, .count), ("index", 1, .index), ("get", 1, .get1), ("get", 2, .get2), ("join", 1, .join), ("split", 1, .split), ("partition", 1, .partition)]
def findMt (x : Str) (n : Nat) : List (Str × Nat × Mt) → Option Mt
  | [] => none
  | p :: r => cond (p.1 == x && p.2.1 == n) (some p.2.2) (findMt x n r)
def tMeth (rc : Expr → E) (sc : Scope) (o : Expr) (m : Str) (apos pos : Pos) (args : List Expr) : E := cond ((!isCall0 o && noStars args) && ((apos.endLine == pos.line) && decide (args.length < 20))) (match findMt m args.length mtO with
  | some m => .mt m (tBor N rc sc o) (mapEs rc args)
  | none => .bad) .bad
/-- a name that may be stored -/
def locB (fl sc : Scope) (x : Str) : Bool := match sc.names.lookup x with
  | some .local => true
  | some .cell => fl.names.lookup x == some .cell
  | _ => false
/-- the slot of a name that is stored -/
def tgIx (fl sc : Scope) (x : Str) : Option Nat := cond (locB fl sc x) (ixOf x 0 N) none
def tgIxs (fl sc : Scope) : List Expr → Option (List Nat)
  | [] => some []
  | .Name x _ :: es => (tgIx N fl sc x).bind fun i => (tgIxs fl sc es).map (i :: ·)
  | _ :: _ => none
def tPat (fl sc : Scope) : Expr → Option Pat
  | .Name x _ => (tgIx N fl sc x).map .nm
  | .Tuple es _ _ => (tgIxs N fl sc es).map .tp
  | _ => none
def isTup : Expr → Bool
  | .Tuple .. => true
  | _ => false
def tItV (rc : Expr → E) (e : Expr) : It := match valArg e with
  | some c => .vls (rc c)
  | none => .val (rc e)
def tIt (rc : Expr → E) (sc : Scope) (tg : Expr) (e : Expr) : It := match e with
  | .Call (.Name x _) [a] [] _ => cond (glB sc x && !isStar a) (cond (x == ("range" : Str)) (.rng (rc a)) (cond (x == ("enumerate" : Str) && isTup tg) (.enm (rc a)) (.val (rc e)))) (.val (rc e))
  | .Call (.Name x _) [a, b] [] _ => cond ((glB sc x && (x == ("zip" : Str))) && (isTup tg && (!isStar a && !isStar b))) (.zip (rc a) (rc b)) (.val (rc e))
  | .Call (.Name x _) [a, b, c] [] _ => cond ((glB sc x && (x == ("zip" : Str))) && (isTup tg && (!isStar a && (!isStar b && !isStar c)))) (.zip3 (rc a) (rc b) (rc c)) (.val (rc e))
  | e => tItV rc e
/-- a block's own names -/
def ownOf : List (Str × NameKind) → List (Str × Nat)
  | [] => []
  | (x, k) :: r => cond (k == .local || k == .cell) (match ixOf x 0 N with
    | some i => (x, i) :: ownOf r
    | none => ownOf r) (ownOf r)
def blkC (sc scope : Scope) : Bool := (scope.kind == .function) && (scope.names.all fun y => (scope.names.lookup y.1 == some y.2) && (!(y.2 == .free) || (sc.names.lookup y.1 == some .cell || sc.names.lookup y.1 == some .free)))
/-- the tests of a comprehension -/
def ifsE (rec : Scope → Scope → Expr → E) (scope sc : Scope) (ifs : List Expr) : E := match ifs with
  | [] => .con (.bool true)
  | [c] => rec scope (relS scope sc) c
  | _ => .bad
def tLc (rec : Scope → Scope → Expr → E) (fl sc : Scope) (elt tg iter : Expr) (ifs : List Expr) (scope : Scope) : E := cond (blkC sc scope && !isSet iter) (match tPat N scope (relS scope sc) tg with
  | some p => cond ((patIdx p).all fun i => (ownOf N scope.names).any fun q => q.2 == i) (.lc (rec scope (relS scope sc) elt) p (tIt (rec fl sc) sc tg iter) (ifsE rec scope sc ifs) ((ownOf N scope.names).map (·.2))) .bad
  | none => .bad) .bad
def tGens (rec : Scope → Scope → Expr → E) (fl sc : Scope) (elt : Expr) (scope : Scope) : List Comprehension → E
  | [g] => cond (g.is_async == 0) (tLc N rec fl sc elt g.target g.iter g.ifs scope) .bad
  | _ => .bad
def stepE (rec : Scope → Scope → Expr → E) (fl sc : Scope) (e : Expr) : E := match e with
  | .Name x _ => tName T N sc x
  | .Constant c _ _ => tConst c
  | .BinOp a o b _ => match binO o with
    | some o => .bin o (rec fl sc a) (rec fl sc b)
    | none => .bad
  | .UnaryOp o a _ => match o with
    | .USub => .neg (rec fl sc a)
    | .Not => .not (rec fl sc a)
    | _ => .bad
  | .BoolOp op vs _ => tBool (rec fl sc) op vs
  | .Compare a ops bs _ => tCmp N (rec fl sc) sc a ops bs
  | .IfExp c a b _ => .ite (rec fl sc c) (rec fl sc a) (rec fl sc b)
  | .Tuple es _ _ => cond (noStars es && decide (es.length ≤ 1000)) (.tup (mapEs (rec fl sc) es)) .bad
  | .List es _ => cond (noStars es && decide (es.length ≤ 1000)) (.lst (mapEs (rec fl sc) es)) .bad
  | .Dict ks vs _ => tDict (rec fl sc) ks vs
  | .Subscript a i _ => tSub N (rec fl sc) sc a i
  | .Call f args [] pos => match f with
    | .Name x _ => tCallN T N (rec fl sc) sc x args
    | .Attribute o m apos => tMeth N (rec fl sc) sc o m apos pos args
    | _ => .bad
  | .ListComp elt gens scope _ => tGens N rec fl sc elt scope gens
  | _ => .bad
def tE : Nat → Scope → Scope → Expr → E
  | 0 => fun _ _ _ => .bad
  | n + 1 => stepE T N (tE n)
end
end PI
end
section
/-! The translation of expressions is sound. -/
namespace PI
open PySem PySem.Spec PyProof.Rows L2
def bltN : List Str := ["len", "isinstance", "list", "tuple", "sorted", "max", "min", "int", "str", "dict", "range", "enumerate", "zip", "bool", "set"]
/-- the context is one that the translation knows -/
structure Fit (T : Tab) (N : List Str) (XC : Nat → Value → Prop) (X : Cx) (fl sc : Scope) : Prop where
  calm : X.calm = true
  hu : X.A.units + 100 < cLine
  n : X.N = N
  nd : N.Nodup
  sc : X.env.scope = sc
  fl : ∀ x, fl.names.lookup x = some .cell → X.fn x = true
  blt : ∀ x ∈ bltN, X.mg x = none
  fns : ∀ x n g, (x, n, g) ∈ T.fns → CallOk X XC x n g
  cns : ∀ x d, (x, d) ∈ T.cns → GlbOk X x d
section
variable {T : Tab} {N : List Str} {XC : Nat → Value → Prop} {X : Cx} {fl sc : Scope} {W : WX} {rc : Expr → E}
theorem Fit.gl (F : Fit T N XC X fl sc) {x : Str} (h : glB sc x = true) : Gl X x := by
  have := glB_ok h
  rw [← F.sc] at this
  exact this
theorem Fit.vis (F : Fit T N XC X fl sc) {x : Str} (h : visB sc x = true) : Vis X.env.scope x := by
  rw [F.sc]; exact visB_ok h
theorem Fit.at (F : Fit T N XC X fl sc) {x : Str} {i : Nat} (h : ixOf x 0 N = some i) : X.N[i]? = some x := by
  rw [F.n]; exact ixOf_N h
theorem Fit.nd' (F : Fit T N XC X fl sc) : X.N.Nodup := by rw [F.n]; exact F.nd
theorem Fit.b (F : Fit T N XC X fl sc) {x : Str} (h : glB sc x = true) (hm : x ∈ bltN) : BltOk X x := ⟨F.gl h, F.blt x hm⟩
theorem bad_e {e : Expr} : PE X e (rd (kt X) XC W (evE .bad)) := rd_stuck (t := fun _ _ _ => False)
theorem sn_name (F : Fit T N XC X fl sc) {x : Str} {p : Pos} : PE X (.Name x p) (rd (kt X) XC W (evE (tName T N sc x))) := by
  unfold tName
  cases ho : oddB x with
  | true => exact bad_e
  | false =>
    obtain ⟨h1, h2⟩ := oddB_ok ho
    simp only [cond_false]
    cases hv : visB sc x with
    | true =>
      simp only [cond_true]
      cases hi : ixOf x 0 N with
      | none => exact bad_e
      | some i => exact s_var (F.at hi) (F.vis hv) h1 h2
    | false =>
      simp only [cond_false]
      cases hg : glB sc x with
      | false => exact bad_e
      | true =>
        simp only [cond_true]
        cases hf : find x T.cns with
        | none => exact bad_e
        | some d => exact s_glb (F.cns x d (find_mem hf)) (F.gl hg) h1
theorem sn_const {c : Const} {j : Nat} {p : Pos} : PE X (.Constant c j p) (rd (kt X) XC W (evE (tConst c))) := by
  cases c with
  | none => exact s_none
  | bool b => exact s_bool
  | int i => exact s_int
  | str x => exact s_str
  | _ => exact bad_e
theorem sn_bor (F : Fit T N XC X fl sc) (hE : ∀ e, PE X e (rd (kt X) XC W (evE (rc e)))) (e : Expr) : PE X e (rdB (kt X) XC W (evE (tBor N rc sc e))) := by
  cases e with
  | Name x p =>
    show PE X (.Name x p) (rdB (kt X) XC W (evE (cond (!oddB x && visB sc x) (match ixOf x 0 N with | some i => .bor i | none => .bad) (rc (.Name x p)))))
    cases h : (!oddB x && visB sc x) with
    | false => rw [cond_false]; exact rdB_of (hE _)
    | true =>
      obtain ⟨h1, h2⟩ := Bool.and_eq_true_iff.mp h
      obtain ⟨h3, h4⟩ := oddB_ok (by simpa using h1)
      rw [cond_true]
      cases hi : ixOf x 0 N with
      | none => exact rdB_stuck
      | some i => exact s_bor (F.at hi) (F.vis h2) h3 h4
  | _ => exact rdB_of (hE _)
theorem sn_es (hE : ∀ e, PE X e (rd (kt X) XC W (evE (rc e)))) : ∀ es : List Expr, PA X es (rdA (kt X) XC W (evEs (mapEs rc es)))
  | [] => s_nil
  | e :: es => by
    unfold mapEs
    cases h : isStar e with
    | true =>
      refine ⟨fun _ _ _ _ _ _ _ ⟨_, _, _, _, p⟩ => ?_⟩
      exact (show False from p).elim
    | false => exact s_cons (isStar_ok h) (hE e) (sn_es hE es)
theorem es_len : ∀ {es : List Expr} {env : En} {ds : List D}, evEs (mapEs rc es) env = .ok ds → ds.length = es.length
  | [], env, ds, h => by cases h; rfl
  | e :: es, env, ds, h => by
    unfold mapEs at h
    cases hs : isStar e with
    | true => rw [hs] at h; cases h
    | false =>
      rw [hs] at h
      have h : R.bind (evE (rc e) env) (fun x => R.bind (evEs (mapEs rc es) env) fun xs => .ok (x :: xs)) = .ok ds := h
      cases h1 : evE (rc e) env with
      | exc _ => rw [h1] at h; cases h
      | stuck => rw [h1] at h; cases h
      | ok x =>
        rw [h1] at h
        simp only [ok_bind] at h
        cases h2 : evEs (mapEs rc es) env with
        | exc _ => rw [h2] at h; cases h
        | stuck => rw [h2] at h; cases h
        | ok xs =>
          rw [h2] at h
          cases h
          rw [List.length_cons, List.length_cons, es_len h2]
theorem sn_o (hE : ∀ e, PE X e (rd (kt X) XC W (evE (rc e)))) : ∀ o : Option Expr, PO X o (rdO (kt X) XC W (evEo (mapO rc o)))
  | none => s_non
  | some e => s_som (hE e)
theorem binO_ok {o : Operator} {b : BOp} (h : binO o = some b) : opOf b = o := by cases o <;> cases h <;> rfl
theorem cmpO_ok {o : CmpOp} {c : COp} (h : cmpO o = some c) : cmpOf c = o ∧ plainC c = true := by cases o <;> cases h <;> exact ⟨rfl, rfl⟩
theorem bad_t {e : Expr} : PT X e (rdT (kt X) XC W (evE .bad)) := rdT_stuck
/-- as an expression, and as a test -/
def Both (X : Cx) (XC : Nat → Value → Prop) (W : WX) (e : Expr) (m : E) : Prop := PE X e (rd (kt X) XC W (evE m)) ∧ PT X e (rdT (kt X) XC W (evE m))
theorem both_bad {e : Expr} : Both X XC W e .bad := ⟨bad_e, bad_t⟩
theorem sn_cmp1 (F : Fit T N XC X fl sc) (hE : ∀ e, PE X e (rd (kt X) XC W (evE (rc e)))) {a b : Expr} {o : CmpOp} {p : Pos} : Both X XC W (.Compare a [o] [b] p) (tCmp1 N rc sc a o b) := by
  have hu := F.hu
  have plain : ∀ {o : CmpOp}, tCmp1 N rc sc a o b = (match cmpO o with | some o => .cmp o (cond (isEqO o && isNilL b) (tBor N rc sc a) (rc a)) (rc b) | none => .bad) → Both X XC W (.Compare a [o] [b] p) (tCmp1 N rc sc a o b) := fun {o} h => by
    rw [h]
    cases h1 : cmpO o with
    | none => exact both_bad
    | some c =>
      obtain ⟨rfl, h2⟩ := cmpO_ok h1
      show Both X XC W _ (.cmp c (cond (isEqO c && isNilL b) (tBor N rc sc a) (rc a)) (rc b))
      cases hb : (isEqO c && isNilL b) with
      | false => exact ⟨s_cmp (by omega) h2 (hE a) (hE b), t_cmp (by omega) h2 (hE a) (hE b)⟩
      | true =>
        have ho := (Bool.and_eq_true_iff.mp hb).1
        exact ⟨s_eqB (by omega) ho (sn_bor F hE a) (hE b), t_eqB (by omega) ho (sn_bor F hE a) (hE b)⟩
  cases o with
  | In =>
    show Both X XC W _ (cond (isSet b) .bad (.cmp .inn (rc a) (tBor N rc sc b)))
    cases h : isSet b with
    | true => exact both_bad
    | false => exact ⟨s_in (by omega) false (hE a) (sn_bor F hE b) (mark_of h), t_in (by omega) false (hE a) (sn_bor F hE b) (mark_of h)⟩
  | NotIn =>
    show Both X XC W _ (cond (isSet b) .bad (.cmp .nin (rc a) (tBor N rc sc b)))
    cases h : isSet b with
    | true => exact both_bad
    | false => exact ⟨s_in (by omega) true (hE a) (sn_bor F hE b) (mark_of h), t_in (by omega) true (hE a) (sn_bor F hE b) (mark_of h)⟩
  | Is =>
    show Both X XC W _ (match isO false b with | some (o, d) => .cmp o (rc a) (.con d) | none => .bad)
    unfold isO
    split <;> rename_i he
    · split at he
      · cases he; exact ⟨s_is (o := .isN) (.inl rfl) (hE a), t_is (o := .isN) (.inl rfl) (hE a)⟩
      · cases he; exact ⟨s_isB (o := .isB _) (.inl rfl) (hE a), t_isB (o := .isB _) (.inl rfl) (hE a)⟩
      · cases he
    · exact both_bad
  | IsNot =>
    show Both X XC W _ (match isO true b with | some (o, d) => .cmp o (rc a) (.con d) | none => .bad)
    unfold isO
    split <;> rename_i he
    · split at he
      · cases he; exact ⟨s_is (o := .notN) (.inr rfl) (hE a), t_is (o := .notN) (.inr rfl) (hE a)⟩
      · cases he; exact ⟨s_isB (o := .notB _) (.inr rfl) (hE a), t_isB (o := .notB _) (.inr rfl) (hE a)⟩
      · cases he
    · exact both_bad
  | _ => exact plain rfl
theorem sn_cmp (F : Fit T N XC X fl sc) (hE : ∀ e, PE X e (rd (kt X) XC W (evE (rc e)))) {a : Expr} {ops : List CmpOp} {bs : List Expr} {p : Pos} : Both X XC W (.Compare a ops bs p) (tCmp N rc sc a ops bs) := by
  have hu := F.hu
  unfold tCmp
  split
  · exact sn_cmp1 F hE
  · split
    · rename_i h1 h2
      obtain ⟨rfl, g1⟩ := cmpO_ok h1
      obtain ⟨rfl, g2⟩ := cmpO_ok h2
      exact ⟨s_chain (by omega) g1 g2 (hE _) (hE _) (hE _), t_chain (by omega) g1 g2 (hE _) (hE _) (hE _)⟩
    · exact both_bad
  · exact both_bad
theorem sn_bool (hB : ∀ e, Both X XC W e (rc e)) (op : BoolOp) {p : Pos} : ∀ vs : List Expr, PE X (.BoolOp op vs p) (rd (kt X) XC W (evE (tBool rc op vs))) ∧ PW X (.BoolOp op vs p) (rdT (kt X) XC W (evE (tBool rc op vs)))
  | [] => ⟨bad_e, ⟨fun _ _ _ _ _ _ _ ⟨_, _, _, _, p⟩ => p.elim⟩⟩
  | [a] => ⟨pe_one (hB a).1, w_one (hB a).2⟩
  | a :: b :: r => by
    obtain ⟨h1, h2⟩ := sn_bool hB op (b :: r)
    cases op with
    | And => exact ⟨s_and (hB a).1 h1, w_and (hB a).2 h2⟩
    | Or => exact ⟨s_or (hB a).1 h1, w_or (hB a).2 h2⟩
theorem sn_sub (F : Fit T N XC X fl sc) (hE : ∀ e, PE X e (rd (kt X) XC W (evE (rc e)))) {a i : Expr} {p : Pos} : PE X (.Subscript a i p) (rd (kt X) XC W (evE (tSub N rc sc a i))) := by
  have hu := F.hu
  have plain : tSub N rc sc a i = cond (isSlice i) .bad (.idx (tBor N rc sc a) (rc i)) → PE X (.Subscript a i p) (rd (kt X) XC W (evE (tSub N rc sc a i))) := fun h => by
    rw [h]
    cases hs : isSlice i with
    | true => exact bad_e
    | false => exact s_idx (by omega) (sn_bor F hE a) (hE i) (plain_of hs)
  cases i with
  | Slice lo hi st p2 =>
    cases st with
    | none => exact s_slc (hE a) (sn_o hE lo) (sn_o hE hi)
    | some st =>
      unfold tSub
      split
      · rename_i h; cases h
      · rename_i h
        cases h
        exact s_rev (sn_bor F hE a)
      · exact bad_e
  | _ => exact plain rfl
theorem noStars_ok : ∀ {es : List Expr}, noStars es = true → ∀ e ∈ es, ∀ e' p, e ≠ .Starred e' p
  | [], _, _, h => nomatch h
  | e :: es, h, e2, h2 => by
    have h : (!isStar e && noStars es) = true := h
    obtain ⟨h3, h4⟩ := Bool.and_eq_true_iff.mp h
    rcases List.mem_cons.mp h2 with rfl | h5
    · exact isStar_ok (by simpa using h3)
    · exact noStars_ok h4 e2 h5
theorem findBi_mem {x : Str} {n : Nat} {b : Bi} : ∀ {l : List (Str × Nat × Bi)}, findBi x n l = some b → (x, n, b) ∈ l
  | [], h => by cases h
  | p :: r, h => by
    unfold findBi at h
    cases e : (p.1 == x && p.2.1 == n) with
    | true =>
      rw [e] at h
      cases h
      obtain ⟨h1, h2⟩ := Bool.and_eq_true_iff.mp e
      have h1 := eq_of_beq h1
      have h2 := eq_of_beq h2
      rw [← h1, ← h2]
      exact List.mem_cons_self
    | false => rw [e] at h; exact List.mem_cons_of_mem _ (findBi_mem h)
theorem findMt_mem {x : Str} {n : Nat} {b : Mt} : ∀ {l : List (Str × Nat × Mt)}, findMt x n l = some b → (x, n, b) ∈ l
  | [], h => by cases h
  | p :: r, h => by
    unfold findMt at h
    cases e : (p.1 == x && p.2.1 == n) with
    | true =>
      rw [e] at h
      cases h
      obtain ⟨h1, h2⟩ := Bool.and_eq_true_iff.mp e
      have h1 := eq_of_beq h1
      have h2 := eq_of_beq h2
      rw [← h1, ← h2]
      exact List.mem_cons_self
    | false => rw [e] at h; exact List.mem_cons_of_mem _ (findMt_mem h)
theorem one_arg {f : En → R D} {g : List D → R D} (env : En) : (R.bind (R.bind (f env) fun x => R.bind (.ok []) fun xs => .ok (x :: xs)) g) = R.bind (f env) fun x => g [x] := by cases f env <;> rfl
/-- a built-in function of the list -/
theorem sn_bi (F : Fit T N XC X fl sc) (hE : ∀ e, PE X e (rd (kt X) XC W (evE (rc e)))) {x : Str} {a : Expr} {es : List Expr} {b : Bi} {p pos : Pos} (hg : glB sc x = true) (hs : noStars (a :: es) = true) (hf : (x, (a :: es).length, b) ∈ biO) :
    PE X (.Call (.Name x p) (a :: es) [] pos) (rd (kt X) XC W (evE (.bi b (mapEs rc (a :: es))))) := by
  have hu := F.hu
  have hc := F.calm
  have st := noStars_ok hs
  have ha := sn_es hE (a :: es)
  have key : ∀ {y : Str} {n : Nat} {b' : Bi}, (x, (a :: es).length, b) = (y, n, b') → x = y ∧ b = b' := fun h => by
    injection h with h1 h2; injection h2 with h2 h3; exact ⟨h1, h3⟩
  simp only [biO, List.mem_cons, List.not_mem_nil, or_false] at hf
  rcases hf with h | h | h | h | h | h | h | h | h
  · obtain ⟨rfl, rfl⟩ := key h
    exact s_bi (F.b hg (by simp [bltN])) boot_list (call_list_X hc) (.inr ⟨_, rfl⟩) (by decide) (by decide) st ha
  · obtain ⟨rfl, rfl⟩ := key h
    exact s_bi (F.b hg (by simp [bltN])) boot_tuple call_tuple_X (.inr ⟨_, rfl⟩) (by decide) (by decide) st ha
  · obtain ⟨rfl, rfl⟩ := key h
    exact s_bi (F.b hg (by simp [bltN])) boot_sorted (call_sorted_X hc (by omega)) (.inl ⟨_, rfl⟩) (by decide) (by decide) st ha
  · obtain ⟨rfl, rfl⟩ := key h
    exact s_bi (F.b hg (by simp [bltN])) boot_max (call_max_X hc (by omega)) (.inl ⟨_, rfl⟩) (by decide) (by decide) st ha
  · obtain ⟨rfl, rfl⟩ := key h
    exact s_bi (F.b hg (by simp [bltN])) boot_min (call_min_X hc (by omega)) (.inl ⟨_, rfl⟩) (by decide) (by decide) st ha
  · obtain ⟨rfl, rfl⟩ := key h
    exact s_bi (F.b hg (by simp [bltN])) boot_max (call_max2_X hc) (.inl ⟨_, rfl⟩) (by decide) (by decide) st ha
  · obtain ⟨rfl, rfl⟩ := key h
    exact s_bi (F.b hg (by simp [bltN])) boot_int call_int_X (.inr ⟨_, rfl⟩) (by decide) (by decide) st ha
  · obtain ⟨rfl, rfl⟩ := key h
    exact s_bi (F.b hg (by simp [bltN])) boot_str call_str_X (.inr ⟨_, rfl⟩) (by decide) (by decide) st ha
  · obtain ⟨rfl, rfl⟩ := key h
    exact s_bi (F.b hg (by simp [bltN])) boot_dict (call_dict_X hc (by omega)) (.inr ⟨_, rfl⟩) (by decide) (by decide) st ha
theorem ty_of {y : Str} {t : Ty} (h : find y tyO = some t) : y = Str.ofString (tyN t) ∧ y ∈ bltN := by
  have h := find_mem h
  simp only [tyO, List.mem_cons, List.not_mem_nil, or_false, Prod.mk.injEq] at h
  rcases h with ⟨rfl, rfl⟩ | ⟨rfl, rfl⟩ | ⟨rfl, rfl⟩ | ⟨rfl, rfl⟩ | ⟨rfl, rfl⟩ <;> exact ⟨rfl, by simp [bltN]⟩
theorem setArg_ok {sc : Scope} {a c : Expr} (h : setArg sc a = some c) : ∃ p2 q, a = .Call (.Name "set" p2) [c] [] q ∧ glB sc ("set" : Str) = true ∧ ∀ e' p, c ≠ .Starred e' p := by
  unfold setArg at h
  split at h
  · rename_i y p2 c' q
    cases hh : (y == ("set" : Str) && (glB sc y && !isStar c')) with
    | false => rw [hh] at h; cases h
    | true =>
      rw [hh] at h
      cases h
      simp only [Bool.and_eq_true] at hh
      obtain ⟨h1, h2, h3⟩ := hh
      have := eq_of_beq h1
      subst this
      exact ⟨p2, q, rfl, h2, isStar_ok (by simpa using h3)⟩
  · cases h
theorem valArg_ok {e c : Expr} (h : valArg e = some c) : ∃ apos mpos, e = .Call (.Attribute c "values" apos) [] [] mpos ∧ isCall0 c = false ∧ (apos.endLine == mpos.line) = true := by
  unfold valArg at h
  split at h
  · rename_i o m apos pos
    cases hh : (m == ("values" : Str) && (!isCall0 o && (apos.endLine == pos.line))) with
    | false => rw [hh] at h; cases h
    | true =>
      rw [hh] at h
      cases h
      simp only [Bool.and_eq_true] at hh
      obtain ⟨h1, h2, h3⟩ := hh
      have := eq_of_beq h1
      subst this
      exact ⟨apos, pos, rfl, by simpa using h2, h3⟩
  · cases h
theorem valsBi_ok {x : Str} {a c : Expr} {b : Bi} (h : valsBi x a = some (b, c)) : ∃ apos mpos, a = .Call (.Attribute c "values" apos) [] [] mpos ∧ isCall0 c = false ∧ (apos.endLine == mpos.line) = true ∧ ((x = "list" ∧ b = .values) ∨ (x = "sorted" ∧ b = .sortedValues)) := by
  unfold valsBi at h
  split at h
  · rename_i c' hv
    obtain ⟨p, q, e1, e2, e3⟩ := valArg_ok hv
    cases h1 : x == ("list" : Str) with
    | true =>
      rw [h1] at h
      cases h
      exact ⟨p, q, e1, e2, e3, .inl ⟨eq_of_beq h1, rfl⟩⟩
    | false =>
      rw [h1, cond_false] at h
      cases h2 : x == ("sorted" : Str) with
      | true =>
        rw [h2] at h
        cases h
        exact ⟨p, q, e1, e2, e3, .inr ⟨eq_of_beq h2, rfl⟩⟩
      | false => rw [h2] at h; cases h
  · cases h
theorem sn_ps (hE : ∀ e, PE X e (rd (kt X) XC W (evE (rc e)))) {pos : Pos} : ∀ (ks : List (Option Expr)) (vs : List Expr), ks.all (·.isSome) = true → ks.length = vs.length → PPr X pos ks vs (rdP (kt X) XC W (evEs (mapPs rc ks vs)))
  | [], [], _, _ => ppr_nil
  | [], _ :: _, _, h => by cases h
  | some k :: ks, v :: vs, h1, h2 => ppr_cons (hE k) (hE v) (sn_ps hE ks vs (by simpa using h1) (by simpa using h2))
  | none :: _, _, h, _ => by simp at h
  | some _ :: _, [], _, h => by cases h
theorem ps_len : ∀ {ks : List (Option Expr)} {vs : List Expr} {env : En} {ds : List D}, ks.all (·.isSome) = true → ks.length = vs.length → evEs (mapPs rc ks vs) env = .ok ds → ds.length = 2 * ks.length
  | [], [], _, _, _, _, e => by cases e; rfl
  | [], _ :: _, _, _, _, h, _ => by cases h
  | some k :: ks, v :: vs, env, ds, h1, h2, e => by
    have e : R.bind (evE (rc k) env) (fun x => R.bind (R.bind (evE (rc v) env) fun y => R.bind (evEs (mapPs rc ks vs) env) fun zs => .ok (y :: zs)) fun r => .ok (x :: r)) = .ok ds := e
    cases e1 : evE (rc k) env with
    | exc _ => rw [e1] at e; cases e
    | stuck => rw [e1] at e; cases e
    | ok x =>
      rw [e1] at e
      cases e2 : evE (rc v) env with
      | exc _ => rw [e2] at e; cases e
      | stuck => rw [e2] at e; cases e
      | ok y =>
        rw [e2] at e
        cases e3 : evEs (mapPs rc ks vs) env with
        | exc _ => rw [e3] at e; cases e
        | stuck => rw [e3] at e; cases e
        | ok zs =>
          rw [e3] at e
          cases e
          have := ps_len (by simpa using h1) (by simpa using h2) e3
          simp only [List.length_cons]
          omega
  | none :: _, _, _, _, h, _, _ => by simp at h
  | some _ :: _, [], _, _, _, h, _ => by cases h
theorem badF {e : Expr} : PE X e (rdF0 (kt X) XC W (evE .bad)) := ⟨fun _ _ _ _ _ _ ⟨_, _, _, _, p⟩ => p.elim⟩
theorem sn_dict (F : Fit T N XC X fl sc) (hE : ∀ e, PE X e (rd (kt X) XC W (evE (rc e)))) {ks : List (Option Expr)} {vs : List Expr} {pos : Pos} : PE X (.Dict ks vs pos) (rdF0 (kt X) XC W (evE (tDict rc ks vs))) := by
  have hu := F.hu
  unfold tDict
  cases h : (ks.all (·.isSome) && (ks.length == vs.length && decide (ks.length ≤ 15))) with
  | false => exact badF
  | true =>
    simp only [Bool.and_eq_true] at h
    obtain ⟨h1, h2, h3⟩ := h
    have h2 := eq_of_beq h2
    have h3 := of_decide_eq_true h3
    rw [cond_true]
    cases ks with
    | nil =>
      cases vs with
      | cons _ _ => cases h2
      | nil => exact f_dnew
    | cons k ks =>
      cases hb : !(!(k :: ks).isEmpty && (k :: ks).all isAtomC) with
      | true => exact f_dispN (by omega) (sn_ps hE _ _ h1 h2) (fun env ds e => ps_len h1 h2 e) h1 h2 (fun z => nomatch z) h3
      | false => exact f_disp (sn_ps hE _ _ h1 h2) (fun env ds e => ps_len h1 h2 e) h1 h2 (fun z => nomatch z) h3
theorem sn_blt (F : Fit T N XC X fl sc) (hE : ∀ e, PE X e (rd (kt X) XC W (evE (rc e)))) {x : Str} {args : List Expr} {p pos : Pos} (hg : glB sc x = true) (hs : noStars args = true) : PE X (.Call (.Name x p) args [] pos) (rd (kt X) XC W (evE (tBlt N rc sc x args))) := by
  have hu := F.hu
  match args, hs with
  | [], _ => exact bad_e
  | [a], hs =>
    have ha : isStar a = false := by
      have := (Bool.and_eq_true_iff.mp (show (!isStar a && noStars []) = true from hs)).1
      simpa using this
    have st := isStar_ok ha
    simp only [tBlt, ha, cond_false]
    cases hl : x == ("len" : Str) with
    | true =>
      have := eq_of_beq hl
      subst this
      rw [cond_true]
      split
      · rename_i c hm
        obtain ⟨p2, q, rfl, h1, h2⟩ := setArg_ok hm
        exact pe_eq (s_setLen (F.b hg (by simp [bltN])) (F.b h1 (by simp [bltN])) F.calm (by omega) h2 (fun _ _ h => nomatch h) (hE c)) fun env => (one_arg (f := evE (rc c)) (g := fun ds => lift (biD .setLen ds)) env).symm
      · exact pe_eq (s_len (F.b hg (by simp [bltN])) st (sn_bor F hE a)) fun env => (one_arg (f := evE (tBor N rc sc a)) (g := fun ds => lift (biD .len ds)) env).symm
    | false =>
      rw [cond_false]
      split
      · rename_i c hm
        split at hm
        · rename_i y p2 c' pos2
          cases hh : (x == ("list" : Str) && (y == ("range" : Str) && (glB sc y && !isStar c'))) with
          | false => rw [hh] at hm; cases hm
          | true =>
            rw [hh] at hm
            cases hm
            simp only [Bool.and_eq_true] at hh
            obtain ⟨h1, h2, h3, h4⟩ := hh
            have h1 := eq_of_beq h1
            have h2 := eq_of_beq h2
            subst h1 h2
            exact pe_eq (s_listRange F.calm (F.b hg (by simp [bltN])) (F.b h3 (by simp [bltN])) (isStar_ok (by simpa using h4)) (hE c)) fun env => (one_arg (f := evE (rc c)) (g := fun ds => lift (biD .listRange ds)) env).symm
        · cases hm
      · split
        · rename_i c hm
          cases hx : x == ("sorted" : Str) with
          | false => rw [hx] at hm; cases hm
          | true =>
            rw [hx, cond_true] at hm
            have := eq_of_beq hx
            subst this
            obtain ⟨p2, q, rfl, h1, h2⟩ := setArg_ok hm
            exact pe_eq (s_sortedSet (F.b hg (by simp [bltN])) (F.b h1 (by simp [bltN])) F.calm (by omega) h2 (fun _ _ h => nomatch h) (hE c)) fun env => (one_arg (f := evE (rc c)) (g := fun ds => lift (biD .sortedSet ds)) env).symm
        · split
          · rename_i b c hv
            obtain ⟨apos, mpos, rfl, ho, hli, hx⟩ := valsBi_ok hv
            rcases hx with ⟨rfl, rfl⟩ | ⟨rfl, rfl⟩
            · exact pe_eq (s_listVals (F.b hg (by simp [bltN])) F.calm (isCall0_ok ho) hli (hE _)) fun env => (one_arg (f := evE (rc c)) (g := fun ds => lift (biD .values ds)) env).symm
            · exact pe_eq (s_sortedVals (F.b hg (by simp [bltN])) F.calm (by omega) (isCall0_ok ho) hli (hE _)) fun env => (one_arg (f := evE (rc c)) (g := fun ds => lift (biD .sortedValues ds)) env).symm
          · split
            · rename_i b hb
              exact sn_bi F hE hg hs (findBi_mem hb)
            · exact bad_e
  | [a, b], hs =>
    have ha : isStar a = false := by
      have := (Bool.and_eq_true_iff.mp (show (!isStar a && noStars [b]) = true from hs)).1
      simpa using this
    have st := isStar_ok ha
    simp only [tBlt, ha, cond_false]
    cases hl : x == ("isinstance" : Str) with
    | true =>
      have := eq_of_beq hl
      subst this
      rw [cond_true]
      split
      · rename_i y p2
        split
        · rename_i t ht
          obtain ⟨rfl, hm⟩ := ty_of ht
          cases hgy : glB sc (Str.ofString (tyN t)) with
          | false => exact bad_e
          | true =>
            rw [cond_true]
            exact s_isI t (F.b hg (by simp [bltN])) (F.b hgy hm) st (hE a)
        · exact bad_e
      · exact bad_e
    | false =>
      rw [cond_false]
      split
      · rename_i t ht
        exact sn_bi F hE hg hs (findBi_mem ht)
      · exact bad_e
  | _ :: _ :: _ :: _, _ => exact bad_e
theorem sn_callN (F : Fit T N XC X fl sc) (tk : Takes X W) (hE : ∀ e, PE X e (rd (kt X) XC W (evE (rc e)))) {x : Str} {args : List Expr} {p pos : Pos} : PE X (.Call (.Name x p) args [] pos) (rd (kt X) XC W (evE (tCallN T N rc sc x args))) := by
  unfold tCallN
  cases h : (glB sc x && (!oddB x && noStars args)) with
  | false => exact bad_e
  | true =>
    rw [cond_true]
    simp only [Bool.and_eq_true] at h
    obtain ⟨h1, h2, h3⟩ := h
    obtain ⟨h4, h5⟩ := oddB_ok (by simpa using h2)
    split
    · rename_i n g hf
      cases hn : (args.length == n && !args.isEmpty) with
      | false => exact bad_e
      | true =>
        rw [cond_true]
        obtain ⟨h6, h7⟩ := Bool.and_eq_true_iff.mp hn
        have h6 := eq_of_beq h6
        cases args with
        | nil => cases h7
        | cons a es => exact s_call tk (F.fns x n g (find_mem hf)) (F.gl h1) h4 (noStars_ok h3) (fun env ds e => (es_len e).trans h6) (sn_es hE (a :: es))
    · exact sn_blt F hE h1 h3
theorem mt_of {m : Str} {n : Nat} {t : Mt} (h : findMt m n mtO = some t) : m = Str.ofString (mtN t) ∧ mtOk t = true ∧ 1 ≤ n := by
  have h := findMt_mem h
  simp only [mtO, List.mem_cons, List.not_mem_nil, or_false, Prod.mk.injEq] at h
  rcases h with ⟨rfl, rfl, rfl⟩ | ⟨rfl, rfl, rfl⟩ | ⟨rfl, rfl, rfl⟩ | ⟨rfl, rfl, rfl⟩ | ⟨rfl, rfl, rfl⟩ | ⟨rfl, rfl, rfl⟩ | ⟨rfl, rfl, rfl⟩ <;> exact ⟨rfl, rfl, by decide⟩
theorem sn_meth (F : Fit T N XC X fl sc) (hE : ∀ e, PE X e (rd (kt X) XC W (evE (rc e)))) {o : Expr} {m : Str} {apos pos : Pos} {args : List Expr} : PE X (.Call (.Attribute o m apos) args [] pos) (rd (kt X) XC W (evE (tMeth N rc sc o m apos pos args))) := by
  have hu := F.hu
  unfold tMeth
  cases h : ((!isCall0 o && noStars args) && ((apos.endLine == pos.line) && decide (args.length < 20))) with
  | false => exact bad_e
  | true =>
    rw [cond_true]
    simp only [Bool.and_eq_true, decide_eq_true_eq] at h
    obtain ⟨⟨h1, h2⟩, h3, h4⟩ := h
    split
    · rename_i t ht
      obtain ⟨rfl, ok, h5⟩ := mt_of ht
      cases args with
      | nil => cases h5
      | cons a es => exact s_mt (by omega) ok (isCall0_ok (by simpa using h1)) (noStars_ok h2) h4 h3 (sn_bor F hE o) (sn_es hE (a :: es))
    · exact bad_e
end
end PI
end
section
/-! Targets, what is walked, comprehensions: the translation is sound; expressions in all. -/
namespace PI
open PySem PySem.Spec PyProof.Rows L2
section
variable {T : Tab} {N : List Str} {XC : Nat → Value → Prop} {X : Cx} {fl sc : Scope} {W : WX} {rc : Expr → E}
theorem tgIx_ok (F : Fit T N XC X fl sc) {x : Str} {i : Nat} (h : tgIx N fl sc x = some i) : TgOk X x i := by
  unfold tgIx at h
  cases e : locB fl sc x with
  | false => rw [e] at h; cases h
  | true =>
    rw [e] at h
    unfold locB at e
    refine ⟨F.at h, ?_, ?_⟩
    · unfold L2.Loc
      rw [F.sc]
      split at e
      · rename_i q; exact .inl q
      · rename_i q; exact .inr q
      · cases e
    · rw [F.sc]
      split at e
      · rename_i q; exact .inr q
      · rename_i q; exact .inl (F.fl x (eq_of_beq e))
      · cases e
theorem tgIxs_ok (F : Fit T N XC X fl sc) : ∀ {es : List Expr} {is : List Nat}, tgIxs N fl sc es = some is → TgsOk X es is
  | [], is, h => by cases h; exact .nil
  | e :: es, is, h => by
    cases e with
    | Name x p =>
      obtain ⟨i, h1, h⟩ := Option.bind_eq_some_iff.mp (show (tgIx N fl sc x).bind (fun i => (tgIxs N fl sc es).map (i :: ·)) = some is from h)
      obtain ⟨js, h2, rfl⟩ := Option.map_eq_some_iff.mp h
      exact .cons (tgIx_ok F h1) (tgIxs_ok F h2)
    | _ => cases h
theorem tPat_ok (F : Fit T N XC X fl sc) {e : Expr} {q : Pat} (h : tPat N fl sc e = some q) : PG X e (rdG (kt X) q) := by
  cases e with
  | Name x p =>
    obtain ⟨i, h1, rfl⟩ := Option.map_eq_some_iff.mp (show (tgIx N fl sc x).map .nm = some q from h)
    exact g_name F.nd' (tgIx_ok F h1)
  | Tuple es k p =>
    obtain ⟨is, h1, rfl⟩ := Option.map_eq_some_iff.mp (show (tgIxs N fl sc es).map .tp = some q from h)
    exact g_tup F.calm F.nd' (tgIxs_ok F h1)
  | _ => cases h
theorem isTup_ok {e : Expr} (h : isTup e = true) : ∃ es k p, e = .Tuple es k p := by
  cases e with
  | Tuple es k p => exact ⟨es, k, p, rfl⟩
  | _ => cases h
theorem sn_it (F : Fit T N XC X fl sc) (hE : ∀ e, PE X e (rd (kt X) XC W (evE (rc e)))) (tg e : Expr) : PI X tg e (rdI (kt X) XC W (evIt (tIt rc sc tg e))) := by
  unfold tIt
  split
  · rename_i x p a pos
    cases h : (glB sc x && !isStar a) with
    | false => exact i_val (hE _)
    | true =>
      rw [cond_true]
      obtain ⟨h1, h2⟩ := Bool.and_eq_true_iff.mp h
      have st := isStar_ok (show isStar a = false by simpa using h2)
      cases hr : x == ("range" : Str) with
      | true =>
        have := eq_of_beq hr
        subst this
        exact i_rng (F.b h1 (by simp [bltN])) st (hE a)
      | false =>
        rw [cond_false]
        cases hn : (x == ("enumerate" : Str) && isTup tg) with
        | false => exact i_val (hE _)
        | true =>
          obtain ⟨h3, h4⟩ := Bool.and_eq_true_iff.mp hn
          have := eq_of_beq h3
          subst this
          obtain ⟨es, k, p2, rfl⟩ := isTup_ok h4
          exact i_enm (F.b h1 (by simp [bltN])) st (hE a)
  · rename_i x p a b pos
    cases h : ((glB sc x && (x == ("zip" : Str))) && (isTup tg && (!isStar a && !isStar b))) with
    | false => exact i_val (hE _)
    | true =>
      rw [cond_true]
      simp only [Bool.and_eq_true, Bool.not_eq_true'] at h
      obtain ⟨⟨h1, h2⟩, h3, h4, h5⟩ := h
      have := eq_of_beq h2
      subst this
      obtain ⟨es, k, p2, rfl⟩ := isTup_ok h3
      exact i_zip (F.b h1 (by simp [bltN])) (isStar_ok h4) (isStar_ok h5) (hE a) (hE b)
  · rename_i x p a b c pos
    cases h : ((glB sc x && (x == ("zip" : Str))) && (isTup tg && (!isStar a && (!isStar b && !isStar c)))) with
    | false => exact i_val (hE _)
    | true =>
      rw [cond_true]
      simp only [Bool.and_eq_true, Bool.not_eq_true'] at h
      obtain ⟨⟨h1, h2⟩, h3, h4, h5, h6⟩ := h
      have := eq_of_beq h2
      subst this
      obtain ⟨es, k, p2, rfl⟩ := isTup_ok h3
      exact i_zip3 (F.b h1 (by simp [bltN])) (isStar_ok h4) (isStar_ok h5) (isStar_ok h6) (hE a) (hE b) (hE c)
  · unfold tItV
    split
    · rename_i c hv
      obtain ⟨apos, mpos, rfl, h1, h2⟩ := valArg_ok hv
      exact i_vls (isCall0_ok h1) h2 (hE c)
    · exact i_val (hE _)
/-! ### blocks -/
theorem ownOf_ix : ∀ {names : List (Str × NameKind)}, ∀ p ∈ ownOf N names, N[p.2]? = some p.1
  | [], p, h => nomatch h
  | (x, k) :: r, p, h => by
    unfold ownOf at h
    cases e : (k == .local || k == .cell) with
    | false => rw [e] at h; exact ownOf_ix p h
    | true =>
      rw [e, cond_true] at h
      split at h
      · rename_i i hi
        rcases List.mem_cons.mp h with rfl | h
        · exact ixOf_N hi
        · exact ownOf_ix p h
      · exact ownOf_ix p h
theorem ixOf_none {x : Str} : ∀ {l : List Str} {k : Nat}, ixOf x k l = none → x ∉ l
  | [], _, _ => List.not_mem_nil
  | y :: r, k, h => by
    unfold ixOf at h
    cases e : y == x with
    | true => rw [e] at h; cases h
    | false =>
      rw [e, cond_false] at h
      intro m
      rcases List.mem_cons.mp m with z | m
      · rw [z] at e; simp at e
      · exact ixOf_none h m
theorem ownOf_own : ∀ {names : List (Str × NameKind)}, ∀ y ∈ names, y.2 = .local ∨ y.2 = .cell → y.1 ∈ (ownOf N names).map (·.1) ∨ y.1 ∉ N
  | [], _, h, _ => nomatch h
  | (x, k) :: r, y, h, hk => by
    unfold ownOf
    rcases List.mem_cons.mp h with rfl | h
    · have e : (k == NameKind.local || k == NameKind.cell) = true := by
        rcases hk with hk | hk
        · have hk : k = .local := hk
          subst hk; rfl
        · have hk : k = .cell := hk
          subst hk; rfl
      rw [e, cond_true]
      split
      · rename_i i hi
        exact .inl (by rw [List.map_cons]; exact List.mem_cons_self)
      · rename_i hi
        exact .inr (ixOf_none hi)
    · have ih := ownOf_own y h hk
      cases e : (k == NameKind.local || k == NameKind.cell) with
      | false => exact ih
      | true =>
        rw [cond_true]
        split
        · exact ih.imp (fun z => by rw [List.map_cons]; exact List.mem_cons_of_mem _ z) id
        · exact ih
theorem blkC_ok {sc scope : Scope} (h : blkC sc scope = true) : BlkOk N sc scope (ownOf N scope.names) := by
  unfold blkC at h
  simp only [Bool.and_eq_true, List.all_eq_true, Bool.or_eq_true, Bool.not_eq_true'] at h
  obtain ⟨h1, h2⟩ := h
  refine ⟨eq_of_beq h1, fun y hy => eq_of_beq (h2 y hy).1, ownOf_ix, fun y hy e => ?_, ownOf_own⟩
  rcases (h2 y hy).2 with q | q
  · rw [e] at q; cases q
  · exact q.imp eq_of_beq eq_of_beq
theorem takes_blk {Y : Cx} : Takes Y (fun _ _ _ _ => False) := fun _ _ ⟨_, _, _, _, _, _, _, _, _, _, _, _, _, _, _, _, w⟩ => w.elim
theorem Fit.blk (F : Fit T N XC X fl sc) (s : Shared) (H : Hp) (scope : Scope) (cl : List (Str × Addr)) (C : Addr) (fp : List Addr) : Fit T N XC (X.blk s H scope (compEnvC scope cl C X.env) fp) scope (relS scope sc) where
  calm := F.calm
  hu := F.hu
  n := F.n
  nd := F.nd
  sc := by
    show relS scope X.env.scope = relS scope sc
    rw [F.sc]
  fl := fun x h => by
    show (scope.names.lookup x == some .cell) = true
    rw [h]
    rfl
  blt := F.blt
  fns := F.fns
  cns := F.cns
/-- the translation is sound at every context that it knows -/
def SndE (T : Tab) (N : List Str) (XC : Nat → Value → Prop) (rec : Scope → Scope → Expr → E) : Prop := ∀ (X : Cx) (fl sc : Scope) (W : WX), Fit T N XC X fl sc → Takes X W → ∀ e, Both X XC W e (rec fl sc e)
variable {rec : Scope → Scope → Expr → E}
/-- a comprehension's parts -/
theorem lc_parts (hR : SndE T N XC rec) (F : Fit T N XC X fl sc) (tk : Takes X W) {elt tg iter : Expr} {scope : Scope} {q : Pat} (hb : blkC sc scope = true) (hs : isSet iter = false) (hq : tPat N scope (relS scope sc) tg = some q) :
    PI X tg iter (rdI (kt X) XC W (evIt (tIt (rec fl sc) sc tg iter))) ∧ BlkOk X.N X.env.scope scope (ownOf N scope.names) ∧
      (∀ (s : Shared) (H : Hp) (C : Addr) (cl : List (Str × Addr)) (fp : List Addr), PG (X.blk s H scope (compEnvC scope cl C X.env) fp) tg (rdG (kt X) q)) ∧
      (∀ (s : Shared) (H : Hp) (C : Addr) (cl : List (Str × Addr)) (fp : List Addr), PE (X.blk s H scope (compEnvC scope cl C X.env) fp) elt (rd (kt X) XC (fun _ _ _ _ => False) (evE (rec scope (relS scope sc) elt)))) ∧
      (∀ x, foldedSetIterable iter X.env x = pure x) := by
  refine ⟨sn_it F (fun e => (hR X fl sc W F tk e).1) tg iter, ?_, fun s H C cl fp => tPat_ok (F.blk s H scope cl C fp) hq, fun s H C cl fp => (hR _ _ _ _ (F.blk s H scope cl C fp) takes_blk elt).1, fun x => fold_none (isSet_ok hs) X.env x⟩
  rw [F.n, F.sc]
  exact blkC_ok hb
theorem lc_ifs (hR : SndE T N XC rec) (F : Fit T N XC X fl sc) {ifs : List Expr} {scope : Scope} (hb : ∀ a b r, ifs ≠ a :: b :: r) (s : Shared) (H : Hp) (C : Addr) (cl : List (Str × Addr)) (fp : List Addr) :
    PTs (X.blk s H scope (compEnvC scope cl C X.env) fp) ifs (rdT (kt X) XC (fun _ _ _ _ => False) (evE (ifsE rec scope sc ifs))) := by
  match ifs, hb with
  | [], _ => exact ⟨fun pins s1 σ H1 Q I ⟨S0, B, env, er, p⟩ => pts_nil.run pins s1 σ H1 Q I (p H1 (Same.refl _))⟩
  | [c], _ => exact pts_one (hR _ _ _ _ (F.blk s H scope cl C fp) takes_blk c).2
  | a :: b :: r, hb => exact absurd rfl (hb a b r)
theorem lcE_eq (q : Pat) (it : It) (c e : E) (own : List Nat) : evE (.lc e q it c own) = lcE q (evIt it) (evE c) (evE e) own := rfl
theorem idx_sub {q : Pat} {l : List (Str × Nat)} (h : ((patIdx q).all fun i => l.any fun p => p.2 == i) = true) : ∀ i ∈ patIdx q, i ∈ l.map (·.2) := fun i hi => by
  have := List.all_eq_true.mp h i hi
  obtain ⟨p, h1, h2⟩ := List.any_eq_true.mp this
  exact List.mem_map.mpr ⟨p, h1, eq_of_beq h2⟩
theorem sn_lcF (hR : SndE T N XC rec) (F : Fit T N XC X fl sc) (tk : Takes X W) {elt tg iter : Expr} {ifs : List Expr} {scope : Scope} {pos : Pos} : PE X (.ListComp elt [⟨tg, iter, ifs, 0⟩] scope pos) (rdF0 (kt X) XC W (evE (tLc N rec fl sc elt tg iter ifs scope))) := by
  have bad : PE X (.ListComp elt [⟨tg, iter, ifs, 0⟩] scope pos) (rdF0 (kt X) XC W (evE .bad)) := ⟨fun _ _ _ _ _ _ ⟨_, _, _, _, p⟩ => p.elim⟩
  unfold tLc
  cases hb : (blkC sc scope && !isSet iter) with
  | false => exact bad
  | true =>
    rw [cond_true]
    obtain ⟨h1, h2⟩ := Bool.and_eq_true_iff.mp hb
    split
    · rename_i q hq
      cases hi : ((patIdx q).all fun i => (ownOf N scope.names).any fun p => p.2 == i) with
      | false => exact bad
      | true =>
        rw [cond_true]
        obtain ⟨k1, k2, k3, k4, k5⟩ := lc_parts hR F tk (elt := elt) h1 (by simpa using h2) hq
        by_cases hif : ∀ a b r, ifs ≠ a :: b :: r
        · rw [lcE_eq]
          exact pe_imp (pe_lc F.calm F.nd' k1 k2 k3 (lc_ifs hR F hif) k4 k5) (lc_imp (X := X) (idx_sub hi) fun _ _ _ z => z)
        · have : ∃ a b r, ifs = a :: b :: r := by
            match ifs, hif with
            | [], h => exact absurd (fun a b r z => by cases z) h
            | [c], h => exact absurd (fun a b r z => by cases z) h
            | a :: b :: r, _ => exact ⟨a, b, r, rfl⟩
          obtain ⟨a, b, r, rfl⟩ := this
          rw [lcE_eq]
          refine pe_imp (pe_lc (tt := fun _ _ _ => False) F.calm F.nd' k1 k2 k3 (fun s H C cl fp => ⟨fun _ _ _ _ _ _ h => h.elim⟩) k4 k5) (lc_imp (X := X) (idx_sub hi) fun _ _ _ ⟨_, _, _, _, p⟩ => p.elim)
    · exact bad
theorem sn_step (hR : SndE T N XC rec) : SndE T N XC (stepE T N rec) := by
  intro X fl sc W F tk e
  have hB : ∀ e, Both X XC W e (rec fl sc e) := hR X fl sc W F tk
  have hE : ∀ e, PE X e (rd (kt X) XC W (evE (rec fl sc e))) := fun e => (hB e).1
  have val : ∀ {m : E}, PE X e (rd (kt X) XC W (evE m)) → (∀ whole, isTrue e X.env whole = (do let v ← whole; standAt e.pos; holding [v] (truthy v))) → Both X XC W e m := fun {m} h q => ⟨h, t_val h q⟩
  cases e with
  | Name x p => exact val (sn_name F) fun _ => rfl
  | Constant c j p => exact val sn_const fun _ => rfl
  | BinOp a o b p =>
    refine val ?_ fun _ => rfl
    show PE X _ (rd (kt X) XC W (evE (match binO o with | some o => .bin o (rec fl sc a) (rec fl sc b) | none => .bad)))
    cases h : binO o with
    | none => exact bad_e
    | some o' =>
      have := binO_ok h
      subst this
      exact s_bin (hE a) (hE b)
  | UnaryOp o a p =>
    cases o with
    | USub => exact val (s_neg (hE a)) fun _ => rfl
    | Not => exact ⟨s_not (hE a), t_not (hB a).2⟩
    | _ => exact both_bad
  | BoolOp op vs p =>
    obtain ⟨h1, h2⟩ := sn_bool (p := p) hB op vs
    exact ⟨h1, h2.pt⟩
  | Compare a ops bs p => exact sn_cmp F hE
  | IfExp c a b p => exact ⟨s_ite (hB c).2 (hE a) (hE b), t_ite (hB c).2 (hB a).2 (hB b).2⟩
  | Tuple es k p =>
    refine val ?_ fun _ => rfl
    show PE X _ (rd (kt X) XC W (evE (cond (noStars es && decide (es.length ≤ 1000)) (.tup (mapEs (rec fl sc) es)) .bad)))
    cases h : (noStars es && decide (es.length ≤ 1000)) with
    | false => exact bad_e
    | true =>
      obtain ⟨h1, h2⟩ := Bool.and_eq_true_iff.mp h
      exact s_tup (of_decide_eq_true h2) (fun env ds e => es_len e) (sn_es hE es)
  | List es p =>
    refine val ?_ fun _ => rfl
    show PE X _ (rd (kt X) XC W (evE (cond (noStars es && decide (es.length ≤ 1000)) (.lst (mapEs (rec fl sc) es)) .bad)))
    cases h : (noStars es && decide (es.length ≤ 1000)) with
    | false => exact bad_e
    | true =>
      obtain ⟨h1, h2⟩ := Bool.and_eq_true_iff.mp h
      exact s_lst (of_decide_eq_true h2) (fun env ds e => es_len e) (sn_es hE es)
  | Dict ks vs p => exact val (rd_of_F (sn_dict F hE)) fun _ => rfl
  | Subscript a i p => exact val (sn_sub F hE) fun _ => rfl
  | Call f args kws pos =>
    cases kws with
    | cons _ _ => exact both_bad
    | nil =>
      cases f with
      | Name x p => exact val (sn_callN F tk hE) fun _ => rfl
      | Attribute o m apos => exact val (sn_meth F hE) fun _ => rfl
      | _ => exact both_bad
  | ListComp elt gens scope pos =>
    cases gens with
    | nil => exact both_bad
    | cons g r =>
      cases r with
      | cons _ _ => exact both_bad
      | nil =>
        obtain ⟨tg, iter, ifs, as⟩ := g
        show Both X XC W _ (cond (as == 0) (tLc N rec fl sc elt tg iter ifs scope) .bad)
        cases h : as == 0 with
        | false => exact both_bad
        | true =>
          have := eq_of_beq h
          subst this
          exact val (rd_of_F (sn_lcF hR F tk)) fun _ => rfl
  | _ => exact both_bad
theorem sn_E : ∀ n, SndE T N XC (tE T N n)
  | 0 => fun _ _ _ _ _ _ _ => both_bad
  | n + 1 => sn_step (sn_E n)
end
end PI
end
section
/-! From the model's syntax to mine; statements. -/
namespace PI
open PySem PySem.Spec PyProof.Rows L2
/-! ### the names that a statement reads, not only looks into -/
def readB (f : Expr → List Str) : Expr → List Str
  | .Name _ _ => []
  | e => f e
def reads : Nat → Expr → List Str
  | 0, _ => []
  | n + 1, e => match e with
    | .Name x _ => [x]
    | .BoolOp _ vs _ => vs.flatMap (reads n)
    | .BinOp a _ b _ => reads n a ++ reads n b
    | .UnaryOp _ a _ => reads n a
    | .IfExp c a b _ => reads n c ++ (reads n a ++ reads n b)
    | .Tuple es _ _ => es.flatMap (reads n)
    | .List es _ => es.flatMap (reads n)
    | .Dict ks vs _ => (ks.flatMap fun k => match k with | some e => reads n e | none => []) ++ vs.flatMap (reads n)
    | .Compare a ops bs _ => (match ops, bs with
      | [.Eq], [b] => cond (isNilL b) (readB (reads n) a) (reads n a)
      | [.NotEq], [b] => cond (isNilL b) (readB (reads n) a) (reads n a)
      | _, _ => reads n a) ++ (match ops with
      | [.In] => bs.flatMap (readB (reads n))
      | [.NotIn] => bs.flatMap (readB (reads n))
      | _ => bs.flatMap (reads n))
    | .Call f args _ _ => match f with
      | .Name x _ => cond (x == ("len" : Str)) (args.flatMap (readB (reads n))) (args.flatMap (reads n))
      | .Attribute o m _ => cond (m == ("values" : Str)) (reads n o) (readB (reads n) o) ++ args.flatMap (reads n)
      | _ => []
    | .Subscript a i _ => match i with
      | .Slice none none (some _) _ => readB (reads n) a
      | .Slice lo hi _ _ => reads n a ++ ((match lo with | some e => reads n e | none => []) ++ (match hi with | some e => reads n e | none => []))
      | _ => readB (reads n) a ++ reads n i
    | .ListComp elt gens _ _ => reads n elt ++ gens.flatMap fun g => reads n g.iter ++ g.ifs.flatMap (reads n)
    | _ => []
def readsS : Stmt → List Str
  | .Expr e _ => reads 30 e
  | .Return (some e) _ => reads 30 e
  | .Assign [.Subscript _ k _] e _ => reads 30 k ++ reads 30 e
  | .Assign _ e _ => reads 30 e
  | .AugAssign _ _ e _ => reads 30 e
  | .If c _ _ _ => reads 30 c
  | .For _ e _ _ _ => reads 30 e
  | _ => []
def frzOf (N : List Str) (M : List Nat) (st : Stmt) : List Nat := M.filter fun i => (readsS st).any fun x => match ixOf x 0 N with
  | some j => j == i
  | none => false
def addFrz : List Nat → Ss → Ss
  | [], r => r
  | i :: is, r => .cons (.frz i) (addFrz is r)
def mapSs (N : List Str) (M : List Nat) (f : Stmt → S) : List Stmt → Ss
  | [] => .nil
  | st :: r => addFrz (frzOf N M st) (.cons (f st) (mapSs N M f r))
def isComp : Expr → Bool
  | .ListComp .. => true
  | .SetComp .. => true
  | .DictComp .. => true
  | _ => false
def isLc : Expr → Bool
  | .ListComp .. => true
  | _ => false
def isNew : Expr → Bool
  | .List .. => true
  | .ListComp .. => true
  | .Dict .. => true
  | _ => false
def isStrC : Expr → Bool
  | .Constant (.str _) _ _ => true
  | _ => false
def nmB (sc : Scope) (line : Nat) : Expr → Option Str
  | .Name id pos => if sc.names.lookup id == some .local && pos.line == line then some id else none
  | _ => none
/-- what the library's swapped stores come to -/
def swC (sc : Scope) (ts vs : List Expr) : Option (Option (List Str)) :=
  if !(ts.length == 2 || ts.length == 3) || vs.length != ts.length || false then some none else
  if vs.any isStar then some none else
  if (ts.filterMap (nmB sc ((ts.head?.map (·.pos.line)).getD 0))).length != ts.length || (ts.filterMap (nmB sc ((ts.head?.map (·.pos.line)).getD 0))).eraseDups.length != (ts.filterMap (nmB sc ((ts.head?.map (·.pos.line)).getD 0))).length then some none else
  if vs.all (foldedForSure 8) then some none else
  if vs.all (constantsAlone 8) then none else some (some (ts.filterMap (nmB sc ((ts.head?.map (·.pos.line)).getD 0))))
section
variable (T : Tab) (N : List Str) (M : List Nat)
/-- a, b = .. -/
def tUnp (rc : Expr → E) (fl sc : Scope) (ts : List Expr) (v : Expr) : S := match tgIxs N fl sc ts with
  | none => .bad
  | some is => match v with
    | .Tuple vs k p => match swC sc ts vs with
      | none => .bad
      | some none => .unp is (rc (.Tuple vs k p))
      | some (some _) => match ts, vs, is with
        | [.Name x _, .Name y _], [_, _], [i, j] => cond ((locL sc x && locL sc y) && !(i == j)) (match vs with
          | [a, b] => cond ((isNew a && !isStar b) && M.any fun l => l == i) (.own2 i j (rc a) (rc b)) (.unp is (rc (.Tuple vs k p)))
          | _ => .bad) .bad
        | _, _, _ => .bad
    | v => .unp is (rc v)
where
  locL (sc : Scope) (x : Str) : Bool := sc.names.lookup x == some .local
def tAsg1 (rc : Expr → E) (fl sc : Scope) (tg v : Expr) : S := match tg with
  | .Name x _ => match tgIx N fl sc x with
    | some i => cond (isNew v && M.any fun j => j == i) (.own i (rc v)) (cond (isComp v && !isLc v) .bad (.set i (rc v)))
    | none => .bad
  | .Tuple ts _ _ => tUnp N M rc fl sc ts v
  | .Subscript o k _ => match o with
    | .Name x _ => cond ((!oddB x && visB sc x) && (!isSlice k && !isComp v)) (match ixOf x 0 N with
      | some i => .stk i (rc k) (rc v)
      | none => .bad) .bad
    | _ => .bad
  | _ => .bad
def tMut (rc : Expr → E) (sc : Scope) (x m : Str) (apos cpos : Pos) (a : Expr) : Option S := cond (((!oddB x && visB sc x) && !isStar a) && (apos.endLine == cpos.line)) (match ixOf x 0 N with
  | some i => cond (m == ("append" : Str)) (some (.app i (rc a))) (cond (m == ("extend" : Str)) (some (.ext i (rc a))) none)
  | none => none) none
def tExpr (rc : Expr → E) (sc : Scope) (e : Expr) : S := match e with
  | .Constant (.str _) _ _ => .pas
  | .Call (.Attribute (.Name x p) m apos) [a] [] cpos => match tMut N rc sc x m apos cpos a with
    | some s => s
    | none => .exp (rc (.Call (.Attribute (.Name x p) m apos) [a] [] cpos))
  | e => cond (isComp e) .bad (.exp (rc e))
def tRse (sc : Scope) (e : Expr) : S := match e with
  | .Call (.Name x _) [.Constant (.str _) _ _] [] _ => cond (glB sc x && !oddB x) (match find x T.exs with
    | some c => .rse c
    | none => .bad) .bad
  | _ => .bad
/-- except X: y = a constant -/
def tHd (fl sc : Scope) : ExceptHandler → Option (Nat × Nat × D)
  | .ExceptHandler (some (.Name x _)) none [.Assign [.Name y _] (.Constant c _ _) _] _ => cond (glB sc x && !oddB x) ((find x T.exs).bind fun k => (tgIx N fl sc y).bind fun i => match tConst c with
    | .con d => some (k, i, d)
    | _ => none) none
  | _ => none
def tHds (fl sc : Scope) : List ExceptHandler → Option (List (Nat × Nat × D))
  | [] => some []
  | h :: r => (tHd T N fl sc h).bind fun x => (tHds fl sc r).map (x :: ·)
def stepS (rc : Expr → E) (fl sc : Scope) (f : Stmt → S) (st : Stmt) : S := match st with
  | .Pass _ => .pas
  | .Return v _ => match v with
    | some e => .ret (rc e)
    | none => .ret0
  | .Expr e _ => tExpr N rc sc e
  | .Assign tgs v _ => match tgs with
    | [tg] => tAsg1 N M rc fl sc tg v
    | _ => .bad
  | .AugAssign tg o v _ => match tg, o with
    | .Name x _, .Add => match tgIx N fl sc x with
      | some i => .aug i .add (rc v)
      | none => .bad
    | _, _ => .bad
  | .If c a b _ => .ite (rc c) (mapSs N M f a) (mapSs N M f b)
  | .For tg it body els _ => match els with
    | [] => cond (isSet it) .bad (match tPat N fl sc tg with
      | some p => .for p (tIt rc sc tg it) (mapSs N M f body)
      | none => .bad)
    | _ => .bad
  | .While c body els _ => match els with
    | [] => .whl (rc c) (mapSs N M f body)
    | _ => .bad
  | .Raise (some e) none _ => tRse T sc e
  | .Try body hs [] [] _ => match hs with
    | [] => .bad
    | _ :: _ => match tHds T N fl sc hs with
      | some l => .try (mapSs N M f body) l
      | none => .bad
  | _ => .bad
def tS (rc : Expr → E) (fl sc : Scope) : Nat → Stmt → S
  | 0 => fun _ => .bad
  | n + 1 => stepS T N M rc fl sc (tS rc fl sc n)
/-- a def's body -/
def tBody (sc : Scope) (body : List Stmt) : Ss := mapSs N M (tS T N M (tE T N 40 sc sc) sc sc 20) body
end
end PI
end
section
/-! The translation of statements is sound. -/
namespace PI
open PySem PySem.Spec PyProof.Rows L2
/-- an exception's class that can be made with a text -/
def ExOk (X : Cx) (XC : Nat → Value → Prop) (x : Str) (c : Nat) : Prop :=
  ∃ (C : Addr) (B newId initId : String) (bmB : List Value), ExcBaseFacts B newId initId bmB ∧ PySem.W.excIn X.K C bmB newId = true ∧ X.mg x = some (.ref C) ∧ PySem.W.keepIn X.K (.ref C) = true ∧ Raises X (.ref C) ∧ XC c (.ref C)
structure FitS (T : Tab) (N : List Str) (XC : Nat → Value → Prop) (X : Cx) (fl sc : Scope) (W : WX) : Prop where
  e : Fit T N XC X fl sc
  takes : Takes X W
  pass : PassesOwn (model X.prog X.w) X.A X.env X.xe
  stack : X.stack = X.env :: X.outer
  frame : X.env.frame = some X.env.locals
  kind : sc.kind = .function
  exs : ∀ x c, (x, c) ∈ T.exs → ExOk X XC x c
  one : ∀ c, ∀ v v', XC c v → XC c v' → v = v'
  exT : ∀ c c' v v', XC c v → XC c' v' → PySem.W.exmOne X.K v v' = some (c' == c)
section
variable {T : Tab} {N : List Str} {XC : Nat → Value → Prop} {X : Cx} {fl sc : Scope} {W : WX} {rc : Expr → E} {M : List Nat}
theorem FitS.tr (F : FitS T N XC X fl sc W) {pn : List (Addr × Obj)} {xe : Value → Shared → Prop} {W' : WX} (tk : Takes (X.tr pn xe) W') (hp : PassesOwn (model X.prog X.w) X.A X.env xe) : FitS T N XC (X.tr pn xe) fl sc W' :=
  ⟨⟨F.e.calm, F.e.hu, F.e.n, F.e.nd, F.e.sc, F.e.fl, F.e.blt, F.e.fns, F.e.cns⟩, tk, hp, F.stack, F.frame, F.kind, F.exs, F.one, F.exT⟩
theorem FitS.blk (F : FitS T N XC X fl sc W) : X.env.blockKind = .function := by
  unfold Env.blockKind
  rw [F.e.sc, F.kind]
  rfl
theorem swaps_plain {e : Expr} (h : isComp e = false) (tg : Option Expr) (l : Nat) (env : Env) : swapsWith e tg l env = pure false := by
  cases e <;> first | rfl | cases h
theorem swaps_sub {e o i : Expr} {p : Pos} (l : Nat) (env : Env) (h : isComp e = false) : swapsWithSole [.Subscript o i p] e l env = pure false := swaps_plain h (some (.Subscript o i p)) l env
theorem swaps_tup {e : Expr} {ts : List Expr} {k : Nat} {p : Pos} (l : Nat) (env : Env) : swapsWithSole [.Tuple ts k p] e l env = pure false := by
  show swapsWith e (some (.Tuple ts k p)) l env = pure false
  cases e <;> rfl
theorem stores_none {ts : List Expr} {k : Nat} {p : Pos} {e : Expr} (h : ∀ vs k p, e ≠ .Tuple vs k p) (env : Env) : swappedStores [.Tuple ts k p] e env = pure none := by
  cases e <;> first | rfl | exact absurd rfl (h _ _ _)
theorem stores_sub {o i : Expr} {p : Pos} {e : Expr} (env : Env) : swappedStores [.Subscript o i p] e env = pure none := by
  cases e <;> rfl
theorem swC_ok {ts vs : List Expr} {k k2 : Nat} {p p2 : Pos} {env : Env} {r : Option (List Str)} (hk : env.blockKind = .function) (hs : env.scope = sc) (h : swC sc ts vs = some r) : swappedStores [.Tuple ts k p] (.Tuple vs k2 p2) env = pure r := by
  subst hs
  have hb : (env.blockKind != .function) = false := by rw [hk]; rfl
  unfold swC at h
  show (do
    if !(ts.length == 2 || ts.length == 3) || vs.length != ts.length || env.blockKind != .function then return none
    if vs.any isStar then return none
    if (ts.filterMap (nmB env.scope ((ts.head?.map (·.pos.line)).getD 0))).length != ts.length || (ts.filterMap (nmB env.scope ((ts.head?.map (·.pos.line)).getD 0))).eraseDups.length != (ts.filterMap (nmB env.scope ((ts.head?.map (·.pos.line)).getD 0))).length then return none
    if vs.all (foldedForSure 8) then return none
    if vs.all (constantsAlone 8) then unsupported "assign.tuple-of-constant-expressions:order-of-the-stores"
    return some (ts.filterMap (nmB env.scope ((ts.head?.map (·.pos.line)).getD 0))) : Sem (Option (List Str))) = pure r
  rw [hb]
  generalize ts.filterMap (nmB env.scope ((ts.head?.map (·.pos.line)).getD 0)) = nms at h ⊢
  split at h
  · rename_i c; cases h; rw [if_pos c]
  · rename_i c
    rw [if_neg c]
    split at h
    · rename_i c; cases h; rw [if_pos c]
    · rename_i c
      rw [if_neg c]
      split at h
      · rename_i c; cases h; rw [if_pos c]
      · rename_i c
        rw [if_neg c]
        split at h
        · rename_i c; cases h; rw [if_pos c]
        · rename_i c
          rw [if_neg c]
          split at h
          · cases h
          · rename_i c; cases h; rw [if_neg c]
/-- new things -/
theorem sn_new {rec : Scope → Scope → Expr → E} (hR : SndE T N XC rec) (F : Fit T N XC X fl sc) (tk : Takes X W) {e : Expr} (h : isNew e = true) : PE X e (rdF0 (kt X) XC W (evE (stepE T N rec fl sc e))) := by
  have bad : ∀ {e : Expr}, PE X e (rdF0 (kt X) XC W (evE .bad)) := fun {e} => ⟨fun _ _ _ _ _ _ ⟨_, _, _, _, p⟩ => p.elim⟩
  have hE : ∀ e, PE X e (rd (kt X) XC W (evE (rec fl sc e))) := fun e => (hR X fl sc W F tk e).1
  cases e with
  | List es p =>
    show PE X _ (rdF0 (kt X) XC W (evE (cond (noStars es && decide (es.length ≤ 1000)) (.lst (mapEs (rec fl sc) es)) .bad)))
    cases h : (noStars es && decide (es.length ≤ 1000)) with
    | false => exact bad
    | true =>
      obtain ⟨h1, h2⟩ := Bool.and_eq_true_iff.mp h
      exact f_lst (of_decide_eq_true h2) (fun env ds e => es_len e) (sn_es hE es)
  | ListComp elt gens scope pos =>
    cases gens with
    | nil => exact bad
    | cons g r =>
      cases r with
      | cons _ _ => exact bad
      | nil =>
        obtain ⟨tg, iter, ifs, as⟩ := g
        show PE X _ (rdF0 (kt X) XC W (evE (cond (as == 0) (tLc N rec fl sc elt tg iter ifs scope) .bad)))
        cases h : as == 0 with
        | false => exact bad
        | true =>
          have := eq_of_beq h
          subst this
          exact sn_lcF hR F tk
  | Dict ks vs p => exact sn_dict F hE
  | _ => cases h
theorem setF_imp (own : Bool) {f : En → R D} (hf : ∀ env d, f env = .ok d → ∃ ds, d = .list ds) {i : Nat} {Dn : Ends} {σ : L2.St} {H : Hp} (h : rdS (kt X) XC W (fun env => .of (f env) env fun d => .nx (setAt env i (cond own (.own d) (.val d)))) Dn σ H) : rdF0 (kt X) XC W f σ H (fun x H1 => gName i x σ H1 Dn.nx) := by
  obtain ⟨S0, B, env, er, p⟩ := h
  refine ⟨S0, B, env, er, ?_⟩
  have p := PostS.of er p
  cases hh : f env with
  | stuck => rw [hh] at p; exact p
  | exc c => rw [hh] at p; exact p
  | ok d =>
    rw [hh] at p
    intro H' s a ha o
    have k := p H' s
    cases own with
    | true => exact k _ H' (er.setOwn s ha o)
    | false =>
      obtain ⟨ds, rfl⟩ := hf env d hh
      refine k _ H' ((er.same s).set (OwnR.repL (fun q => ?_) (fun _ q => .inl q) o))
      obtain ⟨u, z⟩ := er.there q
      rw [ha] at z; cases z
theorem lcE_list {p : Pat} {it : En → R (List D)} {c e : En → R D} {own : List Nat} : ∀ (env : En) (d : D), lcE p it c e own env = .ok d → ∃ ds, d = .list ds := fun env d h => by
  unfold lcE at h
  revert h
  generalize (own.all fun i => noOwn (slotAt env i)) = bo
  intro h
  cases bo with
  | false => cases h
  | true =>
    rw [cond_true] at h
    cases hi : it env with
    | stuck => rw [hi] at h; cases h
    | exc _ => rw [hi] at h; cases h
    | ok xs =>
      rw [hi, ok_bind] at h
      cases hl : lcGo (lcF p c e own env) xs with
      | none => rw [hl] at h; cases h
      | some ys => rw [hl] at h; cases h; exact ⟨ys, rfl⟩
/-- name = e, whatever e -/
theorem sn_set1 {rec : Scope → Scope → Expr → E} (hR : SndE T N XC rec) (F : FitS T N XC X fl sc W) {x : Str} {i : Nat} {p2 pos : Pos} {v : Expr} (own : Bool) (hx : tgIx N fl sc x = some i) (hn : own = true → isNew v = true) (hc : isComp v = true → ∃ elt gens scope p, v = .ListComp elt gens scope p) :
    PS X (.Assign [.Name x p2] v pos) (rdS (kt X) XC W (evS n (cond own (.own i (stepE T N rec fl sc v)) (.set i (stepE T N rec fl sc v))))) := by
  have tk := F.takes
  have tg := tgIx_ok F.e hx
  have hB : ∀ e, Both X XC W e (stepE T N rec fl sc e) := sn_step hR X fl sc W F.e tk
  by_cases hsw : swapsWith v (some (.Name x p2)) pos.line X.env = pure false
  · cases own with
    | true => exact ss_own F.e.nd' tg hsw (sn_new hR F.e tk (hn rfl))
    | false => exact ss_set F.e.nd' tg hsw (hB v).1
  · have hcomp : isComp v = true := by
      cases h : isComp v with
      | true => rfl
      | false => exact absurd (swaps_plain h _ _ _) hsw
    obtain ⟨elt, gens, scope, p, rfl⟩ := hc hcomp
    have bad : PS X (.Assign [.Name x p2] (.ListComp elt gens scope p) pos) (rdS (kt X) XC W (evS n (cond own (.own i .bad) (.set i .bad)))) := ⟨fun _ _ _ _ _ _ ⟨_, _, _, _, q⟩ => by cases own <;> exact q.elim⟩
    cases gens with
    | nil => exact bad
    | cons g r =>
      cases r with
      | cons _ _ => exact bad
      | nil =>
        obtain ⟨tgt, iter, ifs, as⟩ := g
        show PS X _ (rdS (kt X) XC W (evS n (cond own (.own i (cond (as == 0) (tLc N rec fl sc elt tgt iter ifs scope) .bad)) (.set i (cond (as == 0) (tLc N rec fl sc elt tgt iter ifs scope) .bad)))))
        cases h : as == 0 with
        | false => exact bad
        | true =>
          have := eq_of_beq h
          subst this
          simp only [cond_true]
          unfold tLc
          cases hb : (blkC sc scope && !isSet iter) with
          | false => exact bad
          | true =>
            rw [cond_true]
            obtain ⟨h1, h2⟩ := Bool.and_eq_true_iff.mp hb
            split
            · rename_i q hq
              cases hi : ((patIdx q).all fun i => (ownOf N scope.names).any fun p => p.2 == i) with
              | false => exact bad
              | true =>
                rw [cond_true]
                obtain ⟨k1, k2, k3, k4, k5⟩ := lc_parts hR F.e tk (elt := elt) h1 (by simpa using h2) hq
                have hk : X.env.scope.kind = .function := by rw [F.e.sc]; exact F.kind
                -- the swap's conditions hold
                have hcond : X.env.scope.names.lookup x = some .local ∧ (p2.line == p.line) = true ∧ (scope.names.any fun (n, k) => n == x && (k == .local || k == .cell)) = false := by
                  have e : swapsWith (.ListComp elt [⟨tgt, iter, ifs, 0⟩] scope p) (some (.Name x p2)) pos.line X.env = pure (X.env.blockKind == .function && X.env.kindOf x == some .local && p2.line == p.line && !(scope.names.any fun (n, k) => n == x && (k == .local || k == .cell))) := rfl
                  rw [e] at hsw
                  cases hc : (X.env.blockKind == .function && X.env.kindOf x == some .local && p2.line == p.line && !(scope.names.any fun (n, k) => n == x && (k == .local || k == .cell))) with
                  | false => rw [hc] at hsw; exact absurd rfl hsw
                  | true =>
                    simp only [Bool.and_eq_true, Bool.not_eq_true'] at hc
                    exact ⟨eq_of_beq hc.1.1.2, hc.1.2, hc.2⟩
                obtain ⟨c1, c2, c3⟩ := hcond
                have sw := sw_true (elt := elt) (gs := [⟨tgt, iter, ifs, 0⟩]) (l := pos.line) hk c1 c2 c3
                have form : evS n (cond own (.own i (.lc (rec scope (relS scope sc) elt) q (tIt (rec fl sc) sc tgt iter) (ifsE rec scope sc ifs) ((ownOf N scope.names).map (·.2)))) (.set i (.lc (rec scope (relS scope sc) elt) q (tIt (rec fl sc) sc tgt iter) (ifsE rec scope sc ifs) ((ownOf N scope.names).map (·.2))))) =
                    fun env => .of (lcE q (evIt (tIt (rec fl sc) sc tgt iter)) (evE (ifsE rec scope sc ifs)) (evE (rec scope (relS scope sc) elt)) ((ownOf N scope.names).map (·.2)) env) env fun d => .nx (setAt env i (cond own (.own d) (.val d))) := by cases own <;> rfl
                rw [form]
                by_cases hif : ∀ a b r, ifs ≠ a :: b :: r
                · exact ps_imp (ps_setLc F.e.calm F.e.nd' tg.hi c1 sw k1 k2 k3 (lc_ifs hR F.e hif) k4 k5) fun Dn σ H z => lc_imp (X := X) (idx_sub hi) (fun _ _ _ z => z) σ H _ (setF_imp own lcE_list z)
                · have : ∃ a b r, ifs = a :: b :: r := by
                    match ifs, hif with
                    | [], h => exact absurd (fun a b r z => by cases z) h
                    | [c], h => exact absurd (fun a b r z => by cases z) h
                    | a :: b :: r, _ => exact ⟨a, b, r, rfl⟩
                  obtain ⟨a, b, r, rfl⟩ := this
                  exact ps_imp (ps_setLc (tt := fun _ _ _ => False) F.e.calm F.e.nd' tg.hi c1 sw k1 k2 k3 (fun s H C cl fp => ⟨fun _ _ _ _ _ _ h => h.elim⟩) k4 k5) fun Dn σ H z => lc_imp (X := X) (idx_sub hi) (fun _ _ _ ⟨_, _, _, _, p⟩ => p.elim) σ H _ (setF_imp own lcE_list z)
            · exact bad
theorem ss_par {f : En → R D} {x y : Str} {i j : Nat} {px py pt : Pos} {kk k2 : Nat} {pt2 pos : Pos} {a b : Expr} {g : En → R (List D)} (hc : X.calm = true) (hN : X.N.Nodup) (ti : TgOk X x i) (tj : TgOk X y j) (hij : i ≠ j) (hx : X.env.scope.names.lookup x = some .local) (hy : X.env.scope.names.lookup y = some .local)
    (hw : swappedStores [.Tuple [.Name x px, .Name y py] kk pt] (.Tuple [a, b] k2 pt2) X.env = pure (some [x, y])) (hf : ∀ env, f env = R.bind (g env) fun ds => .ok (.tuple ds)) (ha : PA X [a, b] (rdA (kt X) XC W g)) :
    PS X (.Assign [.Tuple [.Name x px, .Name y py] kk pt] (.Tuple [a, b] k2 pt2) pos) (rdS (kt X) XC W fun env => .of (f env) env fun d => .lf (patSet (.tp [i, j]) d env) .nx) := by
  refine ps_imp (ps_par hc hN ti.hi tj.hi hij hx hy ha hw) fun Dn σ H ⟨S0, B, env, er, p⟩ => ⟨S0, B, env, er, ?_⟩
  have q := PostS.of er p
  rw [hf] at q
  refine q.bind.imp fun ds H1 s1 k vs rvs => ?_
  obtain ⟨env', e, k⟩ := (k.here).lf
  match ds, e with
  | [d1, d2], e =>
    obtain ⟨v, w, rfl, r1, r2⟩ := rvs.pair
    cases e
    have er1 := (er.same s1).set (i := i) r1
    exact ⟨v, w, rfl, k _ H1 (er1.set (r2.keep (.of_same (Same.refl _)) fun a h => (er.same s1).OS_set h))⟩
  | [], e => cases e
  | [_], e => cases e
  | _ :: _ :: _ :: _, e => cases e
theorem OS_own_sub {S0 : Addr → Prop} {env : En} {σ : L2.St} {i : Nat} {d : D} {a b : Addr} (h : OS S0 (setAt env i (.own d)) (σ.set i (some (.ref a))) b) : OS (fun c => S0 c ∨ c = a) env σ b := by
  rcases h with h | ⟨j, f, h1, h2⟩
  · exact .inl (.inl h)
  · by_cases hj : i = j
    · subst hj
      by_cases his : i < σ.length
      · rw [List.getElem?_set_self his] at h2
        injection h2 with h2; injection h2 with h2; injection h2 with h2
        exact .inl (.inr h2.symm)
      · rw [List.getElem?_eq_none (by rw [List.length_set]; omega)] at h2
        cases h2
    · rw [slotAt_setAt_ne hj] at h1
      rw [List.getElem?_set_ne hj] at h2
      exact .inr ⟨j, f, h1, h2⟩
theorem new_star {e : Expr} (h : isNew e = true) : ∀ e' p, e ≠ .Starred e' p := by rintro e' p rfl; cases h
/-- x, y = a new thing, b -/
theorem ss_own2 {f g : En → R D} {x y : Str} {i j : Nat} {px py pt : Pos} {kk k2 : Nat} {pt2 pos : Pos} {a b : Expr} (hc : X.calm = true) (hN : X.N.Nodup) (ti : TgOk X x i) (tj : TgOk X y j) (hij : i ≠ j) (hx : X.env.scope.names.lookup x = some .local) (hy : X.env.scope.names.lookup y = some .local)
    (hw : swappedStores [.Tuple [.Name x px, .Name y py] kk pt] (.Tuple [a, b] k2 pt2) X.env = pure (some [x, y])) (na : ∀ e' p, a ≠ .Starred e' p) (nb : ∀ e' p, b ≠ .Starred e' p) (ha : PE X a (rdF0 (kt X) XC W f)) (hb : PE X b (rd (kt X) XC W g)) :
    PS X (.Assign [.Tuple [.Name x px, .Name y py] kk pt] (.Tuple [a, b] k2 pt2) pos) (rdS (kt X) XC W fun env => .of (f env) env fun d => .of (g env) env fun e => .nx (setAt (setAt env i (.own d)) j (.val e))) := by
  refine ps_imp (ps_par hc hN ti.hi tj.hi hij hx hy (pa_cons ha (pa_cons hb pa_nil (star_of nb [] X.env)) (star_of na [b] X.env)) hw) fun Dn σ H ⟨S0, B, env, er, p⟩ => ⟨S0, B, env, er, ?_⟩
  refine (PostS.of er p).imp fun d H1 s1 k a' ha' o => ⟨_, B, env, er.block ha' s1 (let ⟨u, q, _⟩ := o.there; ⟨u, q⟩), ?_⟩
  refine (PostS.of (er.same s1) k).imp fun e H2 s2 k2 w rw => ⟨.ref a', w, rfl, ?_⟩
  have er2 := er.setOwn (i := i) (s1.trans s2) ha' (o.keep (.of_same s2) (fun _ h => h) fun u q => s2 _ _ q)
  exact k2 _ H2 (er2.set (rw.keep (.of_same (Same.refl _)) fun b h => OS_own_sub h))
theorem badS {st : Stmt} {n : Nat} : PS X st (rdS (kt X) XC W (evS n .bad)) := ⟨fun _ _ _ _ _ _ ⟨_, _, _, _, p⟩ => p.elim⟩
theorem sn_unp {rec : Scope → Scope → Expr → E} (hR : SndE T N XC rec) (F : FitS T N XC X fl sc W) {ts : List Expr} {v : Expr} {k : Nat} {p pos : Pos} {n : Nat} : PS X (.Assign [.Tuple ts k p] v pos) (rdS (kt X) XC W (evS n (tUnp N M (stepE T N rec fl sc) fl sc ts v))) := by
  have tk := F.takes
  have hB : ∀ e, Both X XC W e (stepE T N rec fl sc e) := sn_step hR X fl sc W F.e tk
  unfold tUnp
  split
  · exact badS
  · rename_i is his
    have tgs := tgIxs_ok F.e his
    have pg := g_tup (k := k) (p := p) F.e.calm F.e.nd' tgs
    split
    · rename_i vs k2 p2
      split
      · exact badS
      · rename_i hsw
        exact ss_unp (hB _).1 pg (swaps_tup _ _) (swC_ok F.blk F.e.sc hsw) rfl
      · rename_i nms hsw
        split
        · rename_i x px y py a b i j
          cases hc : ((tUnp.locL sc x && tUnp.locL sc y) && !(i == j)) with
          | false => exact badS
          | true =>
            rw [cond_true]
            simp only [Bool.and_eq_true, Bool.not_eq_true'] at hc
            obtain ⟨⟨h1, h2⟩, h3⟩ := hc
            have hx : X.env.scope.names.lookup x = some .local := by rw [F.e.sc]; exact eq_of_beq h1
            have hy : X.env.scope.names.lookup y = some .local := by rw [F.e.sc]; exact eq_of_beq h2
            have hij : i ≠ j := fun z => by rw [z] at h3; simp at h3
            have hw := swC_ok (k := k) (k2 := k2) (p := p) (p2 := p2) F.blk F.e.sc hsw
            cases tgs with
            | cons t1 ts' =>
              cases ts' with
              | cons t2 _ =>
                have hn : nms = [x, y] := by
                  unfold swC at hsw
                  split at hsw
                  · cases hsw
                  · split at hsw
                    · cases hsw
                    · split at hsw
                      · cases hsw
                      · rename_i c
                        split at hsw
                        · cases hsw
                        · split at hsw
                          · cases hsw
                          · cases hsw
                            have c1 : (List.filterMap (nmB sc ((([Expr.Name x px, Expr.Name y py] : List Expr).head?.map (·.pos.line)).getD 0)) [.Name x px, .Name y py]).length = 2 := by
                              simp only [Bool.or_eq_true, bne_iff_ne, ne_eq, not_or, Decidable.not_not] at c
                              exact c.1
                            generalize (([Expr.Name x px, Expr.Name y py] : List Expr).head?.map (·.pos.line)).getD 0 = line at c1 ⊢
                            simp only [List.filterMap_cons, List.filterMap_nil, nmB] at c1 ⊢
                            split at c1 <;> split at c1 <;> simp_all
                rw [hn] at hw
                show PS X _ (rdS (kt X) XC W (evS n (cond ((isNew a && !isStar b) && M.any fun l => l == i) (.own2 i j (stepE T N rec fl sc a) (stepE T N rec fl sc b)) (.unp [i, j] (stepE T N rec fl sc (.Tuple [a, b] k2 p2))))))
                cases ho : ((isNew a && !isStar b) && M.any fun l => l == i) with
                | true =>
                  rw [cond_true]
                  simp only [Bool.and_eq_true, Bool.not_eq_true'] at ho
                  obtain ⟨⟨o1, o2⟩, _⟩ := ho
                  exact ss_own2 F.e.calm F.e.nd' t1 t2 hij hx hy hw (new_star o1) (isStar_ok o2) (sn_new hR F.e tk o1) (hB b).1
                | false =>
                rw [cond_false]
                by_cases hfit : (noStars [a, b] && decide (([a, b] : List Expr).length ≤ 1000)) = true
                · have e : stepE T N rec fl sc (.Tuple [a, b] k2 p2) = .tup (mapEs (rec fl sc) [a, b]) := by
                    show cond (noStars [a, b] && decide (([a, b] : List Expr).length ≤ 1000)) (E.tup (mapEs (rec fl sc) [a, b])) E.bad = _
                    rw [hfit]; rfl
                  rw [e]
                  exact ss_par F.e.calm F.e.nd' t1 t2 hij hx hy hw (fun env => rfl) (sn_es (fun e => (hR X fl sc W F.e tk e).1) [a, b])
                · have e : stepE T N rec fl sc (.Tuple [a, b] k2 p2) = .bad := by
                    show cond (noStars [a, b] && decide (([a, b] : List Expr).length ≤ 1000)) (E.tup (mapEs (rec fl sc) [a, b])) E.bad = _
                    rw [Bool.not_eq_true] at hfit
                    rw [hfit]; rfl
                  rw [e]
                  exact ⟨fun _ _ _ _ _ _ ⟨_, _, _, _, p⟩ => p.elim⟩
        · exact badS
    · rename_i hv
      exact ss_unp (hB _).1 pg (swaps_tup _ _) (stores_none hv X.env) rfl
theorem sn_asg1 {rec : Scope → Scope → Expr → E} (hR : SndE T N XC rec) (F : FitS T N XC X fl sc W) {tg v : Expr} {pos : Pos} {n : Nat} : PS X (.Assign [tg] v pos) (rdS (kt X) XC W (evS n (tAsg1 N M (stepE T N rec fl sc) fl sc tg v))) := by
  have tk := F.takes
  have hu := F.e.hu
  have hB : ∀ e, Both X XC W e (stepE T N rec fl sc e) := sn_step hR X fl sc W F.e tk
  unfold tAsg1
  split
  · rename_i x p
    split
    · rename_i i hi
      cases ho : (isNew v && M.any fun j => j == i) with
      | true =>
        rw [cond_true]
        obtain ⟨h1, _⟩ := Bool.and_eq_true_iff.mp ho
        exact sn_set1 hR F true hi (fun _ => h1) (fun hc => by
          cases v <;> first | exact ⟨_, _, _, _, rfl⟩ | (cases hc; done) | (cases h1; done))
      | false =>
        rw [cond_false]
        cases hc : (isComp v && !isLc v) with
        | true => exact badS
        | false =>
          rw [cond_false]
          exact sn_set1 hR F false hi (fun z => nomatch z) (fun hcv => by
            rw [hcv] at hc
            cases v <;> first | exact ⟨_, _, _, _, rfl⟩ | (cases hcv; done) | (cases hc; done))
    · exact badS
  · exact sn_unp hR F
  · rename_i o kx p
    split
    · rename_i x p2
      cases hc : ((!oddB x && visB sc x) && (!isSlice kx && !isComp v)) with
      | false => exact badS
      | true =>
        rw [cond_true]
        simp only [Bool.and_eq_true, Bool.not_eq_true'] at hc
        obtain ⟨⟨h1, h2⟩, h3, h4⟩ := hc
        obtain ⟨h5, h6⟩ := oddB_ok h1
        split
        · rename_i i hi
          exact ss_stk (by omega) (F.e.at hi) (F.e.vis h2) h5 h6 (isSlice_ok h3) (swaps_sub _ _ h4) (stores_sub _) (hB v).1 (hB kx).1
        · exact badS
    · exact badS
  · exact badS
theorem sn_expr {rec : Scope → Scope → Expr → E} (hR : SndE T N XC rec) (F : FitS T N XC X fl sc W) {e : Expr} {pos : Pos} {n : Nat} : PS X (.Expr e pos) (rdS (kt X) XC W (evS n (tExpr N (stepE T N rec fl sc) sc e))) := by
  have tk := F.takes
  have hB : ∀ e, Both X XC W e (stepE T N rec fl sc e) := sn_step hR X fl sc W F.e tk
  unfold tExpr
  split
  · exact ss_doc
  · rename_i x p m apos a cpos
    split
    · rename_i s hs
      unfold tMut at hs
      cases hc : (((!oddB x && visB sc x) && !isStar a) && (apos.endLine == cpos.line)) with
      | false => rw [hc] at hs; cases hs
      | true =>
        rw [hc, cond_true] at hs
        simp only [Bool.and_eq_true, Bool.not_eq_true'] at hc
        obtain ⟨⟨⟨h1, h2⟩, h3⟩, h4⟩ := hc
        obtain ⟨h5, h6⟩ := oddB_ok h1
        split at hs
        · rename_i i hi
          cases hm : m == ("append" : Str) with
          | true =>
            rw [hm, cond_true] at hs
            cases hs
            have := eq_of_beq hm
            subst this
            exact ss_app (F.e.at hi) (F.e.vis h2) h5 h6 (isStar_ok h3) h4 (hB a).1
          | false =>
            rw [hm, cond_false] at hs
            cases hm2 : m == ("extend" : Str) with
            | true =>
              rw [hm2, cond_true] at hs
              cases hs
              have := eq_of_beq hm2
              subst this
              exact ss_ext (F.e.at hi) (F.e.vis h2) h5 h6 (isStar_ok h3) h4 (hB a).1
            | false => rw [hm2] at hs; cases hs
        · cases hs
    · exact ss_exp (swaps_plain rfl _ _ _) (hB _).1
  · cases hc : isComp e with
    | true => exact badS
    | false => exact ss_exp (swaps_plain hc _ _ _) (hB _).1
theorem sn_rse (F : FitS T N XC X fl sc W) {e : Expr} {pos : Pos} {n : Nat} : PS X (.Raise (some e) none pos) (rdS (kt X) XC W (evS n (tRse T sc e))) := by
  unfold tRse
  split
  · rename_i x p m j p2 pos2
    cases hc : (glB sc x && !oddB x) with
    | false => exact badS
    | true =>
      rw [cond_true]
      obtain ⟨h1, h2⟩ := Bool.and_eq_true_iff.mp hc
      obtain ⟨h3, h4⟩ := oddB_ok (by simpa using h2)
      split
      · rename_i c hf
        obtain ⟨C, B, newId, initId, bmB, e1, e2, e3, e4, e5, e6⟩ := F.exs x c (find_mem hf)
        exact ps_imp (ps_raise F.e.calm F.takes (pmk_own e1 e2 e3 e4 e5 (F.e.gl h1) h3)) fun Dn σ H ⟨S0, B, env, er, p⟩ => p _ σ H e6 er
      · exact badS
  · exact badS
end
end PI
end
section
/-! Try, and all statements: the translation of a body is sound. -/
namespace PI
open PySem PySem.Spec PyProof.Rows L2
section
variable {T : Tab} {N : List Str} {XC : Nat → Value → Prop} {X : Cx} {fl sc : Scope} {W : WX} {rc : Expr → E} {M : List Nat}
/-- a clause -/
theorem sn_hd (F : FitS T N XC X fl sc W) {h : ExceptHandler} {c i : Nat} {d : D} (e : tHd T N fl sc h = some (c, i, d)) :
    ∃ (x : Str) (C : Value) (b₀ : Stmt) (suite : List Stmt) (np p : Pos), h = .ExceptHandler (some (.Name x np)) none (b₀ :: suite) p ∧ Names X x C ∧ XC c C ∧
      ∀ (a : Addr) (oe : Obj) (cls : Value) (dd : Option Addr) (pn : List (Addr × Obj)), Zc cls dd oe → (∃ vs, oe.data = .fields vs) → PSs (X.suite a ((a, oe) :: pn)) (b₀ :: suite) (rdS (kt X) XC W fun env => .nx (setAt env i (.val d))) := by
  unfold tHd at e
  split at e
  · rename_i x np y py k j pc pa ph
    cases hc : (glB sc x && !oddB x) with
    | false => rw [hc] at e; cases e
    | true =>
      rw [hc, cond_true] at e
      obtain ⟨h1, h2⟩ := Bool.and_eq_true_iff.mp hc
      obtain ⟨h3, _⟩ := oddB_ok (by simpa using h2)
      obtain ⟨c', hc', e⟩ := Option.bind_eq_some_iff.mp e
      obtain ⟨i', hi', e⟩ := Option.bind_eq_some_iff.mp e
      obtain ⟨C, B, newId, initId, bmB, e1, e2, e3, e4, e5, e6⟩ := F.exs x c' (find_mem hc')
      split at e
      · rename_i d' hk
        cases e
        refine ⟨x, .ref C, _, [], np, ph, rfl, ⟨F.e.gl h1, h3, .inl e3⟩, e6, fun a oe cls dd pn _ _ => ?_⟩
        have tg := tgIx_ok F.e hi'
        have hE : PE (X.suite a ((a, oe) :: pn)) (.Constant k j pc) (rd (kt X) XC W fun _ => .ok d) := by
          have := sn_const (X := X.suite a ((a, oe) :: pn)) (XC := XC) (W := W) (c := k) (j := j) (p := pc)
          rw [hk] at this
          exact this
        have s1 : PS (X.suite a ((a, oe) :: pn)) (.Assign [.Name y py] (.Constant k j pc) pa) (rdS (kt X) XC W fun env => .nx (setAt env i (.val d))) :=
          ss_set (X := X.suite a ((a, oe) :: pn)) F.e.nd' ⟨tg.hi, tg.hl, tg.hf⟩ rfl hE
        exact pss_imp (pss_one s1) fun _ _ _ z => z
      · cases e
  · cases e
theorem sn_hds (F : FitS T N XC X fl sc W) : ∀ {hs : List ExceptHandler} {l : List (Nat × Nat × D)}, tHds T N fl sc hs = some l →
    ∃ w : List (Value × (Addr → Value → Option Addr → TS)), HdsOk X hs w ∧
      ∀ (Dn : Ends) (S0 : Addr → Prop) (B : Hp) (c : Nat) (env : En), PostS (kt X) XC W S0 B Dn (catchGo c env l) → ∀ cls σ H, XC c cls → ER (kt X) S0 B σ H env → wMany X.K W Dn w cls none σ H
  | [], l, e => by
    cases e
    exact ⟨[], .nil, fun Dn S0 B c env h cls σ H x er => h cls σ H x er⟩
  | h :: r, l, e => by
    obtain ⟨⟨c', i, d⟩, e1, e⟩ := Option.bind_eq_some_iff.mp (show (tHd T N fl sc h).bind (fun x => (tHds T N fl sc r).map (x :: ·)) = some l from e)
    obtain ⟨l', e2, rfl⟩ := Option.map_eq_some_iff.mp e
    obtain ⟨x, C, b₀, suite, np, p, rfl, hn, hC, hsu⟩ := sn_hd F e1
    obtain ⟨w, hw, go⟩ := sn_hds F e2
    refine ⟨(C, fun _ _ _ => rdS (kt X) XC W fun env => .nx (setAt env i (.val d))) :: w, .cons hn (fun a oe cls dd pn z q => hsu a oe cls dd pn z q) hw, fun Dn S0 B c env h cls σ H hx er => ?_⟩
    refine ⟨c' == c, F.exT c c' cls C hx hC, fun hb a _ => ?_, fun hb => ?_⟩
    · refine ⟨S0, B, env, er, ?_⟩
      have h : PostS (kt X) XC W S0 B Dn (cond (c' == c) (.nx (setAt env i (.val d))) (catchGo c env l')) := h
      rw [hb] at h
      exact h
    · have h : PostS (kt X) XC W S0 B Dn (cond (c' == c) (.nx (setAt env i (.val d))) (catchGo c env l')) := h
      rw [hb] at h
      exact go Dn S0 B c env h cls σ H hx er
theorem ss_try {body : List Stmt} {h₀ : ExceptHandler} {hds : List ExceptHandler} {l : List (Nat × Nat × D)} {pos : Pos} {g : En → Rs} (F : FitS T N XC X fl sc W) (hl : tHds T N fl sc (h₀ :: hds) = some l)
    (hb : ∀ (Y : Cx) (W' : WX), FitS T N XC Y fl sc W' → kt Y = kt X → PSs Y body (rdS (kt X) XC W' g)) : PS X (.Try body (h₀ :: hds) [] [] pos) (rdS (kt X) XC W fun env => (g env).catch l) := by
  obtain ⟨w, hw, go⟩ := sn_hds F hl
  refine ps_imp (ps_try_many (tb := fun W' => rdS (kt X) XC W' g) F.stack F.frame F.takes (fun W' pn xe tk hp => hb (X.tr pn xe) W' (F.tr tk hp) rfl) hw) fun Dn σ H ⟨S0, B, env, er, p⟩ => ⟨S0, B, env, er, ?_⟩
  simp only [] at p
  cases hg : g env with
  | nx e => rw [hg] at p; exact p
  | rt d => rw [hg] at p; exact p
  | bad => rw [hg] at p; exact p
  | ex c e =>
    rw [hg] at p
    exact fun cls σ' H' hx er' => go Dn S0 B c e p cls σ' H' hx er'
/-- what is said of the statements' translation -/
def SndS (T : Tab) (N : List Str) (XC : Nat → Value → Prop) (fl sc : Scope) (f : Stmt → S) : Prop := ∀ (X : Cx) (W : WX), FitS T N XC X fl sc W → ∀ n st, PS X st (rdS (kt X) XC W (evS n (f st)))
theorem sss_frz {sts : List Stmt} {h : En → Rs} (hs : PSs X sts (rdS (kt X) XC W h)) (i : Nat) : PSs X sts (rdS (kt X) XC W fun env => h (setAt env i (frzS (slotAt env i)))) :=
  ⟨fun pins s σ H D I ⟨S0, B, env, er, p⟩ => by
    rcases er.frz i with er' | ⟨a, u, e, mt, er'⟩
    · exact hs.run pins s σ H D I ⟨S0, B, _, er', p⟩
    · obtain ⟨o, J⟩ := I.lock e mt
      exact hs.run pins s σ _ D J ⟨S0, B, _, er' o, p⟩⟩
theorem sn_frz {sts : List Stmt} {n : Nat} : ∀ (is : List Nat) {ss : Ss}, PSs X sts (rdS (kt X) XC W (evSs n ss)) → PSs X sts (rdS (kt X) XC W (evSs n (addFrz is ss)))
  | [], _, h => h
  | i :: is, _, h => sss_frz (sn_frz is h) i
theorem sn_ss {f : Stmt → S} (hf : SndS T N XC fl sc f) (F : FitS T N XC X fl sc W) (n : Nat) : ∀ sts : List Stmt, PSs X sts (rdS (kt X) XC W (evSs n (mapSs N M f sts)))
  | [] => ss_nil
  | st :: r => sn_frz _ (ss_cons (hf X W F n st) (sn_ss hf F n r))
theorem sn_stepS {rec : Scope → Scope → Expr → E} (hR : SndE T N XC rec) {f : Stmt → S} (hf : SndS T N XC fl sc f) : SndS T N XC fl sc (stepS T N M (stepE T N rec fl sc) fl sc f) := by
  intro X W F n st
  have tk := F.takes
  have hB : ∀ e, Both X XC W e (stepE T N rec fl sc e) := sn_step hR X fl sc W F.e tk
  cases st with
  | Pass p => exact ss_pass
  | Return v p =>
    cases v with
    | none => exact ss_ret0
    | some e => exact ss_ret (hB e).1
  | Expr e p => exact sn_expr hR F
  | Assign tgs v p =>
    cases tgs with
    | nil => exact badS
    | cons tg r =>
      cases r with
      | nil => exact sn_asg1 hR F
      | cons _ _ => exact badS
  | AugAssign tg o v p =>
    cases tg with
    | Name x p2 =>
      cases o with
      | Add =>
        show PS X _ (rdS (kt X) XC W (evS n (match tgIx N fl sc x with | some i => .aug i .add (stepE T N rec fl sc v) | none => .bad)))
        split
        · rename_i i hi
          exact ss_aug F.e.nd' (tgIx_ok F.e hi) (hB v).1
        · exact badS
      | _ => exact badS
    | _ => exact badS
  | If c a b p => exact ss_ite (hB c).2 (sn_ss hf F n a) (sn_ss hf F n b)
  | For tg it body els p =>
    cases els with
    | cons _ _ => exact badS
    | nil =>
      show PS X _ (rdS (kt X) XC W (evS n (cond (isSet it) .bad (match tPat N fl sc tg with | some p => .for p (tIt (stepE T N rec fl sc) sc tg it) (mapSs N M f body) | none => .bad))))
      cases hs : isSet it with
      | true => exact badS
      | false =>
        rw [cond_false]
        split
        · rename_i q hq
          exact ss_for F.pass F.e.calm (sn_it F.e (fun e => (hB e).1) tg it) (tPat_ok F.e hq) (sn_ss hf F n body) (isSet_ok hs)
        · exact badS
  | While c body els p =>
    cases els with
    | cons _ _ => exact badS
    | nil => exact ss_whl F.pass (hB c).2 (sn_ss hf F n body)
  | Raise e c p =>
    cases e with
    | none => exact badS
    | some e =>
      cases c with
      | some _ => exact badS
      | none => exact sn_rse F
  | Try body hs els fin p =>
    cases els with
    | cons _ _ => exact badS
    | nil =>
      cases fin with
      | cons _ _ => exact badS
      | nil =>
        cases hs with
        | nil => exact badS
        | cons h₀ hds =>
          show PS X _ (rdS (kt X) XC W (evS n (match tHds T N fl sc (h₀ :: hds) with | some l => .try (mapSs N M f body) l | none => .bad)))
          split
          · rename_i l hl
            exact ss_try F hl fun Y W' F' e => by rw [← e]; exact sn_ss hf F' n body
          · exact badS
  | _ => exact badS
theorem sn_S (k : Nat) : ∀ m, SndS T N XC fl sc (tS T N M (tE T N (k + 1) fl sc) fl sc m)
  | 0 => fun _ _ _ _ _ => badS
  | m + 1 => sn_stepS (sn_E k) (sn_S k m)
/-- a def's body -/
theorem sn_body (F : FitS T N XC X sc sc W) (n : Nat) (body : List Stmt) : PSs X body (rdS (kt X) XC W (evSs n (tBody T N M sc body))) := sn_ss (sn_S 39 20) F n body
end
end PI
end
section
/-! A def keeps its mirror's promise. -/
namespace PI
open PySem PySem.Spec PyProof.Rows L2
theorem slotAt_rep : ∀ (m i : Nat), slotAt (List.replicate m .emp) i = .emp
  | 0, _ => rfl
  | m + 1, 0 => rfl
  | m + 1, i + 1 => slotAt_rep m i
theorem slotAt_start : ∀ (ds : List D) (m i : Nat), slotAt (ds.map Slot.val ++ List.replicate m .emp) i = (match ds[i]? with | some d => .val d | none => .emp)
  | [], m, i => by simpa using slotAt_rep m i
  | x :: r, m, 0 => rfl
  | x :: r, m, i + 1 => by
    have := slotAt_start r m i
    rw [List.getElem?_cons_succ]
    exact this
theorem er_start {C : Kt} {S : Addr → Prop} {H : Hp} {N : List Str} {vs : List V} {ds : List D} (t : Trk S H) (r : RepL C S H vs ds) (hl : vs.length ≤ N.length) : ER C S H (L2.start N vs) H (startE N.length ds) := by
  have hlen := r.length
  have no : ∀ i d, slotAt (startE N.length ds) i = .own d → False := fun i d h => by
    unfold startE at h
    rw [slotAt_start] at h
    split at h <;> cases h
  have sub : ∀ a, OS S (startE N.length ds) (L2.start N vs) a → S a := fun a h => by
    rcases h with h | ⟨i, d, h1, _⟩
    · exact h
    · exact (no i d h1).elim
  refine ⟨?_, fun i => ?_, fun i j d e a h1 => (no i d h1).elim, Same.refl _, fun i d a h1 => (no i d h1).elim, t, fun i d a h1 => (no i d h1).elim⟩
  · unfold L2.start startE
    rw [List.length_append, List.length_append, List.length_map, List.length_map, List.length_replicate, List.length_replicate, hlen]
  · unfold startE
    rw [slotAt_start]
    cases hd : ds[i]? with
    | none => trivial
    | some d =>
      obtain ⟨v, hv, rv⟩ := r.get hd
      refine ⟨v, ?_, rv.keep (.of_same (Same.refl _)) fun a h => sub a h⟩
      unfold L2.start
      have hi : i < vs.length := (List.getElem?_eq_some_iff.mp hv).1
      rw [List.getElem?_append_left (by rw [List.length_map]; exact hi), List.getElem?_map, hv]
      rfl
/-- a def that computes g -/
def FOk (P : Program) (w : World) (K : PySem.W.Frag) (mg : Str → Option Value) (base : Heap) (XC : Nat → Value → Prop) (k : Nat) (x : Str) (n : Nat) (g : List D → R D) : Prop :=
  ∃ f fd ps, FnOk P w K mg base (CX P w) k f fd ps (spD ⟨K, P, w⟩ XC n g) ∧ mg x = some (.ref f) ∧ PySem.W.keepIn K (.ref f) = true ∧ Binds K fd ps []
theorem FOk.mono {P : Program} {w : World} {K : PySem.W.Frag} {mg : Str → Option Value} {base : Heap} {XC : Nat → Value → Prop} {j k : Nat} {x : Str} {n : Nat} {g : List D → R D} (h : FOk P w K mg base XC j x n g) (l : j ≤ k) : FOk P w K mg base XC k x n g :=
  let ⟨f, fd, ps, F, r⟩ := h; ⟨f, fd, ps, F.mono l, r⟩
/-- the module: what its names stand for -/
structure ModOk (K : PySem.W.Frag) (mg : Str → Option Value) (XC : Nat → Value → Prop) (cns : List (Str × D)) (exs : List (Str × Nat)) : Prop where
  blt : ∀ x ∈ bltN, mg x = none
  cns : ∀ x d, (x, d) ∈ cns → ∃ v u, mg x = some u ∧ RelV v u ∧ ∀ (P : Program) (w : World) (S : Addr → Prop) (H : Hp), Rep ⟨K, P, w⟩ S H v d
  exs : ∀ x c, (x, c) ∈ exs → ∃ (C : Addr) (B newId initId : String) (bmB : List Value), ExcBaseFacts B newId initId bmB ∧ PySem.W.excIn K C bmB newId = true ∧ mg x = some (.ref C) ∧ PySem.W.keepIn K (.ref C) = true ∧
    (PySem.W.subIn K (.ref C) (.type "BaseException") = some true ∧ PySem.W.typeIn K (.ref C) = some (.type "type")) ∧ XC c (.ref C)
  one : ∀ c, ∀ v v', XC c v → XC c v' → v = v'
  exT : ∀ c c' v v', XC c v → XC c' v' → PySem.W.exmOne K v v' = some (c' == c)
theorem mkFn0 {P : Program} {w : World} {K : PySem.W.Frag} {mg : Str → Option Value} {base : Heap} {XC : Nat → Value → Prop} {T : Tab} {N ps : List Str} {M : List Nat} {k fuel n : Nat} {x : Str} {params : Arguments} {body : List Stmt} {scope : Scope} {f : Addr} {fd : FuncData} {b : Ss}
    (F : FunD K x x params body scope [] [] f fd) (S : FnScope N ps scope) (hn : ps.length = n) (mo : ModOk K mg XC T.cns T.exs) (hf : ∀ y m g, (y, m, g) ∈ T.fns → FOk P w K mg base XC k y m g) (hB : tBody T N M scope body = b) :
    FnOk P w K mg base (CX P w) (k + 1) f fd ps (spD ⟨K, P, w⟩ XC n (fnD fuel n N.length b)) := by
  subst hB hn
  refine F.ok S (fun vs H Q E h => h.1) (fun cdv A outer s H vs Q E hr h => ⟨_, sn_body (T := T) (N := N) (M := M) (XC := XC) (sc := scope) (W := fun cls d _ H => E cls d H) ?_ fuel body, ?_⟩)
  · refine ⟨⟨rfl, by have := hr.un; show (A.deeper (envOfC x scope s.heap.objs.size f cdv)).units + 100 < cLine; omega, rfl, S.nd, rfl, fun _ _ => rfl, mo.blt, fun y m g hm => ?_, fun y d hm => ?_⟩, takes_of rfl rfl rfl rfl, passes_of rfl, rfl, rfl, S.kind, fun y c hm => ?_, mo.one, mo.exT⟩
    · obtain ⟨f', fd', ps', F', h1, h2, h3⟩ := hf y m g hm
      exact ⟨k, f', fd', ps', F', hr, h1, h2, h3⟩
    · obtain ⟨v, u, h1, h2, h3⟩ := mo.cns y d hm
      exact ⟨v, u, h1, h2, fun S H => h3 P w S H⟩
    · obtain ⟨C, B, a1, a2, a3, h1, h2, h3, h4, ⟨h5, h6⟩, h7⟩ := mo.exs y c hm
      exact ⟨C, B, a1, a2, a3, h1, h2, h3, h4, raises_own h5 h6, h7⟩
  · obtain ⟨hl, S', ds, tr, rl, p⟩ := h
    have hps : ps.length ≤ N.length := by have := congrArg List.length S.pre; rw [List.length_take] at this; omega
    refine ⟨S', H, startE N.length ds, er_start tr rl (by omega), ?_⟩
    have hd : decide (ds.length = ps.length) = true := decide_eq_true (by rw [← rl.length]; exact hl)
    unfold fnD at p
    rw [hd, cond_true] at p
    cases hr : evSs fuel (tBody T N M scope body) (startE N.length ds) with
    | nx env' =>
      rw [hr] at p
      exact fun σ' H' er => p H' er.base _ .non
    | rt d =>
      rw [hr] at p
      exact fun v H' s r => p H' s v r
    | ex c env' =>
      rw [hr] at p
      exact fun cls σ' H' hx er => p cls H' hx er.base
    | bad => rw [hr] at p; exact p
theorem mkFn {P : Program} {w : World} {K : PySem.W.Frag} {mg : Str → Option Value} {base : Heap} {XC : Nat → Value → Prop} {T : Tab} {N ps : List Str} {M : List Nat} {k fuel n : Nat} {x : Str} {params : Arguments} {body : List Stmt} {scope : Scope} {f : Addr} {fd : FuncData} {b : Ss}
    (F : FunD K x x params body scope [] [] f fd) (S : FnScope N ps scope) (hn : ps.length = n) (hx : mg x = some (.ref f)) (hb : Binds K fd ps []) (mo : ModOk K mg XC T.cns T.exs) (hf : ∀ y m g, (y, m, g) ∈ T.fns → FOk P w K mg base XC k y m g) (hB : tBody T N M scope body = b) :
    FOk P w K mg base XC (k + 1) x n (fnD fuel n N.length b) := ⟨f, fd, ps, mkFn0 F S hn mo hf hB, hx, F.kp, hb⟩
end PI
end
section
/-! The head: what stands behind the top, by names. -/
namespace PI
open PySem PySem.Spec PyProof.Rows L2
/-- the law's own def lets nothing out -/
theorem quietFn {P : Program} {w : World} {K : PySem.W.Frag} {mg : Str → Option Value} {base : Heap} {CX' : CXT} {k : Nat} {f : Addr} {fd : FuncData} {ps : List Str} {sp : Sp} (F : FnOk P w K mg base (CX P w) k f fd ps sp) : FnOk P w K mg base CX' k f fd ps (fun vs H Q _ => sp vs H Q fun _ _ _ => False) := by
  refine ⟨fun vs H Q E h => F.len _ _ _ _ h, fun A outer s H args us vs Q E hr e0 hb r h => ?_⟩
  refine codeAny_mono (F.run A outer s H args us vs Q (fun _ _ _ => False) hr e0 hb r h) fun res s' hq => ?_
  cases res with
  | ok fl => cases fl <;> exact hq
  | error e =>
    obtain ⟨_, _, _, _, _, _, _, _, _, _, _, _, z⟩ := hq
    exact z.elim
/-- what is wanted of the law's mirror -/
def LawOk (g : List D → R D) : Prop := ∀ ns : List Int, ns.length ≤ 63 → g [.dict [(.bool true, .list (ns.map .int))]] = .ok (.bool true)
theorem ints_rep {C : Kt} (S : Addr → Prop) (H : Hp) : ∀ ns : List Int, RepL C S H (ns.map V.int) (ns.map PyData.int)
  | [] => .nil
  | _ :: ns => .cons (.int _) (ints_rep S H ns)
theorem law_sp {P : Program} {w : World} {K : PySem.W.Frag} {XC : Nat → Value → Prop} {g : List D → R D} (hl : LawOk g) {H : Hp} {a : Addr} {ns : List Int} (hn : ns.length ≤ 63) (hO : Only H) (hS : SqL K H a (ns.map V.int)) :
    spD ⟨K, P, w⟩ XC 1 g [.ref a] H (fun v _ => v = .bl true) fun _ _ _ => False := by
  have hk : KLs K H a (ns.map V.int) := by
    rcases hS with (h | h) | h
    · rcases hO a with z | ⟨o, xs, z⟩ <;> rw [h] at z <;> cases z
    · exact .inl h
    · exact .inr h
  have hz : (ns.map V.int).length ≤ sizeLine := by rw [List.length_map]; exact Nat.le_trans hn (by decide)
  refine ⟨rfl, fun _ => False, [.dict [(.bool true, .list (ns.map .int))]], fun _ h => h.elim, .cons (.kl hk hz (ints_rep _ H ns)) .nil, ?_⟩
  rw [hl ns hn]
  exact fun H' _ v r => r.bool_of
def dvD : He.Dv → D
  | .non => .none
  | .bl b => .bool b
  | .int i => .int i
  | .str x => .str x
  | _ => .none
def dvOk : He.Dv → Bool
  | .non => true
  | .bl _ => true
  | .int _ => true
  | .str _ => true
  | _ => false
theorem dv_rep {C : Kt} (S : Addr → Prop) (H : Hp) : ∀ {vs : List He.Dv}, vs.all dvOk = true → RepL C S H (vs.map (He.Dv.v C.K)) (vs.map dvD)
  | [], _ => .nil
  | v :: vs, h => by
    rw [List.all_cons, Bool.and_eq_true] at h
    refine .cons ?_ (dv_rep S H h.2)
    cases v with
    | non => exact .non
    | bl b => exact .bl b
    | int i => exact .int i
    | str x => exact .str x
    | _ => exact absurd h.1 (by simp [dvOk])
/-- what the head is to tell -/
structure Facts where
  defs : List Str
  cI : List (Str × Int)
  cS : List (Str × Str)
  cT : List (Str × List He.Dv)
  cE : List (Str × Nat)
def Facts.fa (F : Facts) : List He.Fa := F.defs.map .glo ++ (bltN.map .free ++ (F.cI.map (fun p => .int p.1 p.2) ++ (F.cS.map (fun p => .str p.1 p.2) ++ (F.cT.map (fun p => .glo p.1) ++ (F.cE.map (fun p => .glo p.1) ++ (F.cE.map (fun p => .exc p.1) ++ F.cE.flatMap fun p => F.cE.map fun q => .exm p.1 q.1 (q.2 == p.2)))))))
def Facts.ex (F : Facts) (K : PySem.W.Frag) : Bool := F.cT.all fun p => p.2.all dvOk && He.tupB K p.1 p.2
def Facts.cns (F : Facts) : List (Str × D) := F.cI.map (fun p => (p.1, .int p.2)) ++ (F.cS.map (fun p => (p.1, .str p.2)) ++ F.cT.map fun p => (p.1, .tuple (p.2.map dvD)))
def Facts.XC (F : Facts) (K : PySem.W.Frag) (c : Nat) (v : Value) : Prop := ∃ x, (x, c) ∈ F.cE ∧ v = .ref (He.ga K x)
section
variable {F : Facts} {fn : List He.DefD} {w : World} {K : PySem.W.Frag} {h : Heap} {mg : Str → Option Value}
theorem mod_ok (hu : (F.cE.map (·.2)).Nodup) (X : K.In h) (G : h.Ns mainGlobals mg) (c : He.SaysX F.fa fn [] [] F.ex w h K) : ModOk K mg (F.XC K) F.cns F.cE := by
  have f := fun {q : He.Fa} (hq : q ∈ F.fa) => He.SaysD.facts c.t.d hq
  have key : ∀ {x y : Str} {c : Nat}, (x, c) ∈ F.cE → (y, c) ∈ F.cE → x = y := by
    have go : ∀ {l : List (Str × Nat)} {x y : Str} {c : Nat}, (l.map (·.2)).Nodup → (x, c) ∈ l → (y, c) ∈ l → x = y := by
      intro l
      induction l with
      | nil => intro x y c _ h; cases h
      | cons p l ih =>
        intro x y c hn h1 h2
        rw [List.map_cons, List.nodup_cons] at hn
        rcases List.mem_cons.mp h1 with e1 | h1
        · rcases List.mem_cons.mp h2 with e2 | h2
          · rw [← e1] at e2; injection e2 with e2; exact e2.symm
          · exact absurd (List.mem_map.mpr ⟨_, h2, by rw [← e1]⟩) hn.1
        · rcases List.mem_cons.mp h2 with e2 | h2
          · exact absurd (List.mem_map.mpr ⟨_, h1, by rw [← e2]⟩) hn.1
          · exact ih hn.2 h1 h2
    exact fun {x y c} h1 h2 => go hu h1 h2
  refine ⟨fun x hx => ?_, fun x d hx => ?_, fun x c' hx => ?_, fun c' v v' h1 h2 => ?_, fun c1 c2 v v' h1 h2 => ?_⟩
  · exact He.free_ok X G (f (List.mem_append_right _ (List.mem_append_left _ (List.mem_map.mpr ⟨x, hx, rfl⟩))))
  · rcases List.mem_append.mp hx with hx | hx
    · obtain ⟨p, hp, e⟩ := List.mem_map.mp hx
      injection e with e1 e2
      subst e1 e2
      obtain ⟨t, ht⟩ := He.int_ok X G (f (List.mem_append_right _ (List.mem_append_right _ (List.mem_append_left _ (List.mem_map.mpr ⟨p, hp, rfl⟩)))))
      exact ⟨.int p.2, _, ht, ⟨t, rfl⟩, fun _ _ _ _ => .int _⟩
    · rcases List.mem_append.mp hx with hx | hx
      · obtain ⟨p, hp, e⟩ := List.mem_map.mp hx
        injection e with e1 e2
        subst e1 e2
        obtain ⟨t, ht⟩ := He.str_ok X G (f (List.mem_append_right _ (List.mem_append_right _ (List.mem_append_right _ (List.mem_append_left _ (List.mem_map.mpr ⟨p, hp, rfl⟩))))))
        exact ⟨.str p.2, _, ht, ⟨t, rfl⟩, fun _ _ _ _ => .str _⟩
      · obtain ⟨p, hp, e⟩ := List.mem_map.mp hx
        injection e with e1 e2
        subst e1 e2
        have ht := He.glo_ok X G (f (List.mem_append_right _ (List.mem_append_right _ (List.mem_append_right _ (List.mem_append_right _ (List.mem_append_left _ (List.mem_map.mpr ⟨p, hp, rfl⟩)))))))
        have hb := List.all_eq_true.mp (show (F.cT.all fun p => p.2.all dvOk && He.tupB K p.1 p.2) = true from c.more) p hp
        obtain ⟨hb1, hb2⟩ := Bool.and_eq_true_iff.mp hb
        refine ⟨.ref (He.ga K p.1), _, ht, rfl, fun P w S H => ?_⟩
        have sq := He.tupB_ok hb2 H
        have hz : (p.2.map (He.Dv.v K)).length ≤ sizeLine := by
          rw [List.length_map]
          unfold He.tupB at hb2
          split at hb2
          · obtain ⟨_, hb3⟩ := Bool.and_eq_true_iff.mp hb2
            obtain ⟨hb4, hb5⟩ := Bool.and_eq_true_iff.mp hb3
            have := (He.relAll_ok hb5).length
            rw [List.length_map, Array.length_toList] at this
            rw [this]
            exact of_decide_eq_true hb4
          · cases hb2
        exact .tup sq hz (dv_rep S H hb1)
  · have h1 := He.glo_ok X G (f (List.mem_append_right _ (List.mem_append_right _ (List.mem_append_right _ (List.mem_append_right _ (List.mem_append_right _ (List.mem_append_left _ (List.mem_map.mpr ⟨_, hx, rfl⟩))))))))
    obtain ⟨e1, e2, e3, e4⟩ := He.exc_ok (f (List.mem_append_right _ (List.mem_append_right _ (List.mem_append_right _ (List.mem_append_right _ (List.mem_append_right _ (List.mem_append_right _ (List.mem_append_left _ (List.mem_map.mpr ⟨_, hx, rfl⟩)))))))))
    exact ⟨He.ga K x, _, _, _, _, PySem.F.excBase_ValueError, e1, h1, e2, ⟨e3, e4⟩, x, hx, rfl⟩
  · obtain ⟨x, hx, rfl⟩ := h1
    obtain ⟨y, hy, rfl⟩ := h2
    rw [key hx hy]
  · obtain ⟨x, hx, rfl⟩ := h1
    obtain ⟨y, hy, rfl⟩ := h2
    exact He.exm_ok (f (List.mem_append_right _ (List.mem_append_right _ (List.mem_append_right _ (List.mem_append_right _ (List.mem_append_right _ (List.mem_append_right _ (List.mem_append_right _ (List.mem_flatMap.mpr ⟨_, hx, List.mem_map.mpr ⟨_, hy, rfl⟩⟩)))))))))
def defD (x : Str) (st : Stmt) : He.DefD := ⟨(x, none), x, x, defArgs st, defBody st, defScope st, [], []⟩
/-- a def of the module, by its place -/
theorem mkD {P : Program} {base : Heap} (X : K.In h) (G : h.Ns mainGlobals mg) (c : He.SaysX F.fa fn [] [] F.ex w h K) (mo : ModOk K mg (F.XC K) F.cns F.cE) (i : Nat) {x : Str} {st : Stmt} (hi : fn[i]? = some (defD x st)) (hx : x ∈ F.defs)
    {T : Tab} {N ps : List Str} {M : List Nat} {k fuel n : Nat} {b : Ss} (S : FnScope N ps (defScope st)) (hn : ps.length = n)
    (hb : ∀ (kV doc pm : Value) (an : Option Addr) (cdv ct : Value) (us : List Value), us.length = ps.length → bindArgs (PySem.W.fnOf x x (defArgs st) (defBody st) (defScope st) .none kV doc pm an cdv ct) ⟨us, []⟩ = pure (ps.zip us))
    (hc : T.cns = F.cns) (he : T.exs = F.cE) (hf : ∀ y m g, (y, m, g) ∈ T.fns → FOk P w K mg base (F.XC K) k y m g) (hB : tBody T N M (defScope st) (defBody st) = b) :
    FOk P w K mg base (F.XC K) (k + 1) x n (fnD fuel n N.length b) := by
  obtain ⟨fd, FD⟩ := c.t.d.def_ i hi
  have FD : FunD K x x (defArgs st) (defBody st) (defScope st) [] [] (He.ga K x) fd := FD
  exact mkFn FD S hn (He.glo_ok X G (He.SaysD.facts c.t.d (List.mem_append_left _ (List.mem_map.mpr ⟨x, hx, rfl⟩)))) (FD.bindsN hb) (by rw [hc, he]; exact mo) hf hB
end
/-- callees, one by one -/
theorem fnil {Q : Str → Nat → (List D → R D) → Prop} : ∀ y m g, (y, m, g) ∈ ([] : List (Str × Nat × (List D → R D))) → Q y m g := fun _ _ _ h => nomatch h
theorem fcons {Q : Str → Nat → (List D → R D) → Prop} {x : Str} {n : Nat} {g : List D → R D} {l : List (Str × Nat × (List D → R D))} (h : Q x n g) (t : ∀ y m g, (y, m, g) ∈ l → Q y m g) : ∀ y m g', (y, m, g') ∈ (x, n, g) :: l → Q y m g' := fun y m g' hm => by
  rcases List.mem_cons.mp hm with e | hm
  · injection e with e1 e2; injection e2 with e2 e3
    subst e1 e2 e3
    exact h
  · exact t y m g' hm
/-- the end of the walk -/
theorem law_end {F : Facts} {fn : List He.DefD} {P : Program} {w : World} {K : PySem.W.Frag} {h : Heap} {mg : Str → Option Value} {fa : Addr} {x : Str} {st : Stmt} {T : Tab} {N : List Str} {M : List Nat} {k fuel : Nat} {b : Ss} (X : K.In h) (G : h.Ns mainGlobals mg) (hmg : mg ("law" : Str) = some (.ref fa)) (c : He.SaysX F.fa fn [] [] F.ex w h K)
    (i : Nat) (hi : fn[i]? = some (defD "law" st)) (S : FnScope N [x] (defScope st))
    (hb : ∀ (kV doc pm : Value) (an : Option Addr) (cdv ct : Value) (us : List Value), us.length = [x].length → bindArgs (PySem.W.fnOf "law" "law" (defArgs st) (defBody st) (defScope st) .none kV doc pm an cdv ct) ⟨us, []⟩ = pure ([x].zip us))
    (hl : ("law" : Str) ∈ F.defs) (hu : (F.cE.map (·.2)).Nodup) (hc : T.cns = F.cns) (he : T.exs = F.cE) (hf : ∀ (base : Heap), ∀ y m g, (y, m, g) ∈ T.fns → FOk P w K mg base (F.XC K) k y m g) (hB : tBody T N M (defScope st) (defBody st) = b) (hg : LawOk (fnD fuel 1 N.length b)) :
    ∃ (K : PySem.W.Frag) (fd : FuncData) (sp : Sp), K.In h ∧ (∀ (s : Shared) (u : Value), BindsTo s fd ⟨[u], []⟩ [(x, u)]) ∧
      (∀ (H : Hp) (a : Addr) (ns : List Int), ns.length ≤ 63 → Only H → SqL K H a (ns.map V.int) → sp [.ref a] H (fun v _ => v = .bl true) fun _ _ _ => False) ∧
      ∀ base : Heap, K.In base → base.Ns mainGlobals mg → FnOk P w K mg base CX0 (k + 1) fa fd [x] sp := by
  obtain ⟨fd, FD⟩ := c.t.d.def_ i hi
  have FD : FunD K "law" "law" (defArgs st) (defBody st) (defScope st) [] [] (He.ga K "law") fd := FD
  have hga := He.glo_ok X G (He.SaysD.facts c.t.d (List.mem_append_left _ (List.mem_map.mpr ⟨("law" : Str), hl, rfl⟩)))
  have e := hmg.symm.trans hga
  cases e
  have b := FD.bindsA hb
  have mo := mod_ok hu X G c
  refine ⟨K, fd, fun vs H Q _ => spD ⟨K, P, w⟩ (F.XC K) 1 (fnD fuel 1 N.length _) vs H Q fun _ _ _ => False, X, fun s u => b s [u] rfl, fun H a ns hn hO hS => law_sp hg hn hO hS, fun base _ _ => ?_⟩
  exact quietFn (mkFn0 FD S rfl (by rw [hc, he]; exact mo) (hf base) hB)
end PI
end
section
/-! The mirrors of the defs, all laws. -/
namespace PG
open PySem PI
def B__law_pick : Ss := (.cons (.ret (.bin .mod (.bin .fdiv (.var 0) (.con (.int 97))) (.var 1))) .nil)
def F__law_pick : List D → R D := fnD 400 2 2 B__law_pick
def B__law_seed : Ss := (.cons (.ret (.bin .mod (.bin .pow (.bin .mod (.bin .add (.bin .add (.bin .mul (.var 0) (.con (.int 1103515245))) (.bin .mul (.con (.int 7919)) (.var 1))) (.con (.int 12345))) (.con (.int 2147483647))) (.con (.int 5))) (.con (.int 2147483647)))) .nil)
def F__law_seed : List D → R D := fnD 400 2 2 B__law_seed
def B__law_world : Ss := (.cons (.set 1 (.lst (.cons (.tup (.cons (.con (.int 1)) (.cons (.con (.int 1)) (.cons (.con (.int 3)) .nil)))) (.cons (.tup (.cons (.con (.int 2)) (.cons (.con (.int 1)) (.cons (.con (.int 3)) .nil)))) (.cons (.tup (.cons (.con (.int 3)) (.cons (.con (.int 1)) (.cons (.con (.int 3)) .nil)))) (.cons (.tup (.cons (.con (.int 1)) (.cons (.con (.int 2)) (.cons (.con (.int 3)) .nil)))) (.cons (.tup (.cons (.con (.int 2)) (.cons (.con (.int 2)) (.cons (.con (.int 3)) .nil)))) (.cons (.tup (.cons (.con (.int 2)) (.cons (.con (.int 2)) (.cons (.con (.int 1)) .nil)))) (.cons (.tup (.cons (.con (.int 3)) (.cons (.con (.int 2)) (.cons (.con (.int 1)) .nil)))) (.cons (.tup (.cons (.con (.int 3)) (.cons (.con (.int 1)) (.cons (.con (.int 2)) .nil)))) .nil)))))))))) (.cons (.set 1 (.bin .add (.var 1) (.lst (.cons (.tup (.cons (.con (.int 2)) (.cons (.con (.int 1)) (.cons (.con (.int 1)) .nil)))) (.cons (.tup (.cons (.con (.int 3)) (.cons (.con (.int 1)) (.cons (.con (.int 1)) .nil)))) (.cons (.tup (.cons (.con (.int 1)) (.cons (.con (.int 2)) (.cons (.con (.int 1)) .nil)))) (.cons (.tup (.cons (.con (.int 1)) (.cons (.con (.int 2)) (.cons (.con (.int 2)) .nil)))) (.cons (.tup (.cons (.con (.int 2)) (.cons (.con (.int 1)) (.cons (.con (.int 2)) .nil)))) (.cons (.tup (.cons (.con (.int 1)) (.cons (.con (.int 1)) (.cons (.con (.int 2)) .nil)))) (.cons (.tup (.cons (.con (.int 2)) (.cons (.con (.int 2)) (.cons (.con (.int 2)) .nil)))) (.cons (.tup (.cons (.con (.int 1)) (.cons (.con (.int 1)) (.cons (.con (.int 1)) .nil)))) .nil))))))))))) (.cons (.ret (.idx (.bor 1) (.call "_law_pick" F__law_pick (.cons (.call "_law_seed" F__law_seed (.cons (.var 0) (.cons (.con (.int 1)) .nil))) (.cons (.con (.int 16)) .nil))))) .nil)))
def F__law_world : List D → R D := fnD 400 1 2 B__law_world
def B__law_cell : Ss := (.cons (.ite (.cmp .lt (.var 1) (.bi .len (.cons (.bor 0) .nil))) (.cons (.ret (.idx (.bor 0) (.var 1))) .nil) .nil) (.cons (.ret (.con (.int 0))) .nil))
def F__law_cell : List D → R D := fnD 400 2 2 B__law_cell
def B__law_window : Ss := (.cons (.set 2 (.lst .nil)) (.cons (.for (.nm 3) (.rng (.idx (.bor 0) (.con (.int 0)))) (.cons (.set 2 (.bin .add (.var 2) (.lc (.tup (.cons (.var 3) (.cons (.var 5) .nil))) (.nm 5) (.rng (.idx (.bor 0) (.con (.int 1)))) (.con (.bool true)) [5]))) .nil)) (.cons (.set 4 (.lc (.var 7) (.tp [6, 7]) (.enm (.var 2)) (.cmp .eq (.bin .mod (.bin .fdiv (.call "_law_seed" F__law_seed (.cons (.var 1) (.cons (.var 6) .nil))) (.con (.int 7))) (.con (.int 3))) (.con (.int 0))) [6, 7])) (.cons (.ret (.ite (.cmp .ne (.bor 4) (.lst .nil)) (.bi .tuple (.cons (.var 4) .nil)) (.tup (.cons (.idx (.bor 2) (.bin .mod (.bin .fdiv (.var 1) (.con (.int 5))) (.bi .len (.cons (.bor 2) .nil)))) .nil)))) .nil))))
def F__law_window : List D → R D := fnD 400 2 8 B__law_window
def B__law_deed : Ss := (.cons (.set 2 (.call "_law_pick" F__law_pick (.cons (.var 1) (.cons (.con (.int 9)) .nil)))) (.cons (.ite (.cmp .eq (.var 2) (.con (.int 0))) (.cons (.ret (.tup (.cons (.con (.str "turn")) .nil))) .nil) .nil) (.cons (.ite (.cmp .eq (.var 2) (.con (.int 1))) (.cons (.ret (.tup (.cons (.con (.str "flip")) (.cons (.idx (.lst (.cons (.con (.str "across")) (.cons (.con (.str "down")) .nil))) (.bin .mod (.bin .fdiv (.var 1) (.con (.int 7))) (.con (.int 2)))) .nil)))) .nil) .nil) (.cons (.ite (.cmp .lt (.var 2) (.con (.int 4))) (.cons (.ret (.tup (.cons (.con (.str "shift")) (.cons (.bin .mod (.bin .fdiv (.var 1) (.con (.int 7))) (.idx (.bor 0) (.con (.int 0)))) (.cons (.bin .mod (.bin .fdiv (.var 1) (.con (.int 11))) (.idx (.bor 0) (.con (.int 1)))) .nil))))) .nil) .nil) (.cons (.ite (.cmp .lt (.var 2) (.con (.int 7))) (.cons (.ret (.tup (.cons (.idx (.lst (.cons (.con (.str "greatest")) (.cons (.con (.str "least")) .nil))) (.bin .mod (.bin .fdiv (.var 1) (.con (.int 7))) (.con (.int 2)))) (.cons (.call "_law_window" F__law_window (.cons (.var 0) (.cons (.call "_law_seed" F__law_seed (.cons (.var 1) (.cons (.con (.int 3)) .nil))) .nil))) .nil)))) .nil) .nil) (.cons (.set 3 (.lc (.var 4) (.nm 4) (.rng (.bin .mul (.idx (.bor 0) (.con (.int 0))) (.idx (.bor 0) (.con (.int 1))))) (.cmp .gt (.bin .mod (.bin .fdiv (.call "_law_seed" F__law_seed (.cons (.var 1) (.cons (.var 4) .nil))) (.con (.int 5))) (.con (.int 3))) (.con (.int 0))) [4])) (.cons (.ret (.tup (.cons (.idx (.lst (.cons (.con (.str "mask")) (.cons (.con (.str "lift")) .nil))) (.bin .sub (.var 2) (.con (.int 7)))) (.cons (.bi .tuple (.cons (.ite (.cmp .eq (.var 2) (.con (.int 8))) (.slc (.var 3) .non (.som (.idx (.lst (.cons (.con (.int 9)) (.cons (.con (.int 1)) (.cons (.con (.int 2)) .nil)))) (.bin .mod (.bin .fdiv (.var 1) (.con (.int 7))) (.con (.int 3)))))) (.var 3)) .nil)) .nil)))) .nil)))))))
def F__law_deed : List D → R D := fnD 400 2 5 B__law_deed
def B__law_row : Ss := (.cons (.own 4 (.lst .nil)) (.cons (.for (.nm 5) (.rng (.bin .mod (.call "_law_cell" F__law_cell (.cons (.var 1) (.cons (.var 2) .nil))) (.bin .add (.var 3) (.con (.int 1))))) (.cons (.app 4 (.call "_law_deed" F__law_deed (.cons (.var 0) (.cons (.call "_law_seed" F__law_seed (.cons (.bin .add (.call "_law_cell" F__law_cell (.cons (.var 1) (.cons (.bin .add (.bin .add (.var 2) (.con (.int 1))) (.bin .mod (.var 5) (.con (.int 3)))) .nil))) (.bin .mul (.con (.int 41)) (.var 5))) (.cons (.var 5) .nil))) .nil)))) .nil)) (.cons (.frz 4) (.cons (.ret (.bi .tuple (.cons (.var 4) .nil))) .nil))))
def F__law_row : List D → R D := fnD 400 4 6 B__law_row
def B__law_every : Ss := (.cons (.set 1 (.lst (.cons (.tup .nil) .nil))) (.cons (.for (.nm 2) (.rng (.bin .mul (.idx (.bor 0) (.con (.int 0))) (.idx (.bor 0) (.con (.int 1))))) (.cons (.set 3 (.lst .nil)) (.cons (.for (.nm 4) (.val (.var 1)) (.cons (.set 3 (.bin .add (.var 3) (.lc (.bin .add (.var 4) (.tup (.cons (.var 5) .nil))) (.nm 5) (.rng (.bin .add (.idx (.bor 0) (.con (.int 2))) (.con (.int 1)))) (.con (.bool true)) [5]))) .nil)) (.cons (.set 1 (.var 3)) .nil)))) (.cons (.ret (.var 1)) .nil)))
def F__law_every : List D → R D := fnD 400 1 6 B__law_every
def B_is_within : Ss := (.cons (.ret (.and (.isI (.var 0) .int) (.and (.not (.isI (.var 0) .bool)) (.chain .le .le (.var 1) (.var 0) (.var 2))))) .nil)
def F_is_within : List D → R D := fnD 400 3 3 B_is_within
def B_is_world : Ss := (.cons (.ite (.or (.not (.isI (.var 0) .tuple)) (.or (.cmp .ne (.bi .len (.cons (.bor 0) .nil)) (.con (.int 3))) (.not (.call "is_within" F_is_within (.cons (.idx (.bor 0) (.con (.int 0))) (.cons (.con (.int 1)) (.cons (.con (.int 3)) .nil))))))) (.cons (.ret (.con (.bool false))) .nil) .nil) (.cons (.ite (.or (.not (.call "is_within" F_is_within (.cons (.idx (.bor 0) (.con (.int 1))) (.cons (.con (.int 1)) (.cons (.con (.int 2)) .nil))))) (.not (.call "is_within" F_is_within (.cons (.idx (.bor 0) (.con (.int 2))) (.cons (.con (.int 1)) (.cons (.con (.int 3)) .nil)))))) (.cons (.ret (.con (.bool false))) .nil) .nil) (.cons (.set 1 (.con (.int 1))) (.cons (.for (.nm 2) (.rng (.bin .mul (.idx (.bor 0) (.con (.int 0))) (.idx (.bor 0) (.con (.int 1))))) (.cons (.set 1 (.bin .mul (.var 1) (.bin .add (.idx (.bor 0) (.con (.int 2))) (.con (.int 1))))) .nil)) (.cons (.ret (.cmp .le (.var 1) (.glb "MOST_PICTURES" (.int 256)))) .nil)))))
def F_is_world : List D → R D := fnD 400 1 3 B_is_world
def B_look : Ss := (.cons (.ite (.not (.call "is_world" F_is_world (.cons (.var 0) .nil))) (.cons (.rse 1) .nil) .nil) .nil)
def F_look : List D → R D := fnD 400 1 1 B_look
def B_is_step : Ss := (.cons (.ite (.or (.not (.isI (.var 1) .tuple)) (.cmp .ne (.bi .len (.cons (.bor 1) .nil)) (.con (.int 2)))) (.cons (.ret (.con (.bool false))) .nil) .nil) (.cons (.ret (.and (.call "is_within" F_is_within (.cons (.idx (.bor 1) (.con (.int 0))) (.cons (.con (.int 0)) (.cons (.bin .sub (.idx (.bor 0) (.con (.int 0))) (.con (.int 1))) .nil)))) (.call "is_within" F_is_within (.cons (.idx (.bor 1) (.con (.int 1))) (.cons (.con (.int 0)) (.cons (.bin .sub (.idx (.bor 0) (.con (.int 1))) (.con (.int 1))) .nil)))))) .nil))
def F_is_step : List D → R D := fnD 400 2 2 B_is_step
def B_rises : Ss := (.cons (.ret (.not (.lc (.con (.int 1)) (.tp [1, 2]) (.zip (.var 0) (.slc (.var 0) (.som (.con (.int 1))) .non)) (.cmp .ge (.var 1) (.var 2)) [1, 2]))) .nil)
def F_rises : List D → R D := fnD 400 1 3 B_rises
def B_is_window : Ss := (.cons (.ite (.or (.not (.isI (.var 1) .tuple)) (.or (.not (.var 1)) (.lc (.var 2) (.nm 2) (.val (.var 1)) (.not (.call "is_step" F_is_step (.cons (.var 0) (.cons (.var 2) .nil)))) [2]))) (.cons (.ret (.con (.bool false))) .nil) .nil) (.cons (.ret (.call "rises" F_rises (.cons (.var 1) .nil))) .nil))
def F_is_window : List D → R D := fnD 400 2 3 B_is_window
def B_are_cells : Ss := (.cons (.ite (.or (.not (.isI (.var 1) .tuple)) (.lc (.var 2) (.nm 2) (.val (.var 1)) (.not (.call "is_within" F_is_within (.cons (.var 2) (.cons (.con (.int 0)) (.cons (.bin .sub (.bin .mul (.idx (.bor 0) (.con (.int 0))) (.idx (.bor 0) (.con (.int 1)))) (.con (.int 1))) .nil))))) [2])) (.cons (.ret (.con (.bool false))) .nil) .nil) (.cons (.ret (.call "rises" F_rises (.cons (.var 1) .nil))) .nil))
def F_are_cells : List D → R D := fnD 400 2 3 B_are_cells
def B_is_deed : Ss := (.cons (.ite (.or (.not (.isI (.var 1) .tuple)) (.or (.not (.var 1)) (.not (.isI (.idx (.bor 1) (.con (.int 0))) .str)))) (.cons (.ret (.con (.bool false))) .nil) .nil) (.cons (.ite (.cmp .eq (.idx (.bor 1) (.con (.int 0))) (.con (.str "turn"))) (.cons (.ret (.cmp .eq (.bi .len (.cons (.bor 1) .nil)) (.con (.int 1)))) .nil) .nil) (.cons (.ite (.cmp .eq (.idx (.bor 1) (.con (.int 0))) (.con (.str "shift"))) (.cons (.ret (.and (.cmp .eq (.bi .len (.cons (.bor 1) .nil)) (.con (.int 3))) (.call "is_step" F_is_step (.cons (.var 0) (.cons (.slc (.var 1) (.som (.con (.int 1))) .non) .nil))))) .nil) .nil) (.cons (.ite (.cmp .ne (.bi .len (.cons (.bor 1) .nil)) (.con (.int 2))) (.cons (.ret (.con (.bool false))) .nil) .nil) (.cons (.ite (.cmp .eq (.idx (.bor 1) (.con (.int 0))) (.con (.str "flip"))) (.cons (.ret (.and (.isI (.idx (.bor 1) (.con (.int 1))) .str) (.cmp .inn (.idx (.bor 1) (.con (.int 1))) (.glb "SIDES" (.tuple [(.str "across"), (.str "down")]))))) .nil) .nil) (.cons (.ite (.cmp .inn (.idx (.bor 1) (.con (.int 0))) (.tup (.cons (.con (.str "greatest")) (.cons (.con (.str "least")) .nil)))) (.cons (.ret (.call "is_window" F_is_window (.cons (.var 0) (.cons (.idx (.bor 1) (.con (.int 1))) .nil)))) .nil) .nil) (.cons (.ret (.and (.cmp .inn (.idx (.bor 1) (.con (.int 0))) (.tup (.cons (.con (.str "mask")) (.cons (.con (.str "lift")) .nil)))) (.call "are_cells" F_are_cells (.cons (.var 0) (.cons (.idx (.bor 1) (.con (.int 1))) .nil))))) .nil)))))))
def F_is_deed : List D → R D := fnD 400 2 2 B_is_deed
def B_look_row : Ss := (.cons (.exp (.call "look" F_look (.cons (.var 0) .nil))) (.cons (.ite (.or (.not (.isI (.var 1) .tuple)) (.or (.cmp .gt (.bi .len (.cons (.bor 1) .nil)) (.glb "MOST_DEEDS" (.int 6))) (.lc (.var 2) (.nm 2) (.val (.var 1)) (.not (.call "is_deed" F_is_deed (.cons (.var 0) (.cons (.var 2) .nil)))) [2]))) (.cons (.rse 2) .nil) .nil) .nil))
def F_look_row : List D → R D := fnD 400 2 3 B_look_row
def B_is_picture : Ss := (.cons (.ite (.or (.not (.isI (.var 1) .tuple)) (.cmp .ne (.bi .len (.cons (.bor 1) .nil)) (.bin .mul (.idx (.bor 0) (.con (.int 0))) (.idx (.bor 0) (.con (.int 1)))))) (.cons (.ret (.con (.bool false))) .nil) .nil) (.cons (.ret (.not (.lc (.var 2) (.nm 2) (.val (.var 1)) (.not (.call "is_within" F_is_within (.cons (.var 2) (.cons (.con (.int 0)) (.cons (.idx (.bor 0) (.con (.int 2))) .nil))))) [2]))) .nil))
def F_is_picture : List D → R D := fnD 400 2 3 B_is_picture
def B_look_picture : Ss := (.cons (.ite (.not (.call "is_picture" F_is_picture (.cons (.var 0) (.cons (.var 1) .nil)))) (.cons (.rse 3) .nil) .nil) .nil)
def F_look_picture : List D → R D := fnD 400 2 2 B_look_picture
def B_cell_at : Ss := (.cons (.ret (.bin .add (.bin .mul (.bin .mod (.var 2) (.idx (.bor 0) (.con (.int 1)))) (.idx (.bor 0) (.con (.int 0)))) (.bin .mod (.var 1) (.idx (.bor 0) (.con (.int 0)))))) .nil)
def F_cell_at : List D → R D := fnD 400 3 3 B_cell_at
def B_moved : Ss := (.cons (.unp [3, 4] (.tup (.cons (.bin .mod (.var 1) (.idx (.bor 0) (.con (.int 0)))) (.cons (.bin .fdiv (.var 1) (.idx (.bor 0) (.con (.int 0)))) .nil)))) (.cons (.ite (.cmp .eq (.idx (.bor 2) (.con (.int 0))) (.con (.str "shift"))) (.cons (.ret (.call "cell_at" F_cell_at (.cons (.var 0) (.cons (.bin .add (.var 3) (.idx (.bor 2) (.con (.int 1)))) (.cons (.bin .add (.var 4) (.idx (.bor 2) (.con (.int 2)))) .nil))))) .nil) .nil) (.cons (.ite (.cmp .eq (.idx (.bor 2) (.con (.int 1))) (.con (.str "across"))) (.cons (.ret (.call "cell_at" F_cell_at (.cons (.var 0) (.cons (.bin .sub (.bin .sub (.idx (.bor 0) (.con (.int 0))) (.con (.int 1))) (.var 3)) (.cons (.var 4) .nil))))) .nil) .nil) (.cons (.ret (.call "cell_at" F_cell_at (.cons (.var 0) (.cons (.var 3) (.cons (.bin .sub (.bin .sub (.idx (.bor 0) (.con (.int 1))) (.con (.int 1))) (.var 4)) .nil))))) .nil))))
def F_moved : List D → R D := fnD 400 3 5 B_moved
def B_seen : Ss := (.cons (.unp [4, 5] (.tup (.cons (.bin .mod (.var 3) (.idx (.bor 0) (.con (.int 0)))) (.cons (.bin .fdiv (.var 3) (.idx (.bor 0) (.con (.int 0)))) .nil)))) (.cons (.ret (.lc (.idx (.bor 1) (.call "cell_at" F_cell_at (.cons (.var 0) (.cons (.bin .add (.var 4) (.idx (.bor 6) (.con (.int 0)))) (.cons (.bin .add (.var 5) (.idx (.bor 6) (.con (.int 1)))) .nil))))) (.nm 6) (.val (.var 2)) (.con (.bool true)) [6])) .nil))
def F_seen : List D → R D := fnD 400 4 7 B_seen
def B_done : Ss := (.cons (.set 3 (.bi .listRange (.cons (.bi .len (.cons (.bor 1) .nil)) .nil))) (.cons (.set 4 (.idx (.bor 2) (.con (.int 0)))) (.cons (.ite (.cmp .eq (.var 4) (.con (.str "turn"))) (.cons (.ret (.bi .tuple (.cons (.lc (.bin .sub (.idx (.bor 0) (.con (.int 2))) (.var 6)) (.nm 6) (.val (.var 1)) (.con (.bool true)) [6]) .nil))) .nil) .nil) (.cons (.ite (.cmp .inn (.var 4) (.tup (.cons (.con (.str "shift")) (.cons (.con (.str "flip")) .nil)))) (.cons (.set 5 (.bi .dictOf (.cons (.lc (.tup (.cons (.call "moved" F_moved (.cons (.var 0) (.cons (.var 7) (.cons (.var 2) .nil)))) (.cons (.idx (.bor 1) (.var 7)) .nil))) (.nm 7) (.val (.var 3)) (.con (.bool true)) [7]) .nil))) (.cons (.ret (.bi .tuple (.cons (.lc (.idx (.bor 5) (.var 7)) (.nm 7) (.val (.var 3)) (.con (.bool true)) [7]) .nil))) .nil)) .nil) (.cons (.ite (.cmp .eq (.var 4) (.con (.str "greatest"))) (.cons (.ret (.bi .tuple (.cons (.lc (.bi .max (.cons (.call "seen" F_seen (.cons (.var 0) (.cons (.var 1) (.cons (.idx (.bor 2) (.con (.int 1))) (.cons (.var 7) .nil))))) .nil)) (.nm 7) (.val (.var 3)) (.con (.bool true)) [7]) .nil))) .nil) .nil) (.cons (.ite (.cmp .eq (.var 4) (.con (.str "least"))) (.cons (.ret (.bi .tuple (.cons (.lc (.bi .min (.cons (.call "seen" F_seen (.cons (.var 0) (.cons (.var 1) (.cons (.idx (.bor 2) (.con (.int 1))) (.cons (.var 7) .nil))))) .nil)) (.nm 7) (.val (.var 3)) (.con (.bool true)) [7]) .nil))) .nil) .nil) (.cons (.ite (.cmp .eq (.var 4) (.con (.str "mask"))) (.cons (.ret (.bi .tuple (.cons (.lc (.ite (.cmp .inn (.var 7) (.idx (.bor 2) (.con (.int 1)))) (.idx (.bor 1) (.var 7)) (.con (.int 0))) (.nm 7) (.val (.var 3)) (.con (.bool true)) [7]) .nil))) .nil) .nil) (.cons (.ret (.bi .tuple (.cons (.lc (.ite (.cmp .inn (.var 7) (.idx (.bor 2) (.con (.int 1)))) (.idx (.bor 0) (.con (.int 2))) (.idx (.bor 1) (.var 7))) (.nm 7) (.val (.var 3)) (.con (.bool true)) [7]) .nil))) .nil))))))))
def F_done : List D → R D := fnD 400 3 8 B_done
def B_all_done : Ss := (.cons (.for (.nm 3) (.val (.var 2)) (.cons (.set 1 (.call "done" F_done (.cons (.var 0) (.cons (.var 1) (.cons (.var 3) .nil))))) .nil)) (.cons (.ret (.var 1)) .nil))
def F_all_done : List D → R D := fnD 400 3 4 B_all_done
def B_after : Ss := (.cons (.exp (.call "look_row" F_look_row (.cons (.var 0) (.cons (.var 1) .nil)))) (.cons (.exp (.call "look_picture" F_look_picture (.cons (.var 0) (.cons (.var 2) .nil)))) (.cons (.ret (.call "all_done" F_all_done (.cons (.var 0) (.cons (.var 2) (.cons (.var 1) .nil))))) .nil)))
def F_after : List D → R D := fnD 400 3 3 B_after
def B__law_done : Ss := (.cons (.unp [3, 4, 5] (.var 0)) (.cons (.set 6 (.idx (.bor 2) (.con (.int 0)))) (.cons (.own 7 (.lst .nil)) (.cons (.for (.nm 8) (.rng (.bin .mul (.var 3) (.var 4))) (.cons (.unp [9, 10] (.tup (.cons (.bin .mod (.var 8) (.var 3)) (.cons (.bin .fdiv (.var 8) (.var 3)) .nil)))) (.cons (.ite (.cmp .eq (.var 6) (.con (.str "turn"))) (.cons (.set 11 (.bin .sub (.var 5) (.idx (.bor 1) (.var 8)))) .nil) (.cons (.ite (.cmp .eq (.var 6) (.con (.str "shift"))) (.cons (.set 11 (.idx (.bor 1) (.bin .add (.bin .mul (.bin .mod (.bin .sub (.var 10) (.idx (.bor 2) (.con (.int 2)))) (.var 4)) (.var 3)) (.bin .mod (.bin .sub (.var 9) (.idx (.bor 2) (.con (.int 1)))) (.var 3))))) .nil) (.cons (.ite (.cmp .eq (.var 6) (.con (.str "flip"))) (.cons (.set 11 (.ite (.cmp .eq (.idx (.bor 2) (.con (.int 1))) (.con (.str "across"))) (.idx (.bor 1) (.bin .sub (.bin .sub (.bin .add (.bin .mul (.var 10) (.var 3)) (.var 3)) (.con (.int 1))) (.var 9))) (.idx (.bor 1) (.bin .add (.bin .mul (.bin .sub (.bin .sub (.var 4) (.con (.int 1))) (.var 10)) (.var 3)) (.var 9))))) .nil) (.cons (.ite (.cmp .eq (.var 6) (.con (.str "mask"))) (.cons (.set 11 (.idx (.lst (.cons (.con (.int 0)) (.cons (.idx (.bor 1) (.var 8)) .nil))) (.bi .int (.cons (.cmp .inn (.var 8) (.idx (.bor 2) (.con (.int 1)))) .nil)))) .nil) (.cons (.ite (.cmp .eq (.var 6) (.con (.str "lift"))) (.cons (.set 11 (.idx (.lst (.cons (.idx (.bor 1) (.var 8)) (.cons (.var 5) .nil))) (.bi .int (.cons (.cmp .inn (.var 8) (.idx (.bor 2) (.con (.int 1)))) .nil)))) .nil) (.cons (.set 12 (.bi .sorted (.cons (.lc (.idx (.bor 1) (.bin .add (.bin .mul (.bin .mod (.bin .add (.var 10) (.var 14)) (.var 4)) (.var 3)) (.bin .mod (.bin .add (.var 9) (.var 13)) (.var 3)))) (.tp [13, 14]) (.val (.idx (.bor 2) (.con (.int 1)))) (.con (.bool true)) [13, 14]) .nil))) (.cons (.set 11 (.ite (.cmp .eq (.var 6) (.con (.str "least"))) (.idx (.bor 12) (.con (.int 0))) (.idx (.bor 12) (.neg (.con (.int 1)))))) .nil))) .nil)) .nil)) .nil)) .nil)) (.cons (.app 7 (.var 11)) .nil)))) (.cons (.frz 7) (.cons (.ret (.bi .tuple (.cons (.var 7) .nil))) .nil))))))
def F__law_done : List D → R D := fnD 400 3 15 B__law_done
def B__law_after : Ss := (.cons (.set 3 (.var 1)) (.cons (.for (.nm 4) (.val (.var 2)) (.cons (.set 3 (.call "_law_done" F__law_done (.cons (.var 0) (.cons (.var 3) (.cons (.var 4) .nil))))) .nil)) (.cons (.ret (.var 3)) .nil)))
def F__law_after : List D → R D := fnD 400 3 5 B__law_after
def B__law_mix : Ss := (.cons (.ret (.bin .mod (.bin .mod (.bin .pow (.bin .mod (.bin .mul (.var 0) (.con (.int 48271))) (.var 1)) (.con (.int 3))) (.var 1)) (.var 2))) .nil)
def F__law_mix : List D → R D := fnD 400 3 3 B__law_mix
def B_rest_of : Ss := (.cons (.ret (.bi .tuple (.cons (.lc (.var 2) (.nm 2) (.rng (.bin .mul (.idx (.bor 0) (.con (.int 0))) (.idx (.bor 0) (.con (.int 1))))) (.cmp .nin (.var 2) (.bor 1)) [2]) .nil))) .nil)
def F_rest_of : List D → R D := fnD 400 2 3 B_rest_of
def B_turned_deed : Ss := (.cons (.ite (.cmp .eq (.idx (.bor 1) (.con (.int 0))) (.con (.str "greatest"))) (.cons (.ret (.tup (.cons (.con (.str "least")) (.cons (.idx (.bor 1) (.con (.int 1))) .nil)))) .nil) .nil) (.cons (.ite (.cmp .eq (.idx (.bor 1) (.con (.int 0))) (.con (.str "least"))) (.cons (.ret (.tup (.cons (.con (.str "greatest")) (.cons (.idx (.bor 1) (.con (.int 1))) .nil)))) .nil) .nil) (.cons (.ite (.cmp .eq (.idx (.bor 1) (.con (.int 0))) (.con (.str "mask"))) (.cons (.ret (.tup (.cons (.con (.str "lift")) (.cons (.call "rest_of" F_rest_of (.cons (.var 0) (.cons (.idx (.bor 1) (.con (.int 1))) .nil))) .nil)))) .nil) .nil) (.cons (.ret (.tup (.cons (.con (.str "mask")) (.cons (.call "rest_of" F_rest_of (.cons (.var 0) (.cons (.idx (.bor 1) (.con (.int 1))) .nil))) .nil)))) .nil))))
def F_turned_deed : List D → R D := fnD 400 2 2 B_turned_deed
def B_led_cells : Ss := (.cons (.ret (.bi .tuple (.cons (.lc (.var 3) (.nm 3) (.rng (.bin .mul (.idx (.bor 0) (.con (.int 0))) (.idx (.bor 0) (.con (.int 1))))) (.cmp .inn (.call "moved" F_moved (.cons (.var 0) (.cons (.var 3) (.cons (.var 1) .nil)))) (.bor 2)) [3]) .nil))) .nil)
def F_led_cells : List D → R D := fnD 400 3 4 B_led_cells
def B_led_step : Ss := (.cons (.ite (.cmp .eq (.idx (.bor 1) (.con (.int 1))) (.con (.str "across"))) (.cons (.ret (.tup (.cons (.bin .mod (.neg (.idx (.bor 2) (.con (.int 0)))) (.idx (.bor 0) (.con (.int 0)))) (.cons (.idx (.bor 2) (.con (.int 1))) .nil)))) .nil) .nil) (.cons (.ret (.tup (.cons (.idx (.bor 2) (.con (.int 0))) (.cons (.bin .mod (.neg (.idx (.bor 2) (.con (.int 1)))) (.idx (.bor 0) (.con (.int 1)))) .nil)))) .nil))
def F_led_step : List D → R D := fnD 400 3 3 B_led_step
def B_past : Ss := (.cons (.ite (.cmp .eq (.idx (.bor 1) (.con (.int 0))) (.con (.str "turn"))) (.cons (.ret (.call "turned_deed" F_turned_deed (.cons (.var 0) (.cons (.var 2) .nil)))) .nil) .nil) (.cons (.ite (.cmp .inn (.idx (.bor 2) (.con (.int 0))) (.tup (.cons (.con (.str "mask")) (.cons (.con (.str "lift")) .nil)))) (.cons (.ret (.tup (.cons (.idx (.bor 2) (.con (.int 0))) (.cons (.call "led_cells" F_led_cells (.cons (.var 0) (.cons (.var 1) (.cons (.idx (.bor 2) (.con (.int 1))) .nil)))) .nil)))) .nil) .nil) (.cons (.ite (.cmp .eq (.idx (.bor 1) (.con (.int 0))) (.con (.str "shift"))) (.cons (.ret (.var 2)) .nil) .nil) (.cons (.ret (.tup (.cons (.idx (.bor 2) (.con (.int 0))) (.cons (.bi .tuple (.cons (.bi .sorted (.cons (.lc (.call "led_step" F_led_step (.cons (.var 0) (.cons (.var 1) (.cons (.var 3) .nil)))) (.nm 3) (.val (.idx (.bor 2) (.con (.int 1)))) (.con (.bool true)) [3]) .nil)) .nil)) .nil)))) .nil))))
def F_past : List D → R D := fnD 400 3 4 B_past
def B_is_idle : Ss := (.cons (.ite (.cmp .inn (.idx (.bor 1) (.con (.int 0))) (.tup (.cons (.con (.str "greatest")) (.cons (.con (.str "least")) .nil)))) (.cons (.ret (.cmp .eq (.idx (.bor 1) (.con (.int 1))) (.tup (.cons (.tup (.cons (.con (.int 0)) (.cons (.con (.int 0)) .nil))) .nil)))) .nil) .nil) (.cons (.ite (.cmp .eq (.idx (.bor 1) (.con (.int 0))) (.con (.str "mask"))) (.cons (.ret (.cmp .eq (.bi .len (.cons (.idx (.bor 1) (.con (.int 1))) .nil)) (.bin .mul (.idx (.bor 0) (.con (.int 0))) (.idx (.bor 0) (.con (.int 1)))))) .nil) .nil) (.cons (.ret (.cmp .eq (.idx (.bor 1) (.con (.int 1))) (.tup .nil))) .nil)))
def F_is_idle : List D → R D := fnD 400 2 2 B_is_idle
def B_steps_of : Ss := (.cons (.own 3 (.dct true .nil)) (.cons (.for (.nm 4) (.val (.var 1)) (.cons (.for (.nm 5) (.val (.var 2)) (.cons (.stk 3 (.tup (.cons (.bin .mod (.bin .add (.idx (.bor 4) (.con (.int 0))) (.idx (.bor 5) (.con (.int 0)))) (.idx (.bor 0) (.con (.int 0)))) (.cons (.bin .mod (.bin .add (.idx (.bor 4) (.con (.int 1))) (.idx (.bor 5) (.con (.int 1)))) (.idx (.bor 0) (.con (.int 1)))) .nil))) (.con (.bool true))) .nil)) .nil)) (.cons (.frz 3) (.cons (.ret (.bi .tuple (.cons (.bi .sorted (.cons (.var 3) .nil)) .nil))) .nil))))
def F_steps_of : List D → R D := fnD 400 3 6 B_steps_of
def B_merged : Ss := (.cons (.ite (.and (.cmp .eq (.idx (.bor 1) (.con (.int 0))) (.idx (.bor 2) (.con (.int 0)))) (.cmp .inn (.idx (.bor 1) (.con (.int 0))) (.tup (.cons (.con (.str "greatest")) (.cons (.con (.str "least")) .nil))))) (.cons (.ret (.lst (.cons (.tup (.cons (.idx (.bor 1) (.con (.int 0))) (.cons (.call "steps_of" F_steps_of (.cons (.var 0) (.cons (.idx (.bor 1) (.con (.int 1))) (.cons (.idx (.bor 2) (.con (.int 1))) .nil)))) .nil))) .nil))) .nil) .nil) (.cons (.ite (.and (.cmp .eq (.idx (.bor 1) (.con (.int 0))) (.idx (.bor 2) (.con (.int 0)))) (.cmp .eq (.idx (.bor 1) (.con (.int 0))) (.con (.str "mask")))) (.cons (.ret (.lst (.cons (.tup (.cons (.con (.str "mask")) (.cons (.bi .tuple (.cons (.lc (.var 3) (.nm 3) (.val (.idx (.bor 1) (.con (.int 1)))) (.cmp .inn (.var 3) (.idx (.bor 2) (.con (.int 1)))) [3]) .nil)) .nil))) .nil))) .nil) .nil) (.cons (.ite (.cmp .eq (.idx (.bor 1) (.con (.int 0))) (.idx (.bor 2) (.con (.int 0)))) (.cons (.ret (.lst (.cons (.tup (.cons (.con (.str "lift")) (.cons (.bi .tuple (.cons (.bi .sortedSet (.cons (.bin .add (.idx (.bor 1) (.con (.int 1))) (.idx (.bor 2) (.con (.int 1)))) .nil)) .nil)) .nil))) .nil))) .nil) .nil) (.cons (.ite (.and (.cmp .eq (.idx (.bor 1) (.con (.int 0))) (.con (.str "lift"))) (.cmp .eq (.idx (.bor 2) (.con (.int 0))) (.con (.str "mask")))) (.cons (.ret (.lst (.cons (.var 2) (.cons (.tup (.cons (.con (.str "lift")) (.cons (.bi .tuple (.cons (.lc (.var 3) (.nm 3) (.val (.idx (.bor 1) (.con (.int 1)))) (.cmp .inn (.var 3) (.idx (.bor 2) (.con (.int 1)))) [3]) .nil)) .nil))) .nil)))) .nil) .nil) (.cons (.ret (.lst (.cons (.var 1) (.cons (.var 2) .nil)))) .nil)))))
def F_merged : List D → R D := fnD 400 3 4 B_merged
def B_settled (g : List D → R D) : Ss := (.cons (.set 1 (.lc (.var 4) (.nm 4) (.val (.var 1)) (.not (.call "is_idle" F_is_idle (.cons (.var 0) (.cons (.var 4) .nil)))) [4])) (.cons (.for (.nm 2) (.rng (.bin .sub (.bi .len (.cons (.bor 1) .nil)) (.con (.int 1)))) (.cons (.set 3 (.call "merged" F_merged (.cons (.var 0) (.cons (.idx (.bor 1) (.var 2)) (.cons (.idx (.bor 1) (.bin .add (.var 2) (.con (.int 1)))) .nil))))) (.cons (.ite (.cmp .ne (.var 3) (.slc (.var 1) (.som (.var 2)) (.som (.bin .add (.var 2) (.con (.int 2)))))) (.cons (.ret (.call "settled" g (.cons (.var 0) (.cons (.bin .add (.bin .add (.slc (.var 1) .non (.som (.var 2))) (.var 3)) (.slc (.var 1) (.som (.bin .add (.var 2) (.con (.int 2)))) .non)) .nil)))) .nil) .nil) .nil))) (.cons (.ret (.var 1)) .nil)))
def G_settled : Nat → List D → R D
  | 0 => fun _ => .stuck
  | n + 1 => fnD 400 2 5 (B_settled (G_settled n))
def F_settled : List D → R D := G_settled 40
def B_free_form : Ss := (.cons (.own 2 (.dct false (.cons (.con (.str "across")) (.cons (.con (.int 0)) (.cons (.con (.str "down")) (.cons (.con (.int 0)) .nil)))))) (.cons (.set 3 (.con (.int 0))) (.cons (.set 4 (.con (.int 0))) (.cons (.set 5 (.con (.int 0))) (.cons (.for (.nm 6) (.val (.var 1)) (.cons (.ite (.cmp .eq (.idx (.bor 6) (.con (.int 0))) (.con (.str "turn"))) (.cons (.set 5 (.bin .sub (.con (.int 1)) (.var 5))) .nil) (.cons (.ite (.cmp .eq (.idx (.bor 6) (.con (.int 0))) (.con (.str "shift"))) (.cons (.aug 3 .add (.idx (.bor 6) (.con (.int 1)))) (.cons (.aug 4 .add (.idx (.bor 6) (.con (.int 2)))) .nil)) (.cons (.ite (.cmp .eq (.idx (.bor 6) (.con (.int 1))) (.con (.str "across"))) (.cons (.stk 2 (.con (.str "across")) (.bin .sub (.con (.int 1)) (.idx (.bor 2) (.con (.str "across"))))) (.cons (.set 3 (.neg (.var 3))) .nil)) (.cons (.stk 2 (.con (.str "down")) (.bin .sub (.con (.int 1)) (.idx (.bor 2) (.con (.str "down"))))) (.cons (.set 4 (.neg (.var 4))) .nil))) .nil)) .nil)) .nil)) (.cons (.own 7 (.lc (.tup (.cons (.con (.str "flip")) (.cons (.var 8) .nil))) (.nm 8) (.val (.tup (.cons (.con (.str "across")) (.cons (.con (.str "down")) .nil)))) (.cmp .eq (.idx (.bor 2) (.var 8)) (.con (.int 1))) [8])) (.cons (.ite (.cmp .ne (.call "cell_at" F_cell_at (.cons (.var 0) (.cons (.var 3) (.cons (.var 4) .nil)))) (.con (.int 0))) (.cons (.app 7 (.tup (.cons (.con (.str "shift")) (.cons (.bin .mod (.var 3) (.idx (.bor 0) (.con (.int 0)))) (.cons (.bin .mod (.var 4) (.idx (.bor 0) (.con (.int 1)))) .nil))))) .nil) .nil) (.cons (.frz 7) (.cons (.ret (.bin .add (.var 7) (.bin .mul (.lst (.cons (.tup (.cons (.con (.str "turn")) .nil)) .nil)) (.var 5)))) .nil)))))))))
def F_free_form : List D → R D := fnD 400 2 9 B_free_form
def B_form_of : Ss := (.cons (.own 2 (.lst .nil)) (.cons (.own 3 (.lst .nil)) (.cons (.for (.nm 4) (.val (.var 1)) (.cons (.ite (.cmp .inn (.idx (.bor 4) (.con (.int 0))) (.glb "FREE" (.tuple [(.str "shift"), (.str "flip"), (.str "turn")]))) (.cons (.app 2 (.var 4)) .nil) (.cons (.for (.nm 5) (.val (.rev (.bor 2))) (.cons (.set 4 (.call "past" F_past (.cons (.var 0) (.cons (.var 5) (.cons (.var 4) .nil))))) .nil)) (.cons (.app 3 (.var 4)) .nil))) .nil)) (.cons (.frz 2) (.cons (.frz 3) (.cons (.ret (.bi .tuple (.cons (.bin .add (.call "settled" F_settled (.cons (.var 0) (.cons (.var 3) .nil))) (.call "free_form" F_free_form (.cons (.var 0) (.cons (.var 2) .nil)))) .nil))) .nil))))))
def F_form_of : List D → R D := fnD 400 2 6 B_form_of
def B_form : Ss := (.cons (.exp (.call "look_row" F_look_row (.cons (.var 0) (.cons (.var 1) .nil)))) (.cons (.ret (.call "form_of" F_form_of (.cons (.var 0) (.cons (.var 1) .nil)))) .nil))
def F_form : List D → R D := fnD 400 2 2 B_form
def B__law_parted : Ss := (.cons (.for (.nm 3) (.val (.call "_law_every" F__law_every (.cons (.var 0) .nil))) (.cons (.ite (.cmp .ne (.call "_law_after" F__law_after (.cons (.var 0) (.cons (.var 3) (.cons (.var 1) .nil)))) (.call "_law_after" F__law_after (.cons (.var 0) (.cons (.var 3) (.cons (.var 2) .nil))))) (.cons (.ret (.var 3)) .nil) .nil) .nil)) (.cons (.ret (.con .none)) .nil))
def F__law_parted : List D → R D := fnD 400 3 4 B__law_parted
def B_all_pictures : Ss := (.cons (.set 1 (.lst (.cons (.tup .nil) .nil))) (.cons (.for (.nm 2) (.rng (.bin .mul (.idx (.bor 0) (.con (.int 0))) (.idx (.bor 0) (.con (.int 1))))) (.cons (.own 3 (.lst .nil)) (.cons (.for (.nm 4) (.val (.var 1)) (.cons (.ext 3 (.lc (.bin .add (.var 4) (.tup (.cons (.var 5) .nil))) (.nm 5) (.rng (.bin .add (.idx (.bor 0) (.con (.int 2))) (.con (.int 1)))) (.con (.bool true)) [5])) .nil)) (.cons (.frz 3) (.cons (.set 1 (.var 3)) .nil))))) (.cons (.ret (.var 1)) .nil)))
def F_all_pictures : List D → R D := fnD 400 1 6 B_all_pictures
def B_first_parted : Ss := (.cons (.for (.nm 3) (.val (.call "all_pictures" F_all_pictures (.cons (.var 0) .nil))) (.cons (.ite (.cmp .ne (.call "all_done" F_all_done (.cons (.var 0) (.cons (.var 3) (.cons (.var 1) .nil)))) (.call "all_done" F_all_done (.cons (.var 0) (.cons (.var 3) (.cons (.var 2) .nil))))) (.cons (.ret (.var 3)) .nil) .nil) .nil)) (.cons (.ret (.con .none)) .nil))
def F_first_parted : List D → R D := fnD 400 3 4 B_first_parted
def B_parts : Ss := (.cons (.exp (.call "look_row" F_look_row (.cons (.var 0) (.cons (.var 1) .nil)))) (.cons (.exp (.call "look_row" F_look_row (.cons (.var 0) (.cons (.var 2) .nil)))) (.cons (.ret (.call "first_parted" F_first_parted (.cons (.var 0) (.cons (.var 1) (.cons (.var 2) .nil))))) .nil)))
def F_parts : List D → R D := fnD 400 3 3 B_parts
def B__law_as : Ss := (.cons (.ret (.and (.isI (.var 0) .bool) (.cmp .eq (.var 0) (.var 1)))) .nil)
def F__law_as : List D → R D := fnD 400 2 2 B__law_as
def B_alike : Ss := (.cons (.ret (.cmp .isN (.call "parts" F_parts (.cons (.var 0) (.cons (.var 1) (.cons (.var 2) .nil)))) (.con .none))) .nil)
def F_alike : List D → R D := fnD 400 3 3 B_alike
def B_look_deed : Ss := (.cons (.ite (.not (.call "is_deed" F_is_deed (.cons (.var 0) (.cons (.var 1) .nil)))) (.cons (.rse 4) .nil) .nil) .nil)
def F_look_deed : List D → R D := fnD 400 2 2 B_look_deed
def B_may_change : Ss := (.cons (.exp (.call "look" F_look (.cons (.var 0) .nil))) (.cons (.exp (.call "look_deed" F_look_deed (.cons (.var 0) (.cons (.var 1) .nil)))) (.cons (.exp (.call "look_deed" F_look_deed (.cons (.var 0) (.cons (.var 2) .nil)))) (.cons (.ret (.cmp .isN (.call "first_parted" F_first_parted (.cons (.var 0) (.cons (.tup (.cons (.var 1) (.cons (.var 2) .nil))) (.cons (.tup (.cons (.var 2) (.cons (.var 1) .nil))) .nil)))) (.con .none))) .nil))))
def F_may_change : List D → R D := fnD 400 3 3 B_may_change
def B_passed : Ss := (.cons (.exp (.call "look" F_look (.cons (.var 0) .nil))) (.cons (.exp (.call "look_deed" F_look_deed (.cons (.var 0) (.cons (.var 1) .nil)))) (.cons (.exp (.call "look_deed" F_look_deed (.cons (.var 0) (.cons (.var 2) .nil)))) (.cons (.ite (.or (.cmp .nin (.idx (.bor 1) (.con (.int 0))) (.glb "FREE" (.tuple [(.str "shift"), (.str "flip"), (.str "turn")]))) (.cmp .inn (.idx (.bor 2) (.con (.int 0))) (.glb "FREE" (.tuple [(.str "shift"), (.str "flip"), (.str "turn")])))) (.cons (.rse 4) .nil) .nil) (.cons (.ret (.call "past" F_past (.cons (.var 0) (.cons (.var 1) (.cons (.var 2) .nil))))) .nil)))))
def F_passed : List D → R D := fnD 400 3 3 B_passed
def B__law_passed : Ss := (.cons (.set 3 (.con (.str "deed"))) (.cons (.try (.cons (.set 3 (.call "passed" F_passed (.cons (.var 0) (.cons (.var 1) (.cons (.var 2) .nil))))) .nil) [(4, 3, (.str "deed"))]) (.cons (.ret (.var 3)) .nil)))
def F__law_passed : List D → R D := fnD 400 3 4 B__law_passed
def B__law_ahead : Ss := (.cons (.unp [3, 4, 5] (.var 0)) (.cons (.unp [6, 7] (.var 2)) (.cons (.ite (.cmp .eq (.idx (.bor 1) (.con (.int 0))) (.con (.str "turn"))) (.cons (.set 8 (.idx (.dct false (.cons (.con (.str "greatest")) (.cons (.con (.str "least")) (.cons (.con (.str "least")) (.cons (.con (.str "greatest")) (.cons (.con (.str "mask")) (.cons (.con (.str "lift")) (.cons (.con (.str "lift")) (.cons (.con (.str "mask")) .nil))))))))) (.var 6))) (.cons (.ite (.cmp .inn (.var 6) (.tup (.cons (.con (.str "greatest")) (.cons (.con (.str "least")) .nil)))) (.cons (.ret (.tup (.cons (.var 8) (.cons (.var 7) .nil)))) .nil) .nil) (.cons (.ret (.tup (.cons (.var 8) (.cons (.bi .tuple (.cons (.lc (.var 10) (.nm 10) (.rng (.bin .mul (.var 3) (.var 4))) (.cmp .nin (.var 10) (.bor 7)) [10]) .nil)) .nil)))) .nil))) .nil) (.cons (.ite (.cmp .inn (.var 6) (.tup (.cons (.con (.str "mask")) (.cons (.con (.str "lift")) .nil)))) (.cons (.set 9 (.bi .tuple (.cons (.lc (.bi .int (.cons (.cmp .inn (.var 10) (.bor 7)) .nil)) (.nm 10) (.rng (.bin .mul (.var 3) (.var 4))) (.con (.bool true)) [10]) .nil))) (.cons (.ite (.cmp .eq (.idx (.bor 1) (.con (.int 0))) (.con (.str "shift"))) (.cons (.set 9 (.call "_law_done" F__law_done (.cons (.var 0) (.cons (.var 9) (.cons (.tup (.cons (.con (.str "shift")) (.cons (.bin .mod (.neg (.idx (.bor 1) (.con (.int 1)))) (.var 3)) (.cons (.bin .mod (.neg (.idx (.bor 1) (.con (.int 2)))) (.var 4)) .nil)))) .nil))))) .nil) (.cons (.set 9 (.call "_law_done" F__law_done (.cons (.var 0) (.cons (.var 9) (.cons (.var 1) .nil))))) .nil)) (.cons (.ret (.tup (.cons (.var 6) (.cons (.bi .tuple (.cons (.lc (.var 10) (.nm 10) (.rng (.bin .mul (.var 3) (.var 4))) (.cmp .eq (.idx (.bor 9) (.var 10)) (.con (.int 1))) [10]) .nil)) .nil)))) .nil))) .nil) (.cons (.ite (.cmp .eq (.idx (.bor 1) (.con (.int 0))) (.con (.str "shift"))) (.cons (.ret (.var 2)) .nil) .nil) (.cons (.ite (.cmp .eq (.idx (.bor 1) (.con (.int 1))) (.con (.str "across"))) (.cons (.ret (.tup (.cons (.var 6) (.cons (.bi .tuple (.cons (.bi .sorted (.cons (.lc (.tup (.cons (.bin .mod (.bin .sub (.var 3) (.var 11)) (.var 3)) (.cons (.var 12) .nil))) (.tp [11, 12]) (.val (.var 7)) (.con (.bool true)) [11, 12]) .nil)) .nil)) .nil)))) .nil) .nil) (.cons (.ret (.tup (.cons (.var 6) (.cons (.bi .tuple (.cons (.bi .sorted (.cons (.lc (.tup (.cons (.var 11) (.cons (.bin .mod (.bin .sub (.var 4) (.var 12)) (.var 4)) .nil))) (.tp [11, 12]) (.val (.var 7)) (.con (.bool true)) [11, 12]) .nil)) .nil)) .nil)))) .nil)))))))
def F__law_ahead : List D → R D := fnD 400 3 13 B__law_ahead
def B__law_sums : Ss := (.cons (.set 3 (.lst .nil)) (.cons (.for (.tp [4, 5]) (.val (.var 1)) (.cons (.set 3 (.bin .add (.var 3) (.lc (.tup (.cons (.bin .mod (.bin .add (.var 4) (.var 6)) (.idx (.bor 0) (.con (.int 0)))) (.cons (.bin .mod (.bin .add (.var 5) (.var 7)) (.idx (.bor 0) (.con (.int 1)))) .nil))) (.tp [6, 7]) (.val (.var 2)) (.con (.bool true)) [6, 7]))) .nil)) (.cons (.ret (.bi .tuple (.cons (.bi .sortedSet (.cons (.var 3) .nil)) .nil))) .nil)))
def F__law_sums : List D → R D := fnD 400 3 8 B__law_sums
def B__law_settled (g : List D → R D) : Ss := (.cons (.set 2 (.bi .listRange (.cons (.bin .mul (.idx (.bor 0) (.con (.int 0))) (.idx (.bor 0) (.con (.int 1)))) .nil))) (.cons (.set 3 (.lst (.cons (.tup (.cons (.con (.str "greatest")) (.cons (.tup (.cons (.tup (.cons (.con (.int 0)) (.cons (.con (.int 0)) .nil))) .nil)) .nil))) (.cons (.tup (.cons (.con (.str "least")) (.cons (.tup (.cons (.tup (.cons (.con (.int 0)) (.cons (.con (.int 0)) .nil))) .nil)) .nil))) (.cons (.tup (.cons (.con (.str "mask")) (.cons (.bi .tuple (.cons (.var 2) .nil)) .nil))) (.cons (.tup (.cons (.con (.str "lift")) (.cons (.tup .nil) .nil))) .nil)))))) (.cons (.set 4 (.lc (.var 10) (.nm 10) (.val (.var 1)) (.cmp .nin (.var 10) (.bor 3)) [10])) (.cons (.for (.nm 5) (.rng (.bin .sub (.bi .len (.cons (.bor 4) .nil)) (.con (.int 1)))) (.cons (.unp [6, 7] (.tup (.cons (.idx (.bor 4) (.var 5)) (.cons (.idx (.bor 4) (.bin .add (.var 5) (.con (.int 1)))) .nil)))) (.cons (.set 8 (.con .none)) (.cons (.ite (.and (.cmp .eq (.idx (.bor 6) (.con (.int 0))) (.idx (.bor 7) (.con (.int 0)))) (.cmp .inn (.idx (.bor 6) (.con (.int 0))) (.tup (.cons (.con (.str "greatest")) (.cons (.con (.str "least")) .nil))))) (.cons (.set 8 (.lst (.cons (.tup (.cons (.idx (.bor 6) (.con (.int 0))) (.cons (.call "_law_sums" F__law_sums (.cons (.var 0) (.cons (.idx (.bor 6) (.con (.int 1))) (.cons (.idx (.bor 7) (.con (.int 1))) .nil)))) .nil))) .nil))) .nil) (.cons (.ite (.cmp .eq (.idx (.bor 6) (.con (.int 0))) (.idx (.bor 7) (.con (.int 0)))) (.cons (.set 9 (.lc (.var 11) (.nm 11) (.val (.var 2)) (.cmp .gt (.mt .count (.lst (.cons (.cmp .inn (.var 11) (.idx (.bor 6) (.con (.int 1)))) (.cons (.cmp .inn (.var 11) (.idx (.bor 7) (.con (.int 1)))) .nil))) (.cons (.con (.bool true)) .nil)) (.bi .int (.cons (.cmp .eq (.idx (.bor 6) (.con (.int 0))) (.con (.str "mask"))) .nil))) [11])) (.cons (.set 8 (.lst (.cons (.tup (.cons (.idx (.bor 6) (.con (.int 0))) (.cons (.bi .tuple (.cons (.var 9) .nil)) .nil))) .nil))) .nil)) (.cons (.ite (.and (.cmp .eq (.idx (.bor 6) (.con (.int 0))) (.con (.str "lift"))) (.cmp .eq (.idx (.bor 7) (.con (.int 0))) (.con (.str "mask")))) (.cons (.set 8 (.lst (.cons (.var 7) (.cons (.tup (.cons (.con (.str "lift")) (.cons (.bi .tuple (.cons (.lc (.var 11) (.nm 11) (.val (.idx (.bor 6) (.con (.int 1)))) (.cmp .inn (.var 11) (.idx (.bor 7) (.con (.int 1)))) [11]) .nil)) .nil))) .nil)))) .nil) .nil) .nil)) .nil)) (.cons (.ite (.cmp .notN (.var 8) (.con .none)) (.cons (.ret (.call "_law_settled" g (.cons (.var 0) (.cons (.bin .add (.bin .add (.slc (.var 4) .non (.som (.var 5))) (.var 8)) (.slc (.var 4) (.som (.bin .add (.var 5) (.con (.int 2)))) .non)) .nil)))) .nil) .nil) .nil))))) (.cons (.ret (.var 4)) .nil)))))
def G__law_settled : Nat → List D → R D
  | 0 => fun _ => .stuck
  | n + 1 => fnD 400 2 12 (B__law_settled (G__law_settled n))
def F__law_settled : List D → R D := G__law_settled 40
def B_needless : Ss := (.cons (.exp (.call "look_row" F_look_row (.cons (.var 0) (.cons (.var 1) .nil)))) (.cons (.ret (.lc (.var 2) (.nm 2) (.rng (.bi .len (.cons (.bor 1) .nil))) (.cmp .isN (.call "first_parted" F_first_parted (.cons (.var 0) (.cons (.var 1) (.cons (.bin .add (.slc (.var 1) .non (.som (.var 2))) (.slc (.var 1) (.som (.bin .add (.var 2) (.con (.int 1)))) .non)) .nil)))) (.con .none)) [2])) .nil))
def F_needless : List D → R D := fnD 400 2 3 B_needless
def B_shortest : Ss := (.cons (.set 2 (.call "needless" F_needless (.cons (.var 0) (.cons (.var 1) .nil)))) (.cons (.whl (.var 2) (.cons (.set 1 (.bin .add (.slc (.var 1) .non (.som (.idx (.bor 2) (.neg (.con (.int 1)))))) (.slc (.var 1) (.som (.bin .add (.idx (.bor 2) (.neg (.con (.int 1)))) (.con (.int 1)))) .non))) (.cons (.set 2 (.call "needless" F_needless (.cons (.var 0) (.cons (.var 1) .nil)))) .nil))) (.cons (.ret (.var 1)) .nil)))
def F_shortest : List D → R D := fnD 400 2 3 B_shortest
def B__law_once : Ss := (.cons (.set 1 (.call "_law_world" F__law_world (.cons (.call "_law_cell" F__law_cell (.cons (.var 0) (.cons (.con (.int 0)) .nil))) .nil))) (.cons (.set 2 (.call "_law_row" F__law_row (.cons (.var 1) (.cons (.var 0) (.cons (.con (.int 1)) (.cons (.con (.int 4)) .nil)))))) (.cons (.set 3 (.call "_law_mix" F__law_mix (.cons (.call "_law_cell" F__law_cell (.cons (.var 0) (.cons (.con (.int 5)) .nil))) (.cons (.con (.int 9949)) (.cons (.bin .add (.bi .len (.cons (.bor 2) .nil)) (.con (.int 1))) .nil))))) (.cons (.ite (.cmp .eq (.bin .mod (.call "_law_cell" F__law_cell (.cons (.var 0) (.cons (.con (.int 6)) .nil))) (.con (.int 2))) (.con (.int 0))) (.cons (.set 2 (.bin .add (.bin .add (.slc (.var 2) .non (.som (.var 3))) (.slc (.var 2) (.som (.var 3)) (.som (.bin .add (.var 3) (.con (.int 1)))))) (.slc (.var 2) (.som (.var 3)) .non))) .nil) .nil) (.cons (.set 4 (.lc (.var 7) (.nm 7) (.rng (.bi .len (.cons (.bor 2) .nil))) (.cmp .isN (.call "_law_parted" F__law_parted (.cons (.var 1) (.cons (.var 2) (.cons (.bin .add (.slc (.var 2) .non (.som (.var 7))) (.slc (.var 2) (.som (.bin .add (.var 7) (.con (.int 1)))) .non)) .nil)))) (.con .none)) [7])) (.cons (.ite (.cmp .ne (.call "needless" F_needless (.cons (.var 1) (.cons (.var 2) .nil))) (.var 4)) (.cons (.ret (.con (.bool false))) .nil) .nil) (.cons (.set 5 (.var 2)) (.cons (.whl (.cmp .ne (.bor 4) (.lst .nil)) (.cons (.set 5 (.bin .add (.slc (.var 5) .non (.som (.idx (.bor 4) (.neg (.con (.int 1)))))) (.slc (.var 5) (.som (.bin .add (.idx (.bor 4) (.neg (.con (.int 1)))) (.con (.int 1)))) .non))) (.cons (.set 4 (.lc (.var 7) (.nm 7) (.rng (.bi .len (.cons (.bor 5) .nil))) (.cmp .isN (.call "_law_parted" F__law_parted (.cons (.var 1) (.cons (.var 5) (.cons (.bin .add (.slc (.var 5) .non (.som (.var 7))) (.slc (.var 5) (.som (.bin .add (.var 7) (.con (.int 1)))) .non)) .nil)))) (.con .none)) [7])) .nil))) (.cons (.set 6 (.call "shortest" F_shortest (.cons (.var 1) (.cons (.var 2) .nil)))) (.cons (.ret (.and (.cmp .eq (.var 6) (.var 5)) (.and (.cmp .eq (.call "needless" F_needless (.cons (.var 1) (.cons (.var 6) .nil))) (.lst .nil)) (.cmp (.isB true) (.call "alike" F_alike (.cons (.var 1) (.cons (.var 6) (.cons (.var 2) .nil)))) (.con (.bool true)))))) .nil))))))))))
def F__law_once : List D → R D := fnD 400 1 8 B__law_once
def B_made : Ss := (.cons (.exp (.call "look_row" F_look_row (.cons (.var 0) (.cons (.var 1) .nil)))) (.cons (.own 2 (.dct true .nil)) (.cons (.for (.nm 3) (.val (.call "all_pictures" F_all_pictures (.cons (.var 0) .nil))) (.cons (.stk 2 (.call "all_done" F_all_done (.cons (.var 0) (.cons (.var 3) (.cons (.var 1) .nil)))) (.con (.bool true))) .nil)) (.cons (.frz 2) (.cons (.ret (.bi .sorted (.cons (.var 2) .nil))) .nil)))))
def F_made : List D → R D := fnD 400 2 4 B_made
def B_stays : Ss := (.cons (.exp (.call "look_row" F_look_row (.cons (.var 0) (.cons (.var 1) .nil)))) (.cons (.ret (.lc (.var 2) (.nm 2) (.val (.call "all_pictures" F_all_pictures (.cons (.var 0) .nil))) (.cmp .eq (.call "all_done" F_all_done (.cons (.var 0) (.cons (.var 2) (.cons (.var 1) .nil)))) (.var 2)) [2])) .nil))
def F_stays : List D → R D := fnD 400 2 3 B_stays
def B_is_settling : Ss := (.cons (.exp (.call "look_row" F_look_row (.cons (.var 0) (.cons (.var 1) .nil)))) (.cons (.for (.nm 2) (.val (.call "all_pictures" F_all_pictures (.cons (.var 0) .nil))) (.cons (.set 3 (.call "all_done" F_all_done (.cons (.var 0) (.cons (.var 2) (.cons (.var 1) .nil))))) (.cons (.ite (.cmp .ne (.call "all_done" F_all_done (.cons (.var 0) (.cons (.var 3) (.cons (.var 1) .nil)))) (.var 3)) (.cons (.ret (.con (.bool false))) .nil) .nil) .nil))) (.cons (.ret (.con (.bool true))) .nil)))
def F_is_settling : List D → R D := fnD 400 2 4 B_is_settling
def B_is_undone : Ss := (.cons (.exp (.call "look_row" F_look_row (.cons (.var 0) (.cons (.var 1) .nil)))) (.cons (.ret (.cmp .eq (.bi .len (.cons (.call "made" F_made (.cons (.var 0) (.cons (.var 1) .nil))) .nil)) (.bi .len (.cons (.call "all_pictures" F_all_pictures (.cons (.var 0) .nil)) .nil)))) .nil))
def F_is_undone : List D → R D := fnD 400 2 2 B_is_undone
def B_before : Ss := (.cons (.exp (.call "look_row" F_look_row (.cons (.var 0) (.cons (.var 1) .nil)))) (.cons (.exp (.call "look_picture" F_look_picture (.cons (.var 0) (.cons (.var 2) .nil)))) (.cons (.ret (.lc (.var 3) (.nm 3) (.val (.call "all_pictures" F_all_pictures (.cons (.var 0) .nil))) (.cmp .eq (.call "all_done" F_all_done (.cons (.var 0) (.cons (.var 3) (.cons (.var 1) .nil)))) (.var 2)) [3])) .nil)))
def F_before : List D → R D := fnD 400 3 4 B_before
def B_again : Ss := (.cons (.exp (.call "look_row" F_look_row (.cons (.var 0) (.cons (.var 1) .nil)))) (.cons (.exp (.call "look_picture" F_look_picture (.cons (.var 0) (.cons (.var 2) .nil)))) (.cons (.own 3 (.dct true .nil)) (.cons (.set 4 (.con (.int 0))) (.cons (.whl (.cmp .nin (.var 2) (.bor 3)) (.cons (.stk 3 (.var 2) (.var 4)) (.cons (.set 2 (.call "all_done" F_all_done (.cons (.var 0) (.cons (.var 2) (.cons (.var 1) .nil))))) (.cons (.aug 4 .add (.con (.int 1))) .nil)))) (.cons (.ret (.tup (.cons (.idx (.bor 3) (.var 2)) (.cons (.bin .sub (.var 4) (.idx (.bor 3) (.var 2))) .nil)))) .nil))))))
def F_again : List D → R D := fnD 400 3 5 B_again
def B__law_text : Ss := (.cons (.set 1 (.idx (.bor 0) (.con (.int 0)))) (.cons (.ite (.cmp .eq (.var 1) (.con (.str "turn"))) (.cons (.ret (.var 1)) .nil) .nil) (.cons (.ite (.cmp .eq (.var 1) (.con (.str "flip"))) (.cons (.ret (.bin .add (.bin .add (.var 1) (.con (.str " "))) (.idx (.bor 0) (.con (.int 1))))) .nil) .nil) (.cons (.ite (.cmp .eq (.var 1) (.con (.str "shift"))) (.cons (.ret (.bin .add (.bin .add (.bin .add (.var 1) (.con (.str " "))) (.bi .str (.cons (.idx (.bor 0) (.con (.int 1))) .nil))) (.bi .str (.cons (.idx (.bor 0) (.con (.int 2))) .nil)))) .nil) .nil) (.cons (.ite (.cmp .inn (.var 1) (.tup (.cons (.con (.str "mask")) (.cons (.con (.str "lift")) .nil)))) (.cons (.ret (.bin .add (.bin .add (.var 1) (.con (.str " "))) (.mt .join (.con (.str "")) (.cons (.lc (.bi .str (.cons (.var 2) .nil)) (.nm 2) (.val (.idx (.bor 0) (.con (.int 1)))) (.con (.bool true)) [2]) .nil)))) .nil) .nil) (.cons (.ret (.bin .add (.bin .add (.var 1) (.con (.str " "))) (.mt .join (.con (.str ",")) (.cons (.lc (.bin .add (.bi .str (.cons (.var 3) .nil)) (.bi .str (.cons (.var 4) .nil))) (.tp [3, 4]) (.val (.idx (.bor 0) (.con (.int 1)))) (.con (.bool true)) [3, 4]) .nil)))) .nil))))))
def F__law_text : List D → R D := fnD 400 1 5 B__law_text
def B_written : Ss := (.cons (.ite (.cmp .eq (.idx (.bor 0) (.con (.int 0))) (.con (.str "turn"))) (.cons (.ret (.con (.str "turn"))) .nil) .nil) (.cons (.ite (.cmp .eq (.idx (.bor 0) (.con (.int 0))) (.con (.str "shift"))) (.cons (.ret (.bin .add (.bin .add (.con (.str "shift ")) (.bi .str (.cons (.idx (.bor 0) (.con (.int 1))) .nil))) (.bi .str (.cons (.idx (.bor 0) (.con (.int 2))) .nil)))) .nil) .nil) (.cons (.ite (.cmp .eq (.idx (.bor 0) (.con (.int 0))) (.con (.str "flip"))) (.cons (.ret (.bin .add (.con (.str "flip ")) (.idx (.bor 0) (.con (.int 1))))) .nil) .nil) (.cons (.ite (.cmp .inn (.idx (.bor 0) (.con (.int 0))) (.tup (.cons (.con (.str "mask")) (.cons (.con (.str "lift")) .nil)))) (.cons (.ret (.bin .add (.bin .add (.idx (.bor 0) (.con (.int 0))) (.con (.str " "))) (.mt .join (.con (.str "")) (.cons (.lc (.bi .str (.cons (.var 1) .nil)) (.nm 1) (.val (.idx (.bor 0) (.con (.int 1)))) (.con (.bool true)) [1]) .nil)))) .nil) .nil) (.cons (.ret (.bin .add (.bin .add (.idx (.bor 0) (.con (.int 0))) (.con (.str " "))) (.mt .join (.con (.str ",")) (.cons (.lc (.bin .add (.bi .str (.cons (.idx (.bor 2) (.con (.int 0))) .nil)) (.bi .str (.cons (.idx (.bor 2) (.con (.int 1))) .nil))) (.nm 2) (.val (.idx (.bor 0) (.con (.int 1)))) (.con (.bool true)) [2]) .nil)))) .nil)))))
def F_written : List D → R D := fnD 400 1 3 B_written
def B_shown : Ss := (.cons (.exp (.call "look_row" F_look_row (.cons (.var 0) (.cons (.var 1) .nil)))) (.cons (.ret (.mt .join (.con (.str "\n")) (.cons (.lc (.call "written" F_written (.cons (.var 2) .nil)) (.nm 2) (.val (.var 1)) (.con (.bool true)) [2]) .nil))) .nil))
def F_shown : List D → R D := fnD 400 2 3 B_shown
def B_figures_of : Ss := (.cons (.ite (.lc (.var 1) (.nm 1) (.val (.var 0)) (.cmp .nin (.var 1) (.glb "FIGURES" (.str "012345"))) [1]) (.cons (.rse 5) .nil) .nil) (.cons (.ret (.bi .tuple (.cons (.lc (.bi .int (.cons (.var 1) .nil)) (.nm 1) (.val (.var 0)) (.con (.bool true)) [1]) .nil))) .nil))
def F_figures_of : List D → R D := fnD 400 1 2 B_figures_of
def B_deed_read : Ss := (.cons (.ite (.cmp .eq (.var 0) (.con (.str "turn"))) (.cons (.ret (.tup (.cons (.con (.str "turn")) .nil))) .nil) .nil) (.cons (.set 1 (.mt .split (.bor 0) (.cons (.con (.str " ")) .nil))) (.cons (.ite (.cmp .ne (.bi .len (.cons (.bor 1) .nil)) (.con (.int 2))) (.cons (.rse 5) .nil) .nil) (.cons (.ite (.cmp .eq (.idx (.bor 1) (.con (.int 0))) (.con (.str "shift"))) (.cons (.ret (.bin .add (.tup (.cons (.con (.str "shift")) .nil)) (.call "figures_of" F_figures_of (.cons (.idx (.bor 1) (.con (.int 1))) .nil)))) .nil) .nil) (.cons (.ite (.cmp .eq (.idx (.bor 1) (.con (.int 0))) (.con (.str "flip"))) (.cons (.ret (.tup (.cons (.con (.str "flip")) (.cons (.idx (.bor 1) (.con (.int 1))) .nil)))) .nil) .nil) (.cons (.ite (.cmp .inn (.idx (.bor 1) (.con (.int 0))) (.tup (.cons (.con (.str "mask")) (.cons (.con (.str "lift")) .nil)))) (.cons (.ret (.tup (.cons (.idx (.bor 1) (.con (.int 0))) (.cons (.call "figures_of" F_figures_of (.cons (.idx (.bor 1) (.con (.int 1))) .nil)) .nil)))) .nil) .nil) (.cons (.ret (.tup (.cons (.idx (.bor 1) (.con (.int 0))) (.cons (.bi .tuple (.cons (.lc (.call "figures_of" F_figures_of (.cons (.var 2) .nil)) (.nm 2) (.val (.mt .split (.idx (.bor 1) (.con (.int 1))) (.cons (.con (.str ",")) .nil))) (.con (.bool true)) [2]) .nil)) .nil)))) .nil)))))))
def F_deed_read : List D → R D := fnD 400 1 3 B_deed_read
def B_read : Ss := (.cons (.exp (.call "look" F_look (.cons (.var 0) .nil))) (.cons (.ite (.not (.isI (.var 1) .str)) (.cons (.rse 5) .nil) .nil) (.cons (.set 2 (.ite (.cmp .ne (.var 1) (.con (.str ""))) (.mt .split (.bor 1) (.cons (.con (.str "\n")) .nil)) (.lst .nil))) (.cons (.ite (.cmp .gt (.bi .len (.cons (.bor 2) .nil)) (.glb "MOST_DEEDS" (.int 6))) (.cons (.rse 5) .nil) .nil) (.cons (.set 3 (.bi .tuple (.cons (.lc (.call "deed_read" F_deed_read (.cons (.var 5) .nil)) (.nm 5) (.val (.var 2)) (.con (.bool true)) [5]) .nil))) (.cons (.set 4 (.con (.str ""))) (.cons (.try (.cons (.set 4 (.call "shown" F_shown (.cons (.var 0) (.cons (.var 3) .nil)))) .nil) [(2, 4, (.str ""))]) (.cons (.ite (.cmp .ne (.var 4) (.var 1)) (.cons (.rse 5) .nil) .nil) (.cons (.ret (.var 3)) .nil)))))))))
def F_read : List D → R D := fnD 400 2 6 B_read
def B__law_read : Ss := (.cons (.set 2 (.con .none)) (.cons (.try (.cons (.set 2 (.call "read" F_read (.cons (.var 0) (.cons (.var 1) .nil)))) .nil) [(5, 2, .none)]) (.cons (.ret (.var 2)) .nil)))
def F__law_read : List D → R D := fnD 400 2 3 B__law_read
def B__law_in : Ss := (.cons (.ret (.and (.isI (.var 0) .int) (.and (.not (.isI (.var 0) .bool)) (.chain .le .le (.var 1) (.var 0) (.var 2))))) .nil)
def F__law_in : List D → R D := fnD 400 3 3 B__law_in
def B__law_is_deed : Ss := (.cons (.ite (.or (.not (.isI (.var 1) .tuple)) (.or (.cmp .eq (.var 1) (.tup .nil)) (.not (.isI (.idx (.bor 1) (.con (.int 0))) .str)))) (.cons (.ret (.con (.bool false))) .nil) .nil) (.cons (.set 2 (.idx (.bor 1) (.con (.int 0)))) (.cons (.ite (.cmp .eq (.var 2) (.con (.str "turn"))) (.cons (.ret (.cmp .eq (.bi .len (.cons (.bor 1) .nil)) (.con (.int 1)))) .nil) .nil) (.cons (.ite (.cmp .eq (.var 2) (.con (.str "shift"))) (.cons (.ret (.and (.cmp .eq (.bi .len (.cons (.bor 1) .nil)) (.con (.int 3))) (.and (.call "_law_in" F__law_in (.cons (.idx (.bor 1) (.con (.int 1))) (.cons (.con (.int 0)) (.cons (.bin .sub (.idx (.bor 0) (.con (.int 0))) (.con (.int 1))) .nil)))) (.call "_law_in" F__law_in (.cons (.idx (.bor 1) (.con (.int 2))) (.cons (.con (.int 0)) (.cons (.bin .sub (.idx (.bor 0) (.con (.int 1))) (.con (.int 1))) .nil))))))) .nil) .nil) (.cons (.ite (.or (.cmp .ne (.bi .len (.cons (.bor 1) .nil)) (.con (.int 2))) (.cmp .nin (.var 2) (.tup (.cons (.con (.str "flip")) (.cons (.con (.str "greatest")) (.cons (.con (.str "least")) (.cons (.con (.str "mask")) (.cons (.con (.str "lift")) .nil)))))))) (.cons (.ret (.con (.bool false))) .nil) .nil) (.cons (.ite (.cmp .eq (.var 2) (.con (.str "flip"))) (.cons (.ret (.and (.isI (.idx (.bor 1) (.con (.int 1))) .str) (.cmp .inn (.idx (.bor 1) (.con (.int 1))) (.tup (.cons (.con (.str "across")) (.cons (.con (.str "down")) .nil)))))) .nil) .nil) (.cons (.ite (.not (.isI (.idx (.bor 1) (.con (.int 1))) .tuple)) (.cons (.ret (.con (.bool false))) .nil) .nil) (.cons (.for (.nm 3) (.val (.idx (.bor 1) (.con (.int 1)))) (.cons (.ite (.cmp .inn (.var 2) (.tup (.cons (.con (.str "mask")) (.cons (.con (.str "lift")) .nil)))) (.cons (.ite (.not (.call "_law_in" F__law_in (.cons (.var 3) (.cons (.con (.int 0)) (.cons (.bin .sub (.bin .mul (.idx (.bor 0) (.con (.int 0))) (.idx (.bor 0) (.con (.int 1)))) (.con (.int 1))) .nil))))) (.cons (.ret (.con (.bool false))) .nil) .nil) .nil) (.cons (.ite (.or (.not (.isI (.var 3) .tuple)) (.cmp .ne (.bi .len (.cons (.bor 3) .nil)) (.con (.int 2)))) (.cons (.ret (.con (.bool false))) .nil) (.cons (.ite (.or (.not (.call "_law_in" F__law_in (.cons (.idx (.bor 3) (.con (.int 0))) (.cons (.con (.int 0)) (.cons (.bin .sub (.idx (.bor 0) (.con (.int 0))) (.con (.int 1))) .nil))))) (.not (.call "_law_in" F__law_in (.cons (.idx (.bor 3) (.con (.int 1))) (.cons (.con (.int 0)) (.cons (.bin .sub (.idx (.bor 0) (.con (.int 1))) (.con (.int 1))) .nil)))))) (.cons (.ret (.con (.bool false))) .nil) .nil) .nil)) .nil)) .nil)) (.cons (.ite (.and (.cmp .inn (.var 2) (.tup (.cons (.con (.str "greatest")) (.cons (.con (.str "least")) .nil)))) (.cmp .eq (.idx (.bor 1) (.con (.int 1))) (.tup .nil))) (.cons (.ret (.con (.bool false))) .nil) .nil) (.cons (.ret (.cmp .eq (.lc (.con (.int 1)) (.tp [3, 4]) (.zip (.idx (.bor 1) (.con (.int 1))) (.slc (.idx (.bor 1) (.con (.int 1))) (.som (.con (.int 1))) .non)) (.cmp .ge (.var 3) (.var 4)) [3, 4]) (.lst .nil))) .nil))))))))))
def F__law_is_deed : List D → R D := fnD 400 2 5 B__law_is_deed
def B__law_is_row : Ss := (.cons (.ite (.or (.not (.isI (.var 1) .tuple)) (.cmp .gt (.bi .len (.cons (.bor 1) .nil)) (.con (.int 6)))) (.cons (.ret (.con (.bool false))) .nil) .nil) (.cons (.ret (.cmp .eq (.lc (.var 2) (.nm 2) (.val (.var 1)) (.not (.call "_law_is_deed" F__law_is_deed (.cons (.var 0) (.cons (.var 2) .nil)))) [2]) (.lst .nil))) .nil))
def F__law_is_row : List D → R D := fnD 400 2 3 B__law_is_row
def B__law_line : Ss := (.cons (.ite (.cmp .inn (.var 1) (.tup (.cons (.con (.str "turn")) (.cons (.con (.str "flip across")) (.cons (.con (.str "flip down")) .nil))))) (.cons (.ret (.con (.bool true))) .nil) .nil) (.cons (.unp [2, 3, 4] (.mt .partition (.bor 1) (.cons (.con (.str " ")) .nil))) (.cons (.ite (.or (.cmp .eq (.var 3) (.con (.str ""))) (.cmp .ne (.lc (.var 8) (.nm 8) (.val (.var 4)) (.cmp .nin (.var 8) (.con (.str "012345,"))) [8]) (.lst .nil))) (.cons (.ret (.con (.bool false))) .nil) .nil) (.cons (.ite (.cmp .inn (.var 2) (.tup (.cons (.con (.str "mask")) (.cons (.con (.str "lift")) .nil)))) (.cons (.set 5 (.lc (.bi .int (.cons (.var 8) .nil)) (.nm 8) (.val (.var 4)) (.cmp .ne (.var 8) (.con (.str ","))) [8])) (.cons (.ite (.or (.cmp .inn (.con (.str ",")) (.bor 4)) (.cmp .ne (.var 5) (.bi .sortedSet (.cons (.var 5) .nil)))) (.cons (.ret (.con (.bool false))) .nil) .nil) (.cons (.ret (.cmp .eq (.lc (.var 9) (.nm 9) (.val (.var 5)) (.cmp .ge (.var 9) (.bin .mul (.idx (.bor 0) (.con (.int 0))) (.idx (.bor 0) (.con (.int 1))))) [9]) (.lst .nil))) .nil))) .nil) (.cons (.set 6 (.mt .split (.bor 4) (.cons (.con (.str ",")) .nil))) (.cons (.ite (.cmp .ne (.lc (.var 10) (.nm 10) (.val (.var 6)) (.cmp .ne (.bi .len (.cons (.bor 10) .nil)) (.con (.int 2))) [10]) (.lst .nil)) (.cons (.ret (.con (.bool false))) .nil) .nil) (.cons (.set 7 (.lc (.tup (.cons (.bi .int (.cons (.idx (.bor 10) (.con (.int 0))) .nil)) (.cons (.bi .int (.cons (.idx (.bor 10) (.con (.int 1))) .nil)) .nil))) (.nm 10) (.val (.var 6)) (.con (.bool true)) [10])) (.cons (.ite (.cmp .ne (.lc (.var 11) (.nm 11) (.val (.var 7)) (.or (.cmp .ge (.idx (.bor 11) (.con (.int 0))) (.idx (.bor 0) (.con (.int 0)))) (.cmp .ge (.idx (.bor 11) (.con (.int 1))) (.idx (.bor 0) (.con (.int 1))))) [11]) (.lst .nil)) (.cons (.ret (.con (.bool false))) .nil) .nil) (.cons (.ite (.cmp .eq (.var 2) (.con (.str "shift"))) (.cons (.ret (.cmp .eq (.bi .len (.cons (.bor 7) .nil)) (.con (.int 1)))) .nil) .nil) (.cons (.ret (.and (.cmp .inn (.var 2) (.tup (.cons (.con (.str "greatest")) (.cons (.con (.str "least")) .nil)))) (.cmp .eq (.var 7) (.bi .sortedSet (.cons (.var 7) .nil))))) .nil))))))))))
def F__law_line : List D → R D := fnD 400 2 12 B__law_line
def B__law_asked : Ss := (.cons (.ite (.cmp .lt (.var 0) (.con (.int 3))) (.cons (.ite (.cmp .eq (.var 0) (.con (.int 0))) (.cons (.ret (.call "after" F_after (.cons (.var 1) (.cons (.var 2) (.cons (.var 3) .nil))))) .nil) .nil) (.cons (.ret (.ite (.cmp .eq (.var 0) (.con (.int 1))) (.call "before" F_before (.cons (.var 1) (.cons (.var 2) (.cons (.var 3) .nil)))) (.call "again" F_again (.cons (.var 1) (.cons (.var 2) (.cons (.var 3) .nil)))))) .nil)) .nil) (.cons (.ite (.cmp .lt (.var 0) (.con (.int 7))) (.cons (.ite (.cmp .eq (.var 0) (.con (.int 3))) (.cons (.ret (.call "form" F_form (.cons (.var 1) (.cons (.var 2) .nil)))) .nil) .nil) (.cons (.ite (.cmp .eq (.var 0) (.con (.int 4))) (.cons (.ret (.call "parts" F_parts (.cons (.var 1) (.cons (.tup .nil) (.cons (.var 2) .nil))))) .nil) .nil) (.cons (.ret (.ite (.cmp .eq (.var 0) (.con (.int 5))) (.call "alike" F_alike (.cons (.var 1) (.cons (.var 2) (.cons (.tup .nil) .nil)))) (.call "shown" F_shown (.cons (.var 1) (.cons (.var 2) .nil))))) .nil))) .nil) (.cons (.ite (.cmp .lt (.var 0) (.con (.int 11))) (.cons (.ite (.cmp .eq (.var 0) (.con (.int 7))) (.cons (.ret (.call "stays" F_stays (.cons (.var 1) (.cons (.var 2) .nil)))) .nil) .nil) (.cons (.ite (.cmp .eq (.var 0) (.con (.int 8))) (.cons (.ret (.call "made" F_made (.cons (.var 1) (.cons (.var 2) .nil)))) .nil) .nil) (.cons (.ret (.ite (.cmp .eq (.var 0) (.con (.int 9))) (.call "is_settling" F_is_settling (.cons (.var 1) (.cons (.var 2) .nil))) (.call "is_undone" F_is_undone (.cons (.var 1) (.cons (.var 2) .nil))))) .nil))) .nil) (.cons (.ite (.cmp .eq (.var 0) (.con (.int 11))) (.cons (.ret (.call "may_change" F_may_change (.cons (.var 1) (.cons (.var 2) (.cons (.var 3) .nil))))) .nil) .nil) (.cons (.ret (.ite (.cmp .eq (.var 0) (.con (.int 12))) (.call "passed" F_passed (.cons (.var 1) (.cons (.var 2) (.cons (.var 3) .nil)))) (.call "read" F_read (.cons (.var 1) (.cons (.var 2) .nil))))) .nil)))))
def F__law_asked : List D → R D := fnD 400 4 4 B__law_asked
def B__law_word : Ss := (.cons (.set 4 (.con (.str ""))) (.cons (.try (.cons (.exp (.call "_law_asked" F__law_asked (.cons (.var 0) (.cons (.var 1) (.cons (.var 2) (.cons (.var 3) .nil)))))) .nil) [(1, 4, (.str "world")), (2, 4, (.str "row")), (3, 4, (.str "picture")), (4, 4, (.str "deed")), (5, 4, (.str "text"))]) (.cons (.ret (.var 4)) .nil)))
def F__law_word : List D → R D := fnD 400 4 5 B__law_word
def B__law_deeds_of : Ss := (.cons (.set 1 (.tup (.cons (.con (.int 1)) (.cons (.con (.int 1)) (.cons (.con (.int 1)) .nil))))) (.cons (.ite (.cmp .eq (.var 0) (.con (.int 0))) (.cons (.ret (.call "made" F_made (.cons (.con .none) (.cons (.tup .nil) .nil)))) .nil) .nil) (.cons (.ite (.cmp .eq (.var 0) (.con (.int 1))) (.cons (.ret (.call "made" F_made (.cons (.var 1) (.cons (.con .none) .nil)))) .nil) .nil) (.cons (.ite (.cmp .eq (.var 0) (.con (.int 2))) (.cons (.ret (.call "before" F_before (.cons (.var 1) (.cons (.tup .nil) (.cons (.con .none) .nil))))) .nil) .nil) (.cons (.ret (.ite (.cmp .eq (.var 0) (.con (.int 3))) (.call "passed" F_passed (.cons (.var 1) (.cons (.tup (.cons (.con (.str "turn")) .nil)) (.cons (.tup (.cons (.con (.str "turn")) .nil)) .nil)))) (.call "read" F_read (.cons (.var 1) (.cons (.con .none) .nil))))) .nil)))))
def F__law_deeds_of : List D → R D := fnD 400 1 2 B__law_deeds_of
def B__law_asks : Ss := (.cons (.set 3 (.lst (.cons (.call "after" F_after (.cons (.var 0) (.cons (.var 1) (.cons (.var 2) .nil)))) (.cons (.call "made" F_made (.cons (.var 0) (.cons (.var 1) .nil))) (.cons (.call "stays" F_stays (.cons (.var 0) (.cons (.var 1) .nil))) (.cons (.call "before" F_before (.cons (.var 0) (.cons (.var 1) (.cons (.var 2) .nil)))) .nil)))))) (.cons (.set 3 (.bin .add (.var 3) (.lst (.cons (.call "again" F_again (.cons (.var 0) (.cons (.var 1) (.cons (.var 2) .nil)))) (.cons (.call "form" F_form (.cons (.var 0) (.cons (.var 1) .nil))) (.cons (.call "needless" F_needless (.cons (.var 0) (.cons (.var 1) .nil))) (.cons (.call "shown" F_shown (.cons (.var 0) (.cons (.var 1) .nil))) .nil))))))) (.cons (.ret (.bin .add (.var 3) (.lst (.cons (.call "is_settling" F_is_settling (.cons (.var 0) (.cons (.var 1) .nil))) (.cons (.call "is_undone" F_is_undone (.cons (.var 0) (.cons (.var 1) .nil))) .nil))))) .nil)))
def F__law_asks : List D → R D := fnD 400 3 4 B__law_asks
def B__law_free_row : Ss := (.cons (.own 3 (.lst .nil)) (.cons (.for (.nm 4) (.rng (.bin .mod (.call "_law_cell" F__law_cell (.cons (.var 1) (.cons (.var 2) .nil))) (.con (.int 7)))) (.cons (.set 5 (.call "_law_seed" F__law_seed (.cons (.bin .add (.call "_law_cell" F__law_cell (.cons (.var 1) (.cons (.bin .add (.bin .add (.var 2) (.con (.int 1))) (.bin .mod (.var 4) (.con (.int 2)))) .nil))) (.bin .mul (.con (.int 41)) (.var 4))) (.cons (.var 4) .nil)))) (.cons (.set 6 (.tup (.cons (.con (.str "shift")) (.cons (.bin .mod (.bin .fdiv (.var 5) (.con (.int 7))) (.idx (.bor 0) (.con (.int 0)))) (.cons (.bin .mod (.bin .fdiv (.var 5) (.con (.int 11))) (.idx (.bor 0) (.con (.int 1)))) .nil))))) (.cons (.app 3 (.idx (.lst (.cons (.tup (.cons (.con (.str "turn")) .nil)) (.cons (.tup (.cons (.con (.str "flip")) (.cons (.con (.str "across")) .nil))) (.cons (.tup (.cons (.con (.str "flip")) (.cons (.con (.str "down")) .nil))) (.cons (.var 6) .nil))))) (.call "_law_pick" F__law_pick (.cons (.var 5) (.cons (.con (.int 4)) .nil))))) .nil)))) (.cons (.frz 3) (.cons (.ret (.bi .tuple (.cons (.var 3) .nil))) .nil))))
def F__law_free_row : List D → R D := fnD 400 3 7 B__law_free_row
def B__law_led_back : Ss := (.cons (.ret (.ite (.cmp .eq (.idx (.bor 1) (.con (.int 0))) (.con (.str "shift"))) (.tup (.cons (.con (.str "shift")) (.cons (.bin .mod (.neg (.idx (.bor 1) (.con (.int 1)))) (.idx (.bor 0) (.con (.int 0)))) (.cons (.bin .mod (.neg (.idx (.bor 1) (.con (.int 2)))) (.idx (.bor 0) (.con (.int 1)))) .nil)))) (.var 1))) .nil)
def F__law_led_back : List D → R D := fnD 400 2 2 B__law_led_back
def B_undone_deed : Ss := (.cons (.ite (.cmp .eq (.idx (.bor 1) (.con (.int 0))) (.con (.str "shift"))) (.cons (.ret (.tup (.cons (.con (.str "shift")) (.cons (.bin .mod (.neg (.idx (.bor 1) (.con (.int 1)))) (.idx (.bor 0) (.con (.int 0)))) (.cons (.bin .mod (.neg (.idx (.bor 1) (.con (.int 2)))) (.idx (.bor 0) (.con (.int 1)))) .nil))))) .nil) .nil) (.cons (.ret (.var 1)) .nil))
def F_undone_deed : List D → R D := fnD 400 2 2 B_undone_deed
def B_undoing : Ss := (.cons (.exp (.call "look_row" F_look_row (.cons (.var 0) (.cons (.var 1) .nil)))) (.cons (.ite (.lc (.var 2) (.nm 2) (.val (.var 1)) (.cmp .nin (.idx (.bor 2) (.con (.int 0))) (.glb "FREE" (.tuple [(.str "shift"), (.str "flip"), (.str "turn")]))) [2]) (.cons (.rse 4) .nil) .nil) (.cons (.ret (.call "form" F_form (.cons (.var 0) (.cons (.bi .tuple (.cons (.lc (.call "undone_deed" F_undone_deed (.cons (.var 0) (.cons (.var 2) .nil))) (.nm 2) (.val (.rev (.bor 1))) (.con (.bool true)) [2]) .nil)) .nil)))) .nil)))
def F_undoing : List D → R D := fnD 400 2 3 B_undoing
def B__law_made : Ss := (.cons (.ret (.lc (.call "_law_after" F__law_after (.cons (.var 0) (.cons (.var 2) (.cons (.var 1) .nil)))) (.nm 2) (.val (.call "_law_every" F__law_every (.cons (.var 0) .nil))) (.con (.bool true)) [2])) .nil)
def F__law_made : List D → R D := fnD 400 2 3 B__law_made
def B_rounds : Ss := (.cons (.exp (.call "look_row" F_look_row (.cons (.var 0) (.cons (.var 1) .nil)))) (.cons (.set 2 (.call "all_pictures" F_all_pictures (.cons (.var 0) .nil))) (.cons (.set 3 (.lc (.call "all_done" F_all_done (.cons (.var 0) (.cons (.var 5) (.cons (.var 1) .nil)))) (.nm 5) (.val (.var 2)) (.con (.bool true)) [5])) (.cons (.ite (.cmp .ne (.bi .setLen (.cons (.var 3) .nil)) (.bi .len (.cons (.bor 2) .nil))) (.cons (.ret (.con .none)) .nil) .nil) (.cons (.set 4 (.con (.int 1))) (.cons (.whl (.cmp .ne (.var 3) (.var 2)) (.cons (.set 3 (.lc (.call "all_done" F_all_done (.cons (.var 0) (.cons (.var 5) (.cons (.var 1) .nil)))) (.nm 5) (.val (.var 3)) (.con (.bool true)) [5])) (.cons (.aug 4 .add (.con (.int 1))) .nil))) (.cons (.ret (.var 4)) .nil)))))))
def F_rounds : List D → R D := fnD 400 2 6 B_rounds
def B_free_rows : Ss := (.cons (.own 1 (.lst .nil)) (.cons (.for (.nm 2) (.val (.tup (.cons (.tup .nil) (.cons (.tup (.cons (.tup (.cons (.con (.str "flip")) (.cons (.con (.str "across")) .nil))) .nil)) .nil)))) (.cons (.for (.nm 3) (.val (.tup (.cons (.tup .nil) (.cons (.tup (.cons (.tup (.cons (.con (.str "flip")) (.cons (.con (.str "down")) .nil))) .nil)) .nil)))) (.cons (.for (.nm 4) (.val (.tup (.cons (.tup .nil) (.cons (.tup (.cons (.tup (.cons (.con (.str "turn")) .nil)) .nil)) .nil)))) (.cons (.for (.nm 5) (.rng (.bin .mul (.idx (.bor 0) (.con (.int 0))) (.idx (.bor 0) (.con (.int 1))))) (.cons (.set 6 (.tup (.cons (.bin .mod (.var 5) (.idx (.bor 0) (.con (.int 0)))) (.cons (.bin .fdiv (.var 5) (.idx (.bor 0) (.con (.int 0)))) .nil)))) (.cons (.set 7 (.ite (.cmp .eq (.var 6) (.tup (.cons (.con (.int 0)) (.cons (.con (.int 0)) .nil)))) (.tup .nil) (.tup (.cons (.bin .add (.tup (.cons (.con (.str "shift")) .nil)) (.var 6)) .nil)))) (.cons (.app 1 (.bin .add (.bin .add (.bin .add (.var 2) (.var 3)) (.var 7)) (.var 4))) .nil)))) .nil)) .nil)) .nil)) (.cons (.frz 1) (.cons (.ret (.bi .sorted (.cons (.var 1) .nil))) .nil))))
def F_free_rows : List D → R D := fnD 400 1 8 B_free_rows
def B_look_choice : Ss := (.cons (.exp (.call "look" F_look (.cons (.var 0) .nil))) (.cons (.ite (.or (.not (.isI (.var 1) .list)) (.not (.chain .le .le (.con (.int 1)) (.bi .len (.cons (.bor 1) .nil)) (.glb "MOST_CHOICE" (.int 5))))) (.cons (.rse 6) .nil) .nil) (.cons (.ite (.or (.lc (.var 2) (.nm 2) (.val (.var 1)) (.not (.call "is_deed" F_is_deed (.cons (.var 0) (.cons (.var 2) .nil)))) [2]) (.cmp .ne (.bi .setLen (.cons (.var 1) .nil)) (.bi .len (.cons (.bor 1) .nil)))) (.cons (.rse 6) .nil) .nil) .nil)))
def F_look_choice : List D → R D := fnD 400 2 3 B_look_choice
def B_rows_from : Ss := (.cons (.own 3 (.dct true (.cons (.var 2) (.cons (.tup .nil) .nil)))) (.cons (.set 4 (.lst (.cons (.var 2) .nil))) (.cons (.whl (.var 4) (.cons (.own 5 (.lst .nil)) (.cons (.for (.nm 6) (.val (.var 4)) (.cons (.for (.nm 7) (.val (.var 1)) (.cons (.set 8 (.call "done" F_done (.cons (.var 0) (.cons (.var 6) (.cons (.var 7) .nil))))) (.cons (.ite (.cmp .nin (.var 8) (.bor 3)) (.cons (.stk 3 (.var 8) (.bin .add (.idx (.bor 3) (.var 6)) (.tup (.cons (.var 7) .nil)))) (.cons (.app 5 (.var 8)) .nil)) .nil) .nil))) .nil)) (.cons (.frz 5) (.cons (.set 4 (.var 5)) .nil))))) (.cons (.frz 3) (.cons (.ret (.var 3)) .nil)))))
def F_rows_from : List D → R D := fnD 400 3 9 B_rows_from
def B_reached : Ss := (.cons (.exp (.call "look_choice" F_look_choice (.cons (.var 0) (.cons (.var 1) .nil)))) (.cons (.exp (.call "look_picture" F_look_picture (.cons (.var 0) (.cons (.var 2) .nil)))) (.cons (.ret (.bi .sorted (.cons (.call "rows_from" F_rows_from (.cons (.var 0) (.cons (.var 1) (.cons (.var 2) .nil)))) .nil))) .nil)))
def F_reached : List D → R D := fnD 400 3 3 B_reached
def B_way_to : Ss := (.cons (.exp (.call "look_choice" F_look_choice (.cons (.var 0) (.cons (.var 1) .nil)))) (.cons (.exp (.call "look_picture" F_look_picture (.cons (.var 0) (.cons (.var 2) .nil)))) (.cons (.exp (.call "look_picture" F_look_picture (.cons (.var 0) (.cons (.var 3) .nil)))) (.cons (.ret (.mt .get1 (.call "rows_from" F_rows_from (.cons (.var 0) (.cons (.var 1) (.cons (.var 2) .nil)))) (.cons (.var 3) .nil))) .nil))))
def F_way_to : List D → R D := fnD 400 4 4 B_way_to
def B_farthest : Ss := (.cons (.exp (.call "look_choice" F_look_choice (.cons (.var 0) (.cons (.var 1) .nil)))) (.cons (.exp (.call "look_picture" F_look_picture (.cons (.var 0) (.cons (.var 2) .nil)))) (.cons (.set 3 (.call "rows_from" F_rows_from (.cons (.var 0) (.cons (.var 1) (.cons (.var 2) .nil))))) (.cons (.set 4 (.bi .max (.cons (.lc (.bi .len (.cons (.bor 5) .nil)) (.nm 5) (.vls (.var 3)) (.con (.bool true)) [5]) .nil))) (.cons (.ret (.tup (.cons (.var 4) (.cons (.bi .min (.cons (.lc (.var 6) (.nm 6) (.val (.var 3)) (.cmp .eq (.bi .len (.cons (.idx (.bor 3) (.var 6)) .nil)) (.var 4)) [6]) .nil)) .nil)))) .nil)))))
def F_farthest : List D → R D := fnD 400 3 7 B_farthest
def B_unlike_of : Ss := (.cons (.set 3 (.bi .tuple (.cons (.call "all_pictures" F_all_pictures (.cons (.var 0) .nil)) .nil))) (.cons (.own 4 (.dct true (.cons (.var 3) (.cons (.tup .nil) .nil)))) (.cons (.set 5 (.lst (.cons (.var 3) .nil))) (.cons (.for (.nm 6) (.rng (.var 2)) (.cons (.own 7 (.lst .nil)) (.cons (.for (.nm 8) (.val (.var 5)) (.cons (.for (.nm 9) (.val (.var 1)) (.cons (.set 10 (.bi .tuple (.cons (.lc (.call "done" F_done (.cons (.var 0) (.cons (.var 11) (.cons (.var 9) .nil)))) (.nm 11) (.val (.var 8)) (.con (.bool true)) [11]) .nil))) (.cons (.ite (.cmp .nin (.var 10) (.bor 4)) (.cons (.stk 4 (.var 10) (.bin .add (.idx (.bor 4) (.var 8)) (.tup (.cons (.var 9) .nil)))) (.cons (.app 7 (.var 10)) .nil)) .nil) .nil))) .nil)) (.cons (.frz 7) (.cons (.set 5 (.var 7)) .nil))))) (.cons (.frz 4) (.cons (.ret (.var 4)) .nil))))))
def F_unlike_of : List D → R D := fnD 400 3 12 B_unlike_of
def B_unlike_rows : Ss := (.cons (.exp (.call "look_choice" F_look_choice (.cons (.var 0) (.cons (.var 1) .nil)))) (.cons (.ite (.not (.call "is_within" F_is_within (.cons (.var 2) (.cons (.con (.int 0)) (.cons (.con (.int 4)) .nil))))) (.cons (.rse 7) .nil) .nil) (.cons (.ret (.bi .values (.cons (.call "unlike_of" F_unlike_of (.cons (.var 0) (.cons (.var 1) (.cons (.var 2) .nil)))) .nil))) .nil)))
def F_unlike_rows : List D → R D := fnD 400 3 3 B_unlike_rows
def B_by_choice : Ss := (.cons (.exp (.call "look_choice" F_look_choice (.cons (.var 0) (.cons (.var 1) .nil)))) (.cons (.exp (.call "look_row" F_look_row (.cons (.var 0) (.cons (.var 2) .nil)))) (.cons (.set 3 (.bi .tuple (.cons (.lc (.call "all_done" F_all_done (.cons (.var 0) (.cons (.var 4) (.cons (.var 2) .nil)))) (.nm 4) (.val (.call "all_pictures" F_all_pictures (.cons (.var 0) .nil))) (.con (.bool true)) [4]) .nil))) (.cons (.ret (.mt .get1 (.call "unlike_of" F_unlike_of (.cons (.var 0) (.cons (.var 1) (.cons (.con (.int 4)) .nil)))) (.cons (.var 3) .nil))) .nil))))
def F_by_choice : List D → R D := fnD 400 3 5 B_by_choice
def B_look_pairs : Ss := (.cons (.ite (.or (.not (.isI (.var 1) .list)) (.cmp .gt (.bi .len (.cons (.bor 1) .nil)) (.glb "MOST_PAIRS" (.int 6)))) (.cons (.rse 6) .nil) .nil) (.cons (.for (.nm 2) (.val (.var 1)) (.cons (.ite (.or (.not (.isI (.var 2) .tuple)) (.or (.cmp .ne (.bi .len (.cons (.bor 2) .nil)) (.con (.int 2))) (.lc (.var 3) (.nm 3) (.val (.var 2)) (.not (.call "is_picture" F_is_picture (.cons (.var 0) (.cons (.var 3) .nil)))) [3]))) (.cons (.rse 6) .nil) .nil) .nil)) .nil))
def F_look_pairs : List D → R D := fnD 400 2 4 B_look_pairs
def B_rows_to : Ss := (.cons (.own 2 (.lst (.cons (.tup .nil) .nil))) (.cons (.set 3 (.lst (.cons (.tup .nil) .nil))) (.cons (.for (.nm 4) (.rng (.var 1)) (.cons (.own 5 (.lst .nil)) (.cons (.for (.nm 6) (.val (.var 3)) (.cons (.ext 5 (.lc (.bin .add (.var 6) (.tup (.cons (.var 7) .nil))) (.nm 7) (.val (.var 0)) (.con (.bool true)) [7])) .nil)) (.cons (.frz 5) (.cons (.set 3 (.var 5)) (.cons (.ext 2 (.var 3)) .nil)))))) (.cons (.frz 2) (.cons (.ret (.var 2)) .nil)))))
def F_rows_to : List D → R D := fnD 400 2 8 B_rows_to
def B_fits : Ss := (.cons (.ret (.not (.lc (.var 3) (.tp [3, 4]) (.val (.var 2)) (.cmp .ne (.call "all_done" F_all_done (.cons (.var 0) (.cons (.var 3) (.cons (.var 1) .nil)))) (.var 4)) [3, 4]))) .nil)
def F_fits : List D → R D := fnD 400 3 5 B_fits
def B_fitting : Ss := (.cons (.exp (.call "look_choice" F_look_choice (.cons (.var 0) (.cons (.var 1) .nil)))) (.cons (.exp (.call "look_pairs" F_look_pairs (.cons (.var 0) (.cons (.var 2) .nil)))) (.cons (.ite (.not (.call "is_within" F_is_within (.cons (.var 3) (.cons (.con (.int 0)) (.cons (.con (.int 3)) .nil))))) (.cons (.rse 7) .nil) .nil) (.cons (.ret (.lc (.var 4) (.nm 4) (.val (.call "rows_to" F_rows_to (.cons (.var 1) (.cons (.var 3) .nil)))) (.call "fits" F_fits (.cons (.var 0) (.cons (.var 4) (.cons (.var 2) .nil)))) [4])) .nil))))
def F_fitting : List D → R D := fnD 400 4 5 B_fitting
def B_first_fitting : Ss := (.cons (.ret (.idx (.bin .add (.call "fitting" F_fitting (.cons (.var 0) (.cons (.var 1) (.cons (.var 2) (.cons (.con (.int 3)) .nil))))) (.lst (.cons (.con .none) .nil))) (.con (.int 0)))) .nil)
def F_first_fitting : List D → R D := fnD 400 3 3 B_first_fitting
def B_picture_text : Ss := (.cons (.exp (.call "look" F_look (.cons (.var 0) .nil))) (.cons (.exp (.call "look_picture" F_look_picture (.cons (.var 0) (.cons (.var 1) .nil)))) (.cons (.set 2 (.idx (.bor 0) (.con (.int 0)))) (.cons (.set 3 (.lc (.slc (.var 1) (.som (.bin .mul (.var 2) (.var 4))) (.som (.bin .mul (.var 2) (.bin .add (.var 4) (.con (.int 1)))))) (.nm 4) (.rng (.idx (.bor 0) (.con (.int 1)))) (.con (.bool true)) [4])) (.cons (.ret (.mt .join (.con (.str "\n")) (.cons (.lc (.mt .join (.con (.str "")) (.cons (.lc (.bi .str (.cons (.var 6) .nil)) (.nm 6) (.val (.var 5)) (.con (.bool true)) [6]) .nil)) (.nm 5) (.val (.var 3)) (.con (.bool true)) [5]) .nil))) .nil)))))
def F_picture_text : List D → R D := fnD 400 2 7 B_picture_text
def B_read_picture : Ss := (.cons (.exp (.call "look" F_look (.cons (.var 0) .nil))) (.cons (.ite (.not (.isI (.var 1) .str)) (.cons (.rse 5) .nil) .nil) (.cons (.set 2 (.mt .split (.bor 1) (.cons (.con (.str "\n")) .nil))) (.cons (.ite (.or (.cmp .ne (.bi .len (.cons (.bor 2) .nil)) (.idx (.bor 0) (.con (.int 1)))) (.lc (.var 4) (.nm 4) (.val (.var 2)) (.cmp .ne (.bi .len (.cons (.bor 4) .nil)) (.idx (.bor 0) (.con (.int 0)))) [4])) (.cons (.rse 5) .nil) .nil) (.cons (.set 3 (.mt .join (.con (.str "")) (.cons (.var 2) .nil))) (.cons (.ite (.lc (.var 5) (.nm 5) (.val (.var 3)) (.cmp .nin (.var 5) (.slc (.glb "FIGURES" (.str "0123")) .non (.som (.bin .add (.idx (.bor 0) (.con (.int 2))) (.con (.int 1)))))) [5]) (.cons (.rse 5) .nil) .nil) (.cons (.ret (.bi .tuple (.cons (.lc (.bi .int (.cons (.var 5) .nil)) (.nm 5) (.val (.var 3)) (.con (.bool true)) [5]) .nil))) .nil)))))))
def F_read_picture : List D → R D := fnD 400 2 6 B_read_picture
def B__law_some_picture : Ss := (.cons (.ret (.bi .tuple (.cons (.lc (.call "_law_pick" F__law_pick (.cons (.call "_law_seed" F__law_seed (.cons (.var 1) (.cons (.var 2) .nil))) (.cons (.bin .add (.idx (.bor 0) (.con (.int 2))) (.con (.int 1))) .nil))) (.nm 2) (.rng (.bin .mul (.idx (.bor 0) (.con (.int 0))) (.idx (.bor 0) (.con (.int 1))))) (.con (.bool true)) [2]) .nil))) .nil)
def F__law_some_picture : List D → R D := fnD 400 2 3 B__law_some_picture
def B__law_choice : Ss := (.cons (.own 4 (.lst .nil)) (.cons (.for (.nm 5) (.rng (.bin .add (.con (.int 1)) (.bin .mod (.call "_law_cell" F__law_cell (.cons (.var 1) (.cons (.var 2) .nil))) (.var 3)))) (.cons (.set 6 (.call "_law_deed" F__law_deed (.cons (.var 0) (.cons (.call "_law_seed" F__law_seed (.cons (.bin .add (.call "_law_cell" F__law_cell (.cons (.var 1) (.cons (.bin .add (.var 2) (.con (.int 1))) .nil))) (.bin .mul (.con (.int 41)) (.var 5))) (.cons (.var 5) .nil))) .nil)))) (.cons (.ite (.cmp .nin (.var 6) (.bor 4)) (.cons (.app 4 (.var 6)) .nil) .nil) .nil))) (.cons (.frz 4) (.cons (.ret (.var 4)) .nil))))
def F__law_choice : List D → R D := fnD 400 4 7 B__law_choice
def B__law_flood : Ss := (.cons (.own2 3 4 (.dct true (.cons (.var 2) (.cons (.tup .nil) .nil))) (.lst (.cons (.var 2) .nil))) (.cons (.whl (.cmp .ne (.bor 4) (.lst .nil)) (.cons (.own 5 (.lst .nil)) (.cons (.for (.nm 6) (.val (.var 4)) (.cons (.for (.nm 7) (.val (.var 1)) (.cons (.set 8 (.call "_law_done" F__law_done (.cons (.var 0) (.cons (.var 6) (.cons (.var 7) .nil))))) (.cons (.ite (.cmp .nin (.var 8) (.bor 3)) (.cons (.stk 3 (.var 8) (.bin .add (.idx (.bor 3) (.var 6)) (.tup (.cons (.var 7) .nil)))) (.cons (.app 5 (.var 8)) .nil)) .nil) .nil))) .nil)) (.cons (.frz 5) (.cons (.set 4 (.var 5)) .nil))))) (.cons (.frz 3) (.cons (.ret (.var 3)) .nil))))
def F__law_flood : List D → R D := fnD 400 3 9 B__law_flood
def B__law_small_world : Ss := (.cons (.ret (.idx (.lst (.cons (.tup (.cons (.con (.int 2)) (.cons (.con (.int 1)) (.cons (.con (.int 1)) .nil)))) (.cons (.tup (.cons (.con (.int 3)) (.cons (.con (.int 1)) (.cons (.con (.int 1)) .nil)))) (.cons (.tup (.cons (.con (.int 2)) (.cons (.con (.int 2)) (.cons (.con (.int 1)) .nil)))) (.cons (.tup (.cons (.con (.int 1)) (.cons (.con (.int 2)) (.cons (.con (.int 2)) .nil)))) (.cons (.tup (.cons (.con (.int 2)) (.cons (.con (.int 1)) (.cons (.con (.int 2)) .nil)))) (.cons (.tup (.cons (.con (.int 2)) (.cons (.con (.int 1)) (.cons (.con (.int 3)) .nil)))) (.cons (.tup (.cons (.con (.int 1)) (.cons (.con (.int 1)) (.cons (.con (.int 3)) .nil)))) (.cons (.tup (.cons (.con (.int 1)) (.cons (.con (.int 2)) (.cons (.con (.int 1)) .nil)))) .nil))))))))) (.bin .mod (.var 0) (.con (.int 8))))) .nil)
def F__law_small_world : List D → R D := fnD 400 1 1 B__law_small_world
def B__law_rows : Ss := (.cons (.unp [2, 3] (.tup (.cons (.lst (.cons (.tup .nil) .nil)) (.cons (.lst (.cons (.tup .nil) .nil)) .nil)))) (.cons (.for (.nm 4) (.rng (.var 1)) (.cons (.set 5 (.lst .nil)) (.cons (.for (.nm 6) (.val (.var 3)) (.cons (.set 5 (.bin .add (.var 5) (.lc (.bin .add (.var 6) (.tup (.cons (.var 7) .nil))) (.nm 7) (.val (.var 0)) (.con (.bool true)) [7]))) .nil)) (.cons (.set 3 (.var 5)) (.cons (.set 2 (.bin .add (.var 2) (.var 3))) .nil))))) (.cons (.ret (.var 2)) .nil)))
def F__law_rows : List D → R D := fnD 400 2 8 B__law_rows
def B__law_picture_text : Ss := (.cons (.set 2 (.con (.str ""))) (.cons (.for (.tp [3, 4]) (.enm (.var 1)) (.cons (.set 2 (.bin .add (.bin .add (.var 2) (.bin .mul (.con (.str "\n")) (.bi .int (.cons (.and (.cmp .gt (.var 3) (.con (.int 0))) (.cmp .eq (.bin .mod (.var 3) (.idx (.bor 0) (.con (.int 0)))) (.con (.int 0)))) .nil)))) (.bi .str (.cons (.var 4) .nil)))) .nil)) (.cons (.ret (.var 2)) .nil)))
def F__law_picture_text : List D → R D := fnD 400 2 5 B__law_picture_text
def B__law_handed : Ss := (.cons (.set 1 (.lst (.cons (.con (.str "world free")) (.cons (.con (.str "world row")) (.cons (.con (.str "world")) (.cons (.con (.str "world choice picture")) (.cons (.con (.str "world choice picture goal")) .nil))))))) (.cons (.set 1 (.bin .add (.var 1) (.lst (.cons (.con (.str "world choice picture")) (.cons (.con (.str "world choice four")) (.cons (.con (.str "world choice row")) (.cons (.con (.str "world choice pairs three")) .nil))))))) (.cons (.set 1 (.bin .add (.var 1) (.lst (.cons (.con (.str "world choice pairs")) (.cons (.con (.str "world picture")) (.cons (.con (.str "world picture")) (.cons (.con (.str "world text")) .nil))))))) (.cons (.ret (.mt .split (.idx (.bor 1) (.var 0)) (.cons (.con (.str " ")) .nil))) .nil))))
def F__law_handed : List D → R D := fnD 400 1 2 B__law_handed
def B__law_refuses : Ss := (.cons (.set 1 (.dct false (.cons (.con (.str "free")) (.cons (.con (.str "row")) (.cons (.con (.str "goal")) (.cons (.con (.str "picture")) (.cons (.con (.str "four")) (.cons (.con (.str "count")) (.cons (.con (.str "three")) (.cons (.con (.str "count")) (.cons (.con (.str "pairs")) (.cons (.con (.str "choice")) .nil)))))))))))) (.cons (.ret (.mt .get2 (.bor 1) (.cons (.var 0) (.cons (.var 0) .nil)))) .nil))
def F__law_refuses : List D → R D := fnD 400 1 2 B__law_refuses
def B__law_twin (g : List D → R D) : Ss := (.cons (.ite (.not (.isI (.var 0) .list)) (.cons (.ret (.var 0)) .nil) .nil) (.cons (.ret (.lc (.call "_law_twin" g (.cons (.var 1) .nil)) (.nm 1) (.val (.var 0)) (.con (.bool true)) [1])) .nil))
def G__law_twin : Nat → List D → R D
  | 0 => fun _ => .stuck
  | n + 1 => fnD 400 1 2 (B__law_twin (G__law_twin n))
def F__law_twin : List D → R D := G__law_twin 40
end PG
end
section
/-! The mirrors with their pieces named. -/
namespace PG
open PySem PI
def _law_window_c1 : E := (.lc (.var 7) (.tp [6, 7]) (.enm (.var 2)) (.cmp .eq (.bin .mod (.bin .fdiv (.call "_law_seed" F__law_seed (.cons (.var 1) (.cons (.var 6) .nil))) (.con (.int 7))) (.con (.int 3))) (.con (.int 0))) [6, 7])
def _law_window_c2 : E := (.lc (.tup (.cons (.var 3) (.cons (.var 5) .nil))) (.nm 5) (.rng (.idx (.bor 0) (.con (.int 1)))) (.con (.bool true)) [5])
def _law_window_b3 : Ss := (.cons (.set 2 (.bin .add (.var 2) _law_window_c2)) .nil)
def _law_deed_c1 : E := (.lc (.var 4) (.nm 4) (.rng (.bin .mul (.idx (.bor 0) (.con (.int 0))) (.idx (.bor 0) (.con (.int 1))))) (.cmp .gt (.bin .mod (.bin .fdiv (.call "_law_seed" F__law_seed (.cons (.var 1) (.cons (.var 4) .nil))) (.con (.int 5))) (.con (.int 3))) (.con (.int 0))) [4])
def _law_row_b1 : Ss := (.cons (.app 4 (.call "_law_deed" F__law_deed (.cons (.var 0) (.cons (.call "_law_seed" F__law_seed (.cons (.bin .add (.call "_law_cell" F__law_cell (.cons (.var 1) (.cons (.bin .add (.bin .add (.var 2) (.con (.int 1))) (.bin .mod (.var 5) (.con (.int 3)))) .nil))) (.bin .mul (.con (.int 41)) (.var 5))) (.cons (.var 5) .nil))) .nil)))) .nil)
def _law_every_c1 : E := (.lc (.bin .add (.var 4) (.tup (.cons (.var 5) .nil))) (.nm 5) (.rng (.bin .add (.idx (.bor 0) (.con (.int 2))) (.con (.int 1)))) (.con (.bool true)) [5])
def _law_every_b2 : Ss := (.cons (.set 3 (.bin .add (.var 3) _law_every_c1)) .nil)
def _law_every_b3 : Ss := (.cons (.set 3 (.lst .nil)) (.cons (.for (.nm 4) (.val (.var 1)) _law_every_b2) (.cons (.set 1 (.var 3)) .nil)))
def is_world_b1 : Ss := (.cons (.set 1 (.bin .mul (.var 1) (.bin .add (.idx (.bor 0) (.con (.int 2))) (.con (.int 1))))) .nil)
def rises_c1 : E := (.lc (.con (.int 1)) (.tp [1, 2]) (.zip (.var 0) (.slc (.var 0) (.som (.con (.int 1))) .non)) (.cmp .ge (.var 1) (.var 2)) [1, 2])
def is_window_c1 : E := (.lc (.var 2) (.nm 2) (.val (.var 1)) (.not (.call "is_step" F_is_step (.cons (.var 0) (.cons (.var 2) .nil)))) [2])
def are_cells_c1 : E := (.lc (.var 2) (.nm 2) (.val (.var 1)) (.not (.call "is_within" F_is_within (.cons (.var 2) (.cons (.con (.int 0)) (.cons (.bin .sub (.bin .mul (.idx (.bor 0) (.con (.int 0))) (.idx (.bor 0) (.con (.int 1)))) (.con (.int 1))) .nil))))) [2])
def look_row_c1 : E := (.lc (.var 2) (.nm 2) (.val (.var 1)) (.not (.call "is_deed" F_is_deed (.cons (.var 0) (.cons (.var 2) .nil)))) [2])
def is_picture_c1 : E := (.lc (.var 2) (.nm 2) (.val (.var 1)) (.not (.call "is_within" F_is_within (.cons (.var 2) (.cons (.con (.int 0)) (.cons (.idx (.bor 0) (.con (.int 2))) .nil))))) [2])
def seen_c1 : E := (.lc (.idx (.bor 1) (.call "cell_at" F_cell_at (.cons (.var 0) (.cons (.bin .add (.var 4) (.idx (.bor 6) (.con (.int 0)))) (.cons (.bin .add (.var 5) (.idx (.bor 6) (.con (.int 1)))) .nil))))) (.nm 6) (.val (.var 2)) (.con (.bool true)) [6])
def done_c1 : E := (.lc (.ite (.cmp .inn (.var 7) (.idx (.bor 2) (.con (.int 1)))) (.idx (.bor 0) (.con (.int 2))) (.idx (.bor 1) (.var 7))) (.nm 7) (.val (.var 3)) (.con (.bool true)) [7])
def done_c2 : E := (.lc (.ite (.cmp .inn (.var 7) (.idx (.bor 2) (.con (.int 1)))) (.idx (.bor 1) (.var 7)) (.con (.int 0))) (.nm 7) (.val (.var 3)) (.con (.bool true)) [7])
def done_c3 : E := (.lc (.bi .min (.cons (.call "seen" F_seen (.cons (.var 0) (.cons (.var 1) (.cons (.idx (.bor 2) (.con (.int 1))) (.cons (.var 7) .nil))))) .nil)) (.nm 7) (.val (.var 3)) (.con (.bool true)) [7])
def done_c4 : E := (.lc (.bi .max (.cons (.call "seen" F_seen (.cons (.var 0) (.cons (.var 1) (.cons (.idx (.bor 2) (.con (.int 1))) (.cons (.var 7) .nil))))) .nil)) (.nm 7) (.val (.var 3)) (.con (.bool true)) [7])
def done_c5 : E := (.lc (.idx (.bor 5) (.var 7)) (.nm 7) (.val (.var 3)) (.con (.bool true)) [7])
def done_c6 : E := (.lc (.tup (.cons (.call "moved" F_moved (.cons (.var 0) (.cons (.var 7) (.cons (.var 2) .nil)))) (.cons (.idx (.bor 1) (.var 7)) .nil))) (.nm 7) (.val (.var 3)) (.con (.bool true)) [7])
def done_c7 : E := (.lc (.bin .sub (.idx (.bor 0) (.con (.int 2))) (.var 6)) (.nm 6) (.val (.var 1)) (.con (.bool true)) [6])
def all_done_b1 : Ss := (.cons (.set 1 (.call "done" F_done (.cons (.var 0) (.cons (.var 1) (.cons (.var 3) .nil))))) .nil)
def _law_done_c1 : E := (.lc (.idx (.bor 1) (.bin .add (.bin .mul (.bin .mod (.bin .add (.var 10) (.var 14)) (.var 4)) (.var 3)) (.bin .mod (.bin .add (.var 9) (.var 13)) (.var 3)))) (.tp [13, 14]) (.val (.idx (.bor 2) (.con (.int 1)))) (.con (.bool true)) [13, 14])
def _law_done_b2 : Ss := (.cons (.unp [9, 10] (.tup (.cons (.bin .mod (.var 8) (.var 3)) (.cons (.bin .fdiv (.var 8) (.var 3)) .nil)))) (.cons (.ite (.cmp .eq (.var 6) (.con (.str "turn"))) (.cons (.set 11 (.bin .sub (.var 5) (.idx (.bor 1) (.var 8)))) .nil) (.cons (.ite (.cmp .eq (.var 6) (.con (.str "shift"))) (.cons (.set 11 (.idx (.bor 1) (.bin .add (.bin .mul (.bin .mod (.bin .sub (.var 10) (.idx (.bor 2) (.con (.int 2)))) (.var 4)) (.var 3)) (.bin .mod (.bin .sub (.var 9) (.idx (.bor 2) (.con (.int 1)))) (.var 3))))) .nil) (.cons (.ite (.cmp .eq (.var 6) (.con (.str "flip"))) (.cons (.set 11 (.ite (.cmp .eq (.idx (.bor 2) (.con (.int 1))) (.con (.str "across"))) (.idx (.bor 1) (.bin .sub (.bin .sub (.bin .add (.bin .mul (.var 10) (.var 3)) (.var 3)) (.con (.int 1))) (.var 9))) (.idx (.bor 1) (.bin .add (.bin .mul (.bin .sub (.bin .sub (.var 4) (.con (.int 1))) (.var 10)) (.var 3)) (.var 9))))) .nil) (.cons (.ite (.cmp .eq (.var 6) (.con (.str "mask"))) (.cons (.set 11 (.idx (.lst (.cons (.con (.int 0)) (.cons (.idx (.bor 1) (.var 8)) .nil))) (.bi .int (.cons (.cmp .inn (.var 8) (.idx (.bor 2) (.con (.int 1)))) .nil)))) .nil) (.cons (.ite (.cmp .eq (.var 6) (.con (.str "lift"))) (.cons (.set 11 (.idx (.lst (.cons (.idx (.bor 1) (.var 8)) (.cons (.var 5) .nil))) (.bi .int (.cons (.cmp .inn (.var 8) (.idx (.bor 2) (.con (.int 1)))) .nil)))) .nil) (.cons (.set 12 (.bi .sorted (.cons _law_done_c1 .nil))) (.cons (.set 11 (.ite (.cmp .eq (.var 6) (.con (.str "least"))) (.idx (.bor 12) (.con (.int 0))) (.idx (.bor 12) (.neg (.con (.int 1)))))) .nil))) .nil)) .nil)) .nil)) .nil)) (.cons (.app 7 (.var 11)) .nil)))
def _law_after_b1 : Ss := (.cons (.set 3 (.call "_law_done" F__law_done (.cons (.var 0) (.cons (.var 3) (.cons (.var 4) .nil))))) .nil)
def rest_of_c1 : E := (.lc (.var 2) (.nm 2) (.rng (.bin .mul (.idx (.bor 0) (.con (.int 0))) (.idx (.bor 0) (.con (.int 1))))) (.cmp .nin (.var 2) (.bor 1)) [2])
def led_cells_c1 : E := (.lc (.var 3) (.nm 3) (.rng (.bin .mul (.idx (.bor 0) (.con (.int 0))) (.idx (.bor 0) (.con (.int 1))))) (.cmp .inn (.call "moved" F_moved (.cons (.var 0) (.cons (.var 3) (.cons (.var 1) .nil)))) (.bor 2)) [3])
def past_c1 : E := (.lc (.call "led_step" F_led_step (.cons (.var 0) (.cons (.var 1) (.cons (.var 3) .nil)))) (.nm 3) (.val (.idx (.bor 2) (.con (.int 1)))) (.con (.bool true)) [3])
def steps_of_b1 : Ss := (.cons (.stk 3 (.tup (.cons (.bin .mod (.bin .add (.idx (.bor 4) (.con (.int 0))) (.idx (.bor 5) (.con (.int 0)))) (.idx (.bor 0) (.con (.int 0)))) (.cons (.bin .mod (.bin .add (.idx (.bor 4) (.con (.int 1))) (.idx (.bor 5) (.con (.int 1)))) (.idx (.bor 0) (.con (.int 1)))) .nil))) (.con (.bool true))) .nil)
def steps_of_b2 : Ss := (.cons (.for (.nm 5) (.val (.var 2)) steps_of_b1) .nil)
def merged_c1 : E := (.lc (.var 3) (.nm 3) (.val (.idx (.bor 1) (.con (.int 1)))) (.cmp .inn (.var 3) (.idx (.bor 2) (.con (.int 1)))) [3])
def merged_c2 : E := (.lc (.var 3) (.nm 3) (.val (.idx (.bor 1) (.con (.int 1)))) (.cmp .inn (.var 3) (.idx (.bor 2) (.con (.int 1)))) [3])
def settled_b1 (g : List D → R D) : Ss := (.cons (.set 3 (.call "merged" F_merged (.cons (.var 0) (.cons (.idx (.bor 1) (.var 2)) (.cons (.idx (.bor 1) (.bin .add (.var 2) (.con (.int 1)))) .nil))))) (.cons (.ite (.cmp .ne (.var 3) (.slc (.var 1) (.som (.var 2)) (.som (.bin .add (.var 2) (.con (.int 2)))))) (.cons (.ret (.call "settled" g (.cons (.var 0) (.cons (.bin .add (.bin .add (.slc (.var 1) .non (.som (.var 2))) (.var 3)) (.slc (.var 1) (.som (.bin .add (.var 2) (.con (.int 2)))) .non)) .nil)))) .nil) .nil) .nil))
def settled_c2 (g : List D → R D) : E := (.lc (.var 4) (.nm 4) (.val (.var 1)) (.not (.call "is_idle" F_is_idle (.cons (.var 0) (.cons (.var 4) .nil)))) [4])
def free_form_c1 : E := (.lc (.tup (.cons (.con (.str "flip")) (.cons (.var 8) .nil))) (.nm 8) (.val (.tup (.cons (.con (.str "across")) (.cons (.con (.str "down")) .nil)))) (.cmp .eq (.idx (.bor 2) (.var 8)) (.con (.int 1))) [8])
def free_form_b2 : Ss := (.cons (.ite (.cmp .eq (.idx (.bor 6) (.con (.int 0))) (.con (.str "turn"))) (.cons (.set 5 (.bin .sub (.con (.int 1)) (.var 5))) .nil) (.cons (.ite (.cmp .eq (.idx (.bor 6) (.con (.int 0))) (.con (.str "shift"))) (.cons (.aug 3 .add (.idx (.bor 6) (.con (.int 1)))) (.cons (.aug 4 .add (.idx (.bor 6) (.con (.int 2)))) .nil)) (.cons (.ite (.cmp .eq (.idx (.bor 6) (.con (.int 1))) (.con (.str "across"))) (.cons (.stk 2 (.con (.str "across")) (.bin .sub (.con (.int 1)) (.idx (.bor 2) (.con (.str "across"))))) (.cons (.set 3 (.neg (.var 3))) .nil)) (.cons (.stk 2 (.con (.str "down")) (.bin .sub (.con (.int 1)) (.idx (.bor 2) (.con (.str "down"))))) (.cons (.set 4 (.neg (.var 4))) .nil))) .nil)) .nil)) .nil)
def form_of_b1 : Ss := (.cons (.set 4 (.call "past" F_past (.cons (.var 0) (.cons (.var 5) (.cons (.var 4) .nil))))) .nil)
def form_of_b2 : Ss := (.cons (.ite (.cmp .inn (.idx (.bor 4) (.con (.int 0))) (.glb "FREE" (.tuple [(.str "shift"), (.str "flip"), (.str "turn")]))) (.cons (.app 2 (.var 4)) .nil) (.cons (.for (.nm 5) (.val (.rev (.bor 2))) form_of_b1) (.cons (.app 3 (.var 4)) .nil))) .nil)
def _law_parted_b1 : Ss := (.cons (.ite (.cmp .ne (.call "_law_after" F__law_after (.cons (.var 0) (.cons (.var 3) (.cons (.var 1) .nil)))) (.call "_law_after" F__law_after (.cons (.var 0) (.cons (.var 3) (.cons (.var 2) .nil))))) (.cons (.ret (.var 3)) .nil) .nil) .nil)
def all_pictures_c1 : E := (.lc (.bin .add (.var 4) (.tup (.cons (.var 5) .nil))) (.nm 5) (.rng (.bin .add (.idx (.bor 0) (.con (.int 2))) (.con (.int 1)))) (.con (.bool true)) [5])
def all_pictures_b2 : Ss := (.cons (.ext 3 all_pictures_c1) .nil)
def all_pictures_b3 : Ss := (.cons (.own 3 (.lst .nil)) (.cons (.for (.nm 4) (.val (.var 1)) all_pictures_b2) (.cons (.frz 3) (.cons (.set 1 (.var 3)) .nil))))
def first_parted_b1 : Ss := (.cons (.ite (.cmp .ne (.call "all_done" F_all_done (.cons (.var 0) (.cons (.var 3) (.cons (.var 1) .nil)))) (.call "all_done" F_all_done (.cons (.var 0) (.cons (.var 3) (.cons (.var 2) .nil))))) (.cons (.ret (.var 3)) .nil) .nil) .nil)
def _law_ahead_c1 : E := (.lc (.tup (.cons (.var 11) (.cons (.bin .mod (.bin .sub (.var 4) (.var 12)) (.var 4)) .nil))) (.tp [11, 12]) (.val (.var 7)) (.con (.bool true)) [11, 12])
def _law_ahead_c2 : E := (.lc (.tup (.cons (.bin .mod (.bin .sub (.var 3) (.var 11)) (.var 3)) (.cons (.var 12) .nil))) (.tp [11, 12]) (.val (.var 7)) (.con (.bool true)) [11, 12])
def _law_ahead_c3 : E := (.lc (.var 10) (.nm 10) (.rng (.bin .mul (.var 3) (.var 4))) (.cmp .eq (.idx (.bor 9) (.var 10)) (.con (.int 1))) [10])
def _law_ahead_c4 : E := (.lc (.bi .int (.cons (.cmp .inn (.var 10) (.bor 7)) .nil)) (.nm 10) (.rng (.bin .mul (.var 3) (.var 4))) (.con (.bool true)) [10])
def _law_ahead_c5 : E := (.lc (.var 10) (.nm 10) (.rng (.bin .mul (.var 3) (.var 4))) (.cmp .nin (.var 10) (.bor 7)) [10])
def _law_sums_c1 : E := (.lc (.tup (.cons (.bin .mod (.bin .add (.var 4) (.var 6)) (.idx (.bor 0) (.con (.int 0)))) (.cons (.bin .mod (.bin .add (.var 5) (.var 7)) (.idx (.bor 0) (.con (.int 1)))) .nil))) (.tp [6, 7]) (.val (.var 2)) (.con (.bool true)) [6, 7])
def _law_sums_b2 : Ss := (.cons (.set 3 (.bin .add (.var 3) _law_sums_c1)) .nil)
def _law_settled_c1 (g : List D → R D) : E := (.lc (.var 11) (.nm 11) (.val (.var 2)) (.cmp .gt (.mt .count (.lst (.cons (.cmp .inn (.var 11) (.idx (.bor 6) (.con (.int 1)))) (.cons (.cmp .inn (.var 11) (.idx (.bor 7) (.con (.int 1)))) .nil))) (.cons (.con (.bool true)) .nil)) (.bi .int (.cons (.cmp .eq (.idx (.bor 6) (.con (.int 0))) (.con (.str "mask"))) .nil))) [11])
def _law_settled_c2 (g : List D → R D) : E := (.lc (.var 11) (.nm 11) (.val (.idx (.bor 6) (.con (.int 1)))) (.cmp .inn (.var 11) (.idx (.bor 7) (.con (.int 1)))) [11])
def _law_settled_b3 (g : List D → R D) : Ss := (.cons (.unp [6, 7] (.tup (.cons (.idx (.bor 4) (.var 5)) (.cons (.idx (.bor 4) (.bin .add (.var 5) (.con (.int 1)))) .nil)))) (.cons (.set 8 (.con .none)) (.cons (.ite (.and (.cmp .eq (.idx (.bor 6) (.con (.int 0))) (.idx (.bor 7) (.con (.int 0)))) (.cmp .inn (.idx (.bor 6) (.con (.int 0))) (.tup (.cons (.con (.str "greatest")) (.cons (.con (.str "least")) .nil))))) (.cons (.set 8 (.lst (.cons (.tup (.cons (.idx (.bor 6) (.con (.int 0))) (.cons (.call "_law_sums" F__law_sums (.cons (.var 0) (.cons (.idx (.bor 6) (.con (.int 1))) (.cons (.idx (.bor 7) (.con (.int 1))) .nil)))) .nil))) .nil))) .nil) (.cons (.ite (.cmp .eq (.idx (.bor 6) (.con (.int 0))) (.idx (.bor 7) (.con (.int 0)))) (.cons (.set 9 (_law_settled_c1 g)) (.cons (.set 8 (.lst (.cons (.tup (.cons (.idx (.bor 6) (.con (.int 0))) (.cons (.bi .tuple (.cons (.var 9) .nil)) .nil))) .nil))) .nil)) (.cons (.ite (.and (.cmp .eq (.idx (.bor 6) (.con (.int 0))) (.con (.str "lift"))) (.cmp .eq (.idx (.bor 7) (.con (.int 0))) (.con (.str "mask")))) (.cons (.set 8 (.lst (.cons (.var 7) (.cons (.tup (.cons (.con (.str "lift")) (.cons (.bi .tuple (.cons (_law_settled_c2 g) .nil)) .nil))) .nil)))) .nil) .nil) .nil)) .nil)) (.cons (.ite (.cmp .notN (.var 8) (.con .none)) (.cons (.ret (.call "_law_settled" g (.cons (.var 0) (.cons (.bin .add (.bin .add (.slc (.var 4) .non (.som (.var 5))) (.var 8)) (.slc (.var 4) (.som (.bin .add (.var 5) (.con (.int 2)))) .non)) .nil)))) .nil) .nil) .nil))))
def _law_settled_c4 (g : List D → R D) : E := (.lc (.var 10) (.nm 10) (.val (.var 1)) (.cmp .nin (.var 10) (.bor 3)) [10])
def needless_c1 : E := (.lc (.var 2) (.nm 2) (.rng (.bi .len (.cons (.bor 1) .nil))) (.cmp .isN (.call "first_parted" F_first_parted (.cons (.var 0) (.cons (.var 1) (.cons (.bin .add (.slc (.var 1) .non (.som (.var 2))) (.slc (.var 1) (.som (.bin .add (.var 2) (.con (.int 1)))) .non)) .nil)))) (.con .none)) [2])
def shortest_c1 : E := (.var 2)
def shortest_b2 : Ss := (.cons (.set 1 (.bin .add (.slc (.var 1) .non (.som (.idx (.bor 2) (.neg (.con (.int 1)))))) (.slc (.var 1) (.som (.bin .add (.idx (.bor 2) (.neg (.con (.int 1)))) (.con (.int 1)))) .non))) (.cons (.set 2 (.call "needless" F_needless (.cons (.var 0) (.cons (.var 1) .nil)))) .nil))
def _law_once_c1 : E := (.cmp .ne (.bor 4) (.lst .nil))
def _law_once_c2 : E := (.lc (.var 7) (.nm 7) (.rng (.bi .len (.cons (.bor 5) .nil))) (.cmp .isN (.call "_law_parted" F__law_parted (.cons (.var 1) (.cons (.var 5) (.cons (.bin .add (.slc (.var 5) .non (.som (.var 7))) (.slc (.var 5) (.som (.bin .add (.var 7) (.con (.int 1)))) .non)) .nil)))) (.con .none)) [7])
def _law_once_b3 : Ss := (.cons (.set 5 (.bin .add (.slc (.var 5) .non (.som (.idx (.bor 4) (.neg (.con (.int 1)))))) (.slc (.var 5) (.som (.bin .add (.idx (.bor 4) (.neg (.con (.int 1)))) (.con (.int 1)))) .non))) (.cons (.set 4 _law_once_c2) .nil))
def _law_once_c4 : E := (.lc (.var 7) (.nm 7) (.rng (.bi .len (.cons (.bor 2) .nil))) (.cmp .isN (.call "_law_parted" F__law_parted (.cons (.var 1) (.cons (.var 2) (.cons (.bin .add (.slc (.var 2) .non (.som (.var 7))) (.slc (.var 2) (.som (.bin .add (.var 7) (.con (.int 1)))) .non)) .nil)))) (.con .none)) [7])
def made_b1 : Ss := (.cons (.stk 2 (.call "all_done" F_all_done (.cons (.var 0) (.cons (.var 3) (.cons (.var 1) .nil)))) (.con (.bool true))) .nil)
def stays_c1 : E := (.lc (.var 2) (.nm 2) (.val (.call "all_pictures" F_all_pictures (.cons (.var 0) .nil))) (.cmp .eq (.call "all_done" F_all_done (.cons (.var 0) (.cons (.var 2) (.cons (.var 1) .nil)))) (.var 2)) [2])
def is_settling_b1 : Ss := (.cons (.set 3 (.call "all_done" F_all_done (.cons (.var 0) (.cons (.var 2) (.cons (.var 1) .nil))))) (.cons (.ite (.cmp .ne (.call "all_done" F_all_done (.cons (.var 0) (.cons (.var 3) (.cons (.var 1) .nil)))) (.var 3)) (.cons (.ret (.con (.bool false))) .nil) .nil) .nil))
def before_c1 : E := (.lc (.var 3) (.nm 3) (.val (.call "all_pictures" F_all_pictures (.cons (.var 0) .nil))) (.cmp .eq (.call "all_done" F_all_done (.cons (.var 0) (.cons (.var 3) (.cons (.var 1) .nil)))) (.var 2)) [3])
def again_c1 : E := (.cmp .nin (.var 2) (.bor 3))
def again_b2 : Ss := (.cons (.stk 3 (.var 2) (.var 4)) (.cons (.set 2 (.call "all_done" F_all_done (.cons (.var 0) (.cons (.var 2) (.cons (.var 1) .nil))))) (.cons (.aug 4 .add (.con (.int 1))) .nil)))
def _law_text_c1 : E := (.lc (.bin .add (.bi .str (.cons (.var 3) .nil)) (.bi .str (.cons (.var 4) .nil))) (.tp [3, 4]) (.val (.idx (.bor 0) (.con (.int 1)))) (.con (.bool true)) [3, 4])
def _law_text_c2 : E := (.lc (.bi .str (.cons (.var 2) .nil)) (.nm 2) (.val (.idx (.bor 0) (.con (.int 1)))) (.con (.bool true)) [2])
def written_c1 : E := (.lc (.bin .add (.bi .str (.cons (.idx (.bor 2) (.con (.int 0))) .nil)) (.bi .str (.cons (.idx (.bor 2) (.con (.int 1))) .nil))) (.nm 2) (.val (.idx (.bor 0) (.con (.int 1)))) (.con (.bool true)) [2])
def written_c2 : E := (.lc (.bi .str (.cons (.var 1) .nil)) (.nm 1) (.val (.idx (.bor 0) (.con (.int 1)))) (.con (.bool true)) [1])
def shown_c1 : E := (.lc (.call "written" F_written (.cons (.var 2) .nil)) (.nm 2) (.val (.var 1)) (.con (.bool true)) [2])
def figures_of_c1 : E := (.lc (.bi .int (.cons (.var 1) .nil)) (.nm 1) (.val (.var 0)) (.con (.bool true)) [1])
def figures_of_c2 : E := (.lc (.var 1) (.nm 1) (.val (.var 0)) (.cmp .nin (.var 1) (.glb "FIGURES" (.str "012345"))) [1])
def deed_read_c1 : E := (.lc (.call "figures_of" F_figures_of (.cons (.var 2) .nil)) (.nm 2) (.val (.mt .split (.idx (.bor 1) (.con (.int 1))) (.cons (.con (.str ",")) .nil))) (.con (.bool true)) [2])
def read_c1 : E := (.lc (.call "deed_read" F_deed_read (.cons (.var 5) .nil)) (.nm 5) (.val (.var 2)) (.con (.bool true)) [5])
def _law_is_deed_c1 : E := (.lc (.con (.int 1)) (.tp [3, 4]) (.zip (.idx (.bor 1) (.con (.int 1))) (.slc (.idx (.bor 1) (.con (.int 1))) (.som (.con (.int 1))) .non)) (.cmp .ge (.var 3) (.var 4)) [3, 4])
def _law_is_deed_b2 : Ss := (.cons (.ite (.cmp .inn (.var 2) (.tup (.cons (.con (.str "mask")) (.cons (.con (.str "lift")) .nil)))) (.cons (.ite (.not (.call "_law_in" F__law_in (.cons (.var 3) (.cons (.con (.int 0)) (.cons (.bin .sub (.bin .mul (.idx (.bor 0) (.con (.int 0))) (.idx (.bor 0) (.con (.int 1)))) (.con (.int 1))) .nil))))) (.cons (.ret (.con (.bool false))) .nil) .nil) .nil) (.cons (.ite (.or (.not (.isI (.var 3) .tuple)) (.cmp .ne (.bi .len (.cons (.bor 3) .nil)) (.con (.int 2)))) (.cons (.ret (.con (.bool false))) .nil) (.cons (.ite (.or (.not (.call "_law_in" F__law_in (.cons (.idx (.bor 3) (.con (.int 0))) (.cons (.con (.int 0)) (.cons (.bin .sub (.idx (.bor 0) (.con (.int 0))) (.con (.int 1))) .nil))))) (.not (.call "_law_in" F__law_in (.cons (.idx (.bor 3) (.con (.int 1))) (.cons (.con (.int 0)) (.cons (.bin .sub (.idx (.bor 0) (.con (.int 1))) (.con (.int 1))) .nil)))))) (.cons (.ret (.con (.bool false))) .nil) .nil) .nil)) .nil)) .nil)
def _law_is_row_c1 : E := (.lc (.var 2) (.nm 2) (.val (.var 1)) (.not (.call "_law_is_deed" F__law_is_deed (.cons (.var 0) (.cons (.var 2) .nil)))) [2])
def _law_line_c1 : E := (.lc (.var 11) (.nm 11) (.val (.var 7)) (.or (.cmp .ge (.idx (.bor 11) (.con (.int 0))) (.idx (.bor 0) (.con (.int 0)))) (.cmp .ge (.idx (.bor 11) (.con (.int 1))) (.idx (.bor 0) (.con (.int 1))))) [11])
def _law_line_c2 : E := (.lc (.tup (.cons (.bi .int (.cons (.idx (.bor 10) (.con (.int 0))) .nil)) (.cons (.bi .int (.cons (.idx (.bor 10) (.con (.int 1))) .nil)) .nil))) (.nm 10) (.val (.var 6)) (.con (.bool true)) [10])
def _law_line_c3 : E := (.lc (.var 10) (.nm 10) (.val (.var 6)) (.cmp .ne (.bi .len (.cons (.bor 10) .nil)) (.con (.int 2))) [10])
def _law_line_c4 : E := (.lc (.var 9) (.nm 9) (.val (.var 5)) (.cmp .ge (.var 9) (.bin .mul (.idx (.bor 0) (.con (.int 0))) (.idx (.bor 0) (.con (.int 1))))) [9])
def _law_line_c5 : E := (.lc (.bi .int (.cons (.var 8) .nil)) (.nm 8) (.val (.var 4)) (.cmp .ne (.var 8) (.con (.str ","))) [8])
def _law_line_c6 : E := (.lc (.var 8) (.nm 8) (.val (.var 4)) (.cmp .nin (.var 8) (.con (.str "012345,"))) [8])
def _law_free_row_b1 : Ss := (.cons (.set 5 (.call "_law_seed" F__law_seed (.cons (.bin .add (.call "_law_cell" F__law_cell (.cons (.var 1) (.cons (.bin .add (.bin .add (.var 2) (.con (.int 1))) (.bin .mod (.var 4) (.con (.int 2)))) .nil))) (.bin .mul (.con (.int 41)) (.var 4))) (.cons (.var 4) .nil)))) (.cons (.set 6 (.tup (.cons (.con (.str "shift")) (.cons (.bin .mod (.bin .fdiv (.var 5) (.con (.int 7))) (.idx (.bor 0) (.con (.int 0)))) (.cons (.bin .mod (.bin .fdiv (.var 5) (.con (.int 11))) (.idx (.bor 0) (.con (.int 1)))) .nil))))) (.cons (.app 3 (.idx (.lst (.cons (.tup (.cons (.con (.str "turn")) .nil)) (.cons (.tup (.cons (.con (.str "flip")) (.cons (.con (.str "across")) .nil))) (.cons (.tup (.cons (.con (.str "flip")) (.cons (.con (.str "down")) .nil))) (.cons (.var 6) .nil))))) (.call "_law_pick" F__law_pick (.cons (.var 5) (.cons (.con (.int 4)) .nil))))) .nil)))
def undoing_c1 : E := (.lc (.call "undone_deed" F_undone_deed (.cons (.var 0) (.cons (.var 2) .nil))) (.nm 2) (.val (.rev (.bor 1))) (.con (.bool true)) [2])
def undoing_c2 : E := (.lc (.var 2) (.nm 2) (.val (.var 1)) (.cmp .nin (.idx (.bor 2) (.con (.int 0))) (.glb "FREE" (.tuple [(.str "shift"), (.str "flip"), (.str "turn")]))) [2])
def _law_made_c1 : E := (.lc (.call "_law_after" F__law_after (.cons (.var 0) (.cons (.var 2) (.cons (.var 1) .nil)))) (.nm 2) (.val (.call "_law_every" F__law_every (.cons (.var 0) .nil))) (.con (.bool true)) [2])
def rounds_c1 : E := (.cmp .ne (.var 3) (.var 2))
def rounds_c2 : E := (.lc (.call "all_done" F_all_done (.cons (.var 0) (.cons (.var 5) (.cons (.var 1) .nil)))) (.nm 5) (.val (.var 3)) (.con (.bool true)) [5])
def rounds_b3 : Ss := (.cons (.set 3 rounds_c2) (.cons (.aug 4 .add (.con (.int 1))) .nil))
def rounds_c4 : E := (.lc (.call "all_done" F_all_done (.cons (.var 0) (.cons (.var 5) (.cons (.var 1) .nil)))) (.nm 5) (.val (.var 2)) (.con (.bool true)) [5])
def free_rows_b1 : Ss := (.cons (.set 6 (.tup (.cons (.bin .mod (.var 5) (.idx (.bor 0) (.con (.int 0)))) (.cons (.bin .fdiv (.var 5) (.idx (.bor 0) (.con (.int 0)))) .nil)))) (.cons (.set 7 (.ite (.cmp .eq (.var 6) (.tup (.cons (.con (.int 0)) (.cons (.con (.int 0)) .nil)))) (.tup .nil) (.tup (.cons (.bin .add (.tup (.cons (.con (.str "shift")) .nil)) (.var 6)) .nil)))) (.cons (.app 1 (.bin .add (.bin .add (.bin .add (.var 2) (.var 3)) (.var 7)) (.var 4))) .nil)))
def free_rows_b2 : Ss := (.cons (.for (.nm 5) (.rng (.bin .mul (.idx (.bor 0) (.con (.int 0))) (.idx (.bor 0) (.con (.int 1))))) free_rows_b1) .nil)
def free_rows_b3 : Ss := (.cons (.for (.nm 4) (.val (.tup (.cons (.tup .nil) (.cons (.tup (.cons (.tup (.cons (.con (.str "turn")) .nil)) .nil)) .nil)))) free_rows_b2) .nil)
def free_rows_b4 : Ss := (.cons (.for (.nm 3) (.val (.tup (.cons (.tup .nil) (.cons (.tup (.cons (.tup (.cons (.con (.str "flip")) (.cons (.con (.str "down")) .nil))) .nil)) .nil)))) free_rows_b3) .nil)
def look_choice_c1 : E := (.lc (.var 2) (.nm 2) (.val (.var 1)) (.not (.call "is_deed" F_is_deed (.cons (.var 0) (.cons (.var 2) .nil)))) [2])
def rows_from_c1 : E := (.var 4)
def rows_from_b2 : Ss := (.cons (.set 8 (.call "done" F_done (.cons (.var 0) (.cons (.var 6) (.cons (.var 7) .nil))))) (.cons (.ite (.cmp .nin (.var 8) (.bor 3)) (.cons (.stk 3 (.var 8) (.bin .add (.idx (.bor 3) (.var 6)) (.tup (.cons (.var 7) .nil)))) (.cons (.app 5 (.var 8)) .nil)) .nil) .nil))
def rows_from_b3 : Ss := (.cons (.for (.nm 7) (.val (.var 1)) rows_from_b2) .nil)
def rows_from_b4 : Ss := (.cons (.own 5 (.lst .nil)) (.cons (.for (.nm 6) (.val (.var 4)) rows_from_b3) (.cons (.frz 5) (.cons (.set 4 (.var 5)) .nil))))
def farthest_c1 : E := (.lc (.var 6) (.nm 6) (.val (.var 3)) (.cmp .eq (.bi .len (.cons (.idx (.bor 3) (.var 6)) .nil)) (.var 4)) [6])
def farthest_c2 : E := (.lc (.bi .len (.cons (.bor 5) .nil)) (.nm 5) (.vls (.var 3)) (.con (.bool true)) [5])
theorem n_farthest : B_farthest = (.cons (.exp (.call "look_choice" F_look_choice (.cons (.var 0) (.cons (.var 1) .nil)))) (.cons (.exp (.call "look_picture" F_look_picture (.cons (.var 0) (.cons (.var 2) .nil)))) (.cons (.set 3 (.call "rows_from" F_rows_from (.cons (.var 0) (.cons (.var 1) (.cons (.var 2) .nil))))) (.cons (.set 4 (.bi .max (.cons farthest_c2 .nil))) (.cons (.ret (.tup (.cons (.var 4) (.cons (.bi .min (.cons farthest_c1 .nil)) .nil)))) .nil))))) := rfl
def unlike_of_c1 : E := (.lc (.call "done" F_done (.cons (.var 0) (.cons (.var 11) (.cons (.var 9) .nil)))) (.nm 11) (.val (.var 8)) (.con (.bool true)) [11])
def unlike_of_b2 : Ss := (.cons (.set 10 (.bi .tuple (.cons unlike_of_c1 .nil))) (.cons (.ite (.cmp .nin (.var 10) (.bor 4)) (.cons (.stk 4 (.var 10) (.bin .add (.idx (.bor 4) (.var 8)) (.tup (.cons (.var 9) .nil)))) (.cons (.app 7 (.var 10)) .nil)) .nil) .nil))
def unlike_of_b3 : Ss := (.cons (.for (.nm 9) (.val (.var 1)) unlike_of_b2) .nil)
def unlike_of_b4 : Ss := (.cons (.own 7 (.lst .nil)) (.cons (.for (.nm 8) (.val (.var 5)) unlike_of_b3) (.cons (.frz 7) (.cons (.set 5 (.var 7)) .nil))))
def by_choice_c1 : E := (.lc (.call "all_done" F_all_done (.cons (.var 0) (.cons (.var 4) (.cons (.var 2) .nil)))) (.nm 4) (.val (.call "all_pictures" F_all_pictures (.cons (.var 0) .nil))) (.con (.bool true)) [4])
def look_pairs_c1 : E := (.lc (.var 3) (.nm 3) (.val (.var 2)) (.not (.call "is_picture" F_is_picture (.cons (.var 0) (.cons (.var 3) .nil)))) [3])
def look_pairs_b2 : Ss := (.cons (.ite (.or (.not (.isI (.var 2) .tuple)) (.or (.cmp .ne (.bi .len (.cons (.bor 2) .nil)) (.con (.int 2))) look_pairs_c1)) (.cons (.rse 6) .nil) .nil) .nil)
def rows_to_c1 : E := (.lc (.bin .add (.var 6) (.tup (.cons (.var 7) .nil))) (.nm 7) (.val (.var 0)) (.con (.bool true)) [7])
def rows_to_b2 : Ss := (.cons (.ext 5 rows_to_c1) .nil)
def rows_to_b3 : Ss := (.cons (.own 5 (.lst .nil)) (.cons (.for (.nm 6) (.val (.var 3)) rows_to_b2) (.cons (.frz 5) (.cons (.set 3 (.var 5)) (.cons (.ext 2 (.var 3)) .nil)))))
def fits_c1 : E := (.lc (.var 3) (.tp [3, 4]) (.val (.var 2)) (.cmp .ne (.call "all_done" F_all_done (.cons (.var 0) (.cons (.var 3) (.cons (.var 1) .nil)))) (.var 4)) [3, 4])
def fitting_c1 : E := (.lc (.var 4) (.nm 4) (.val (.call "rows_to" F_rows_to (.cons (.var 1) (.cons (.var 3) .nil)))) (.call "fits" F_fits (.cons (.var 0) (.cons (.var 4) (.cons (.var 2) .nil)))) [4])
def picture_text_c1 : E := (.lc (.bi .str (.cons (.var 6) .nil)) (.nm 6) (.val (.var 5)) (.con (.bool true)) [6])
def picture_text_c2 : E := (.lc (.mt .join (.con (.str "")) (.cons picture_text_c1 .nil)) (.nm 5) (.val (.var 3)) (.con (.bool true)) [5])
def picture_text_c3 : E := (.lc (.slc (.var 1) (.som (.bin .mul (.var 2) (.var 4))) (.som (.bin .mul (.var 2) (.bin .add (.var 4) (.con (.int 1)))))) (.nm 4) (.rng (.idx (.bor 0) (.con (.int 1)))) (.con (.bool true)) [4])
def read_picture_c1 : E := (.lc (.bi .int (.cons (.var 5) .nil)) (.nm 5) (.val (.var 3)) (.con (.bool true)) [5])
def read_picture_c2 : E := (.lc (.var 5) (.nm 5) (.val (.var 3)) (.cmp .nin (.var 5) (.slc (.glb "FIGURES" (.str "0123")) .non (.som (.bin .add (.idx (.bor 0) (.con (.int 2))) (.con (.int 1)))))) [5])
def read_picture_c3 : E := (.lc (.var 4) (.nm 4) (.val (.var 2)) (.cmp .ne (.bi .len (.cons (.bor 4) .nil)) (.idx (.bor 0) (.con (.int 0)))) [4])
def _law_some_picture_c1 : E := (.lc (.call "_law_pick" F__law_pick (.cons (.call "_law_seed" F__law_seed (.cons (.var 1) (.cons (.var 2) .nil))) (.cons (.bin .add (.idx (.bor 0) (.con (.int 2))) (.con (.int 1))) .nil))) (.nm 2) (.rng (.bin .mul (.idx (.bor 0) (.con (.int 0))) (.idx (.bor 0) (.con (.int 1))))) (.con (.bool true)) [2])
def _law_choice_b1 : Ss := (.cons (.set 6 (.call "_law_deed" F__law_deed (.cons (.var 0) (.cons (.call "_law_seed" F__law_seed (.cons (.bin .add (.call "_law_cell" F__law_cell (.cons (.var 1) (.cons (.bin .add (.var 2) (.con (.int 1))) .nil))) (.bin .mul (.con (.int 41)) (.var 5))) (.cons (.var 5) .nil))) .nil)))) (.cons (.ite (.cmp .nin (.var 6) (.bor 4)) (.cons (.app 4 (.var 6)) .nil) .nil) .nil))
def _law_flood_c1 : E := (.cmp .ne (.bor 4) (.lst .nil))
def _law_flood_b2 : Ss := (.cons (.set 8 (.call "_law_done" F__law_done (.cons (.var 0) (.cons (.var 6) (.cons (.var 7) .nil))))) (.cons (.ite (.cmp .nin (.var 8) (.bor 3)) (.cons (.stk 3 (.var 8) (.bin .add (.idx (.bor 3) (.var 6)) (.tup (.cons (.var 7) .nil)))) (.cons (.app 5 (.var 8)) .nil)) .nil) .nil))
def _law_flood_b3 : Ss := (.cons (.for (.nm 7) (.val (.var 1)) _law_flood_b2) .nil)
def _law_flood_b4 : Ss := (.cons (.own 5 (.lst .nil)) (.cons (.for (.nm 6) (.val (.var 4)) _law_flood_b3) (.cons (.frz 5) (.cons (.set 4 (.var 5)) .nil))))
def _law_rows_c1 : E := (.lc (.bin .add (.var 6) (.tup (.cons (.var 7) .nil))) (.nm 7) (.val (.var 0)) (.con (.bool true)) [7])
def _law_rows_b2 : Ss := (.cons (.set 5 (.bin .add (.var 5) _law_rows_c1)) .nil)
def _law_rows_b3 : Ss := (.cons (.set 5 (.lst .nil)) (.cons (.for (.nm 6) (.val (.var 3)) _law_rows_b2) (.cons (.set 3 (.var 5)) (.cons (.set 2 (.bin .add (.var 2) (.var 3))) .nil))))
def _law_picture_text_b1 : Ss := (.cons (.set 2 (.bin .add (.bin .add (.var 2) (.bin .mul (.con (.str "\n")) (.bi .int (.cons (.and (.cmp .gt (.var 3) (.con (.int 0))) (.cmp .eq (.bin .mod (.var 3) (.idx (.bor 0) (.con (.int 0)))) (.con (.int 0)))) .nil)))) (.bi .str (.cons (.var 4) .nil)))) .nil)
def _law_twin_c1 (g : List D → R D) : E := (.lc (.call "_law_twin" g (.cons (.var 1) .nil)) (.nm 1) (.val (.var 0)) (.con (.bool true)) [1])
end PG
end
section
namespace K15
open PySem PI
def law_c1 : E := (.lc (.var 14) (.nm 14) (.val (.call "reached" PG.F_reached (.cons (.var 1) (.cons (.bi .list (.cons (.var 2) .nil)) (.cons (.var 8) .nil))))) (.cmp .nin (.var 14) (.bor 4)) [14])
def law_c2 : E := (.lc (.var 13) (.nm 13) (.val (.var 9)) (.cmp .nin (.var 13) (.bor 2)) [13])
def law_b3 : Ss := (.cons (.set 8 (.idx (.bor 4) (.call "_law_mix" PG.F__law_mix (.cons (.bin .add (.call "_law_cell" PG.F__law_cell (.cons (.var 0) (.cons (.con (.int 4)) .nil))) (.bin .mul (.con (.int 41)) (.var 7))) (.cons (.con (.int 9949)) (.cons (.bi .len (.cons (.bor 4) .nil)) .nil)))))) (.cons (.set 9 (.call "way_to" PG.F_way_to (.cons (.var 1) (.cons (.bi .list (.cons (.var 2) .nil)) (.cons (.var 3) (.cons (.var 8) .nil)))))) (.cons (.ite (.cmp .ne (.call "_law_after" PG.F__law_after (.cons (.var 1) (.cons (.var 3) (.cons (.var 9) .nil)))) (.var 8)) (.cons (.ret (.con (.bool false))) .nil) .nil) (.cons (.ite (.cmp .gt (.bi .len (.cons (.bor 9) .nil)) (.var 5)) (.cons (.ret (.con (.bool false))) .nil) .nil) (.cons (.ite (.cmp .ne law_c2 (.lst .nil)) (.cons (.ret (.con (.bool false))) .nil) .nil) (.cons (.set 10 (.call "_law_after" PG.F__law_after (.cons (.var 1) (.cons (.var 3) (.cons (.slc (.var 9) .non (.som (.neg (.con (.int 1))))) .nil))))) (.cons (.ite (.and (.cmp .ne (.var 9) (.tup .nil)) (.cmp .ne (.call "way_to" PG.F_way_to (.cons (.var 1) (.cons (.bi .list (.cons (.var 2) .nil)) (.cons (.var 3) (.cons (.var 10) .nil))))) (.slc (.var 9) .non (.som (.neg (.con (.int 1))))))) (.cons (.ret (.con (.bool false))) .nil) .nil) (.cons (.ite (.cmp .ne law_c1 (.lst .nil)) (.cons (.ret (.con (.bool false))) .nil) .nil) .nil))))))))
def law_c4 : E := (.lc (.var 8) (.nm 8) (.val (.var 4)) (.cmp .nin (.var 8) (.bor 12)) [8])
def law_c5 : E := (.lc (.var 13) (.nm 13) (.val (.var 2)) (.cmp .nin (.idx (.bor 13) (.con (.int 0))) (.tup (.cons (.con (.str "shift")) (.cons (.con (.str "flip")) (.cons (.con (.str "turn")) .nil))))) [13])
def law_b6 : Ss := (.cons (.ite (.cmp .ne (.call "reached" PG.F_reached (.cons (.var 1) (.cons (.bi .list (.cons (.var 2) .nil)) (.cons (.var 8) .nil)))) (.var 4)) (.cons (.ret (.con (.bool false))) .nil) .nil) .nil)
def law_s1 : S := (.set 1 (.call "_law_world" PG.F__law_world (.cons (.call "_law_cell" PG.F__law_cell (.cons (.var 0) (.cons (.con (.int 0)) .nil))) .nil)))
def law_s2 : S := (.set 2 (.call "_law_choice" PG.F__law_choice (.cons (.var 1) (.cons (.var 0) (.cons (.con (.int 1)) (.cons (.con (.int 4)) .nil))))))
def law_s3 : S := (.set 3 (.call "_law_some_picture" PG.F__law_some_picture (.cons (.var 1) (.cons (.call "_law_seed" PG.F__law_seed (.cons (.call "_law_cell" PG.F__law_cell (.cons (.var 0) (.cons (.con (.int 3)) .nil))) (.cons (.con (.int 1)) .nil))) .nil))))
def law_s4 : S := (.set 4 (.call "reached" PG.F_reached (.cons (.var 1) (.cons (.bi .list (.cons (.var 2) .nil)) (.cons (.var 3) .nil)))))
def law_s5 : S := (.unp [5, 6] (.call "farthest" PG.F_farthest (.cons (.var 1) (.cons (.bi .list (.cons (.var 2) .nil)) (.cons (.var 3) .nil)))))
def law_s6 : S := (.ite (.or (.cmp .ne (.call "way_to" PG.F_way_to (.cons (.var 1) (.cons (.bi .list (.cons (.var 2) .nil)) (.cons (.var 3) (.cons (.var 3) .nil))))) (.tup .nil)) (.or (.cmp .nin (.var 3) (.bor 4)) (.cmp .nin (.var 6) (.bor 4)))) (.cons (.ret (.con (.bool false))) .nil) .nil)
def law_s7 : S := (.for (.nm 7) (.rng (.con (.int 3))) law_b3)
def law_s8 : S := (.set 11 (.call "_law_deed" PG.F__law_deed (.cons (.var 1) (.cons (.call "_law_seed" PG.F__law_seed (.cons (.call "_law_cell" PG.F__law_cell (.cons (.var 0) (.cons (.con (.int 5)) .nil))) (.cons (.con (.int 3)) .nil))) .nil))))
def law_s9 : S := (.ite (.cmp .nin (.var 11) (.bor 2)) (.cons (.set 12 (.call "reached" PG.F_reached (.cons (.var 1) (.cons (.bin .add (.var 2) (.lst (.cons (.var 11) .nil))) (.cons (.var 3) .nil))))) (.cons (.ite (.cmp .ne law_c4 (.lst .nil)) (.cons (.ret (.con (.bool false))) .nil) .nil) (.cons (.ite (.cmp .gt (.bi .len (.cons (.call "way_to" PG.F_way_to (.cons (.var 1) (.cons (.bin .add (.var 2) (.lst (.cons (.var 11) .nil))) (.cons (.var 3) (.cons (.var 6) .nil))))) .nil)) (.var 5)) (.cons (.ret (.con (.bool false))) .nil) .nil) .nil))) .nil)
def law_s10 : S := (.ite (.cmp .eq law_c5 (.lst .nil)) (.cons (.for (.nm 8) (.val (.slc (.var 4) .non (.som (.con (.int 4))))) law_b6) .nil) .nil)
def law_s11 : S := (.ret (.cmp .inn (.call "way_to" PG.F_way_to (.cons (.var 1) (.cons (.lst (.cons (.tup (.cons (.con (.str "turn")) .nil)) .nil)) (.cons (.var 3) (.cons (.call "after" PG.F_after (.cons (.var 1) (.cons (.tup (.cons (.tup (.cons (.con (.str "turn")) .nil)) .nil)) (.cons (.var 3) .nil)))) .nil))))) (.tup (.cons (.tup .nil) (.cons (.tup (.cons (.tup (.cons (.con (.str "turn")) .nil)) .nil)) .nil)))))
def B_law : Ss := (.cons law_s1 (.cons law_s2 (.cons law_s3 (.cons law_s4 (.cons law_s5 (.cons law_s6 (.cons law_s7 (.cons law_s8 (.cons law_s9 (.cons law_s10 (.cons law_s11 .nil)))))))))))
def N_law : List Str := ["_law_script", "_law_world_here", "_law_choice_here", "_law_picture", "_law_some", "_law_most", "_law_last", "_law_k", "_law_one", "_law_row", "_law_before_it", "_law_extra", "_law_wide", "_law_deed_here", "_law_other"]
end K15
end
section
/-! Plain mathematics: rules of evaluation. -/
namespace M
open PySem PI PG
section
variable (env : En) (a b c : E) (es ks vs : Es) (k n : Nat) (s : S) (ss tt : Ss) (p : Pat) (it : It)
@[simp] theorem ev_var (i : Nat) : evE (.var i) env = lift (valOf (PI.slotAt env i)) := rfl
@[simp] theorem ev_bor (i : Nat) : evE (.bor i) env = lift (borOf (PI.slotAt env i)) := rfl
@[simp] theorem ev_con (d : D) : evE (.con d) env = .ok d := rfl
@[simp] theorem ev_glb (x : Str) (d : D) : evE (.glb x d) env = .ok d := rfl
@[simp] theorem ev_bin (o : BOp) : evE (.bin o a b) env = R.bind (evE a env) fun x => R.bind (evE b env) fun y => lift (binD o x y) := rfl
@[simp] theorem ev_neg : evE (.neg a) env = R.bind (evE a env) fun x => lift (negD x) := rfl
@[simp] theorem ev_not : evE (.not a) env = R.bind (evE a env) fun x => R.bind (lift (truthD x)) fun t => .ok (.bool (!t)) := rfl
@[simp] theorem ev_and : evE (.and a b) env = R.bind (evE a env) fun x => R.bind (lift (truthD x)) fun t => cond t (evE b env) (.ok x) := rfl
@[simp] theorem ev_or : evE (.or a b) env = R.bind (evE a env) fun x => R.bind (lift (truthD x)) fun t => cond t (.ok x) (evE b env) := rfl
@[simp] theorem ev_cmp (o : COp) : evE (.cmp o a b) env = R.bind (evE a env) fun x => R.bind (evE b env) fun y => R.bind (lift (cmpD o x y)) fun r => .ok (.bool r) := rfl
@[simp] theorem ev_chain (o o' : COp) : evE (.chain o o' a b c) env = R.bind (evE a env) fun x => R.bind (evE b env) fun y => R.bind (lift (cmpD o x y)) fun r => cond r (R.bind (evE c env) fun z => R.bind (lift (cmpD o' y z)) fun r' => .ok (.bool r')) (.ok (.bool false)) := rfl
@[simp] theorem ev_ite : evE (.ite c a b) env = R.bind (evE c env) fun x => R.bind (lift (truthD x)) fun t => cond t (evE a env) (evE b env) := rfl
@[simp] theorem ev_tup : evE (.tup es) env = R.bind (evEs es env) fun ds => .ok (.tuple ds) := rfl
@[simp] theorem ev_lst : evE (.lst es) env = R.bind (evEs es env) fun ds => .ok (.list ds) := rfl
@[simp] theorem ev_idx : evE (.idx a b) env = R.bind (evE a env) fun x => R.bind (evE b env) fun y => lift (idxD x y) := rfl
@[simp] theorem ev_slc (lo hi : Eo) : evE (.slc a lo hi) env = R.bind (evE a env) fun x => R.bind (evEo lo env) fun l => R.bind (evEo hi env) fun h => lift (sliceD x l h) := rfl
@[simp] theorem ev_call (x : Str) (g : List D → R D) : evE (.call x g es) env = R.bind (evEs es env) g := rfl
@[simp] theorem ev_bi (t : Bi) : evE (.bi t es) env = R.bind (evEs es env) fun ds => lift (biD t ds) := rfl
@[simp] theorem ev_mt (m : Mt) : evE (.mt m a es) env = R.bind (evE a env) fun x => cond (mtFits m x) (R.bind (evEs es env) fun ds => lift (mtD m x ds)) .stuck := rfl
@[simp] theorem ev_isI (t : Ty) : evE (.isI a t) env = R.bind (evE a env) fun x => .ok (.bool (isIn t x)) := rfl
@[simp] theorem ev_non : evEo .non env = .ok none := rfl
@[simp] theorem ev_som : evEo (.som a) env = R.bind (evE a env) fun x => lift (partD x) := rfl
@[simp] theorem ev_nil : evEs .nil env = .ok [] := rfl
@[simp] theorem ev_cons : evEs (.cons a es) env = R.bind (evE a env) fun x => R.bind (evEs es env) fun xs => .ok (x :: xs) := rfl
@[simp] theorem ev_val : evIt (.val a) env = R.bind (evE a env) fun x => lift (itemsD x) := rfl
@[simp] theorem ev_rng : evIt (.rng a) env = R.bind (evE a env) fun x => lift (rangeD x) := rfl
@[simp] theorem ev_enm : evIt (.enm a) env = R.bind (evE a env) fun x => lift (enmD x) := rfl
@[simp] theorem ev_zip : evIt (.zip a b) env = R.bind (evE a env) fun x => R.bind (evE b env) fun y => lift (zipD x y) := rfl
@[simp] theorem es_set (i : Nat) : evS n (.set i a) env = .of (evE a env) env fun d => .nx (setAt env i (.val d)) := rfl
@[simp] theorem es_own (i : Nat) : evS n (.own i a) env = .of (evE a env) env fun d => .nx (setAt env i (.own d)) := rfl
@[simp] theorem es_own2 (i j : Nat) (b : E) : evS n (.own2 i j a b) env = .of (evE a env) env fun x => .of (evE b env) env fun y => .nx (setAt (setAt env i (.own x)) j (.val y)) := rfl
@[simp] theorem es_unp (is : List Nat) : evS n (.unp is a) env = .of (evE a env) env fun d => .lf (patSet (.tp is) d env) .nx := rfl
@[simp] theorem es_aug (i : Nat) (o : BOp) : evS n (.aug i o a) env = .lf (valOf (PI.slotAt env i)) fun x => .of (evE a env) env fun y => .lf (augD o x y) fun z => .nx (setAt env i (.val z)) := rfl
@[simp] theorem es_app (i : Nat) : evS n (.app i a) env = cond (ownL (PI.slotAt env i)) (.of (evE a env) env fun d => .lf (appS (PI.slotAt env i) d) fun s => .nx (setAt env i s)) .bad := rfl
@[simp] theorem es_ext (i : Nat) : evS n (.ext i a) env = cond (ownL (PI.slotAt env i)) (.of (evE a env) env fun d => .lf (extS (PI.slotAt env i) d) fun s => .nx (setAt env i s)) .bad := rfl
@[simp] theorem es_stk (i : Nat) : evS n (.stk i a b) env = cond (isOwn (PI.slotAt env i)) (.of (evE b env) env fun y => .of (evE a env) env fun x => .lf (stkS (PI.slotAt env i) x y) fun s => .nx (setAt env i s)) .bad := rfl
@[simp] theorem es_exp : evS n (.exp a) env = .of (evE a env) env fun _ => .nx env := rfl
@[simp] theorem es_ret : evS n (.ret a) env = .of (evE a env) env .rt := rfl
@[simp] theorem es_ret0 : evS n .ret0 env = .rt .none := rfl
@[simp] theorem es_ite : evS n (.ite c ss tt) env = .of (evE c env) env fun x => .lf (truthD x) fun t => cond t (evSs n ss env) (evSs n tt env) := rfl
theorem es_for : evS n (.for p it ss) env = .of (evIt it env) env fun xs => forGo (fun x env => .lf (patSet p x env) fun env' => evSs n ss env') xs env := rfl
theorem es_whl : evS n (.whl c ss) env = whlGo (evE c) (evSs n ss) n env := rfl
@[simp] theorem es_rse (c : Nat) : evS n (.rse c) env = .ex c env := rfl
@[simp] theorem es_try (hs : List (Nat × Nat × D)) : evS n (.try ss hs) env = (evSs n ss env).catch hs := rfl
@[simp] theorem es_frz (i : Nat) : evS n (.frz i) env = .nx (setAt env i (frzS (PI.slotAt env i))) := rfl
@[simp] theorem es_pas : evS n .pas env = .nx env := rfl
@[simp] theorem es_nil : evSs n .nil env = .nx env := rfl
@[simp] theorem es_cons : evSs n (.cons s ss) env = Rs.bind (evS n s env) fun env' => evSs n ss env' := rfl
end
section
variable (s t : Slot) (r : En) (i : Nat) (d : D)
@[simp] theorem sl_zero : PI.slotAt (s :: r) 0 = s := rfl
@[simp] theorem sl_succ : PI.slotAt (s :: r) (i + 1) = PI.slotAt r i := rfl
@[simp] theorem st_zero : setAt (s :: r) 0 t = t :: r := rfl
@[simp] theorem st_succ : setAt (s :: r) (i + 1) t = s :: setAt r i t := rfl
@[simp] theorem v_val : valOf (.val d) = some d := rfl
@[simp] theorem b_val : borOf (.val d) = some d := rfl
@[simp] theorem b_own : borOf (.own d) = some d := rfl
@[simp] theorem f_own : frzS (.own d) = .val d := rfl
@[simp] theorem f_val : frzS (.val d) = .val d := rfl
@[simp] theorem f_emp : frzS .emp = .emp := rfl
@[simp] theorem o_own (xs : List D) : ownL (.own (.list xs)) = true := rfl
@[simp] theorem o_own2 : PI.isOwn (.own d) = true := rfl
@[simp] theorem n_val : noOwn (.val d) = true := rfl
@[simp] theorem n_emp : noOwn .emp = true := rfl
@[simp] theorem ps_nm : patSet (.nm i) d r = some (setAt r i (.val d)) := rfl
@[simp] theorem ps_tp (is : List Nat) (ds : List D) : patSet (.tp is) (.tuple ds) r = setAll r is ds := rfl
@[simp] theorem sa_nil : setAll r [] [] = some r := rfl
@[simp] theorem sa_cons (is : List Nat) (ds : List D) : setAll r (i :: is) (d :: ds) = setAll (setAt r i (.val d)) is ds := rfl
@[simp] theorem wp_nil : wipeE r [] = r := rfl
@[simp] theorem wp_cons (vs : List Nat) : wipeE r (i :: vs) = setAt (wipeE r vs) i .emp := rfl
@[simp] theorem fin_rt : fin (.rt d) = .ok d := rfl
@[simp] theorem fin_nx : fin (.nx r) = .ok .none := rfl
@[simp] theorem fin_ex : fin (.ex i r) = .exc i := rfl
end
section
variable (a b : Int) (x y : Str) (xs ys : List D) (d e : D)
@[simp] theorem bin_add : binD .add (.int a) (.int b) = some (.int (a + b)) := rfl
@[simp] theorem bin_sub : binD .sub (.int a) (.int b) = some (.int (a - b)) := rfl
theorem bin_mul (h : smallI a = true ∨ smallI b = true) : binD .mul (.int a) (.int b) = some (.int (a * b)) := by
  show gd (smallI a || smallI b) _ = _
  rw [Bool.or_eq_true_iff.mpr h]; rfl
theorem bin_mod (h : 0 < b) : binD .mod (.int a) (.int b) = some (.int (a % b)) := by
  show gd (decide (0 < b)) _ = _
  rw [decide_eq_true h]; rfl
theorem bin_fdiv (h : 0 < b) (h2 : b < 1073741824) : binD .fdiv (.int a) (.int b) = some (.int (a / b)) := by
  show gd (decide (0 < b ∧ b < 1073741824)) _ = _
  rw [decide_eq_true ⟨h, h2⟩]; rfl
theorem bin_cat (h : xs.length + ys.length ≤ lim) : binD .add (.list xs) (.list ys) = some (.list (xs ++ ys)) := by
  show gd (decide (xs.length + ys.length ≤ lim)) _ = _
  rw [decide_eq_true h]; rfl
theorem bin_catT (h : xs.length + ys.length ≤ lim) : binD .add (.tuple xs) (.tuple ys) = some (.tuple (xs ++ ys)) := by
  show gd (decide (xs.length + ys.length ≤ lim)) _ = _
  rw [decide_eq_true h]; rfl
@[simp] theorem cmp_lt : cmpD .lt (.int a) (.int b) = some (decide (a < b)) := rfl
@[simp] theorem cmp_le : cmpD .le (.int a) (.int b) = some (decide (a ≤ b)) := rfl
@[simp] theorem cmp_gt : cmpD .gt (.int a) (.int b) = some (decide (b < a)) := rfl
@[simp] theorem cmp_ge : cmpD .ge (.int a) (.int b) = some (decide (b ≤ a)) := rfl
@[simp] theorem cmp_eqI : cmpD .eq (.int a) (.int b) = some (decide (a = b)) := rfl
@[simp] theorem cmp_neI : cmpD .ne (.int a) (.int b) = some (!decide (a = b)) := rfl
@[simp] theorem cmp_eqS : cmpD .eq (.str x) (.str y) = some (decide (x = y)) := rfl
@[simp] theorem cmp_neS : cmpD .ne (.str x) (.str y) = some (!decide (x = y)) := rfl
@[simp] theorem cmp_isN : cmpD .isN d e = some (isNone d) := rfl
@[simp] theorem cmp_notN : cmpD .notN d e = some (!isNone d) := rfl
@[simp] theorem tr_bool (t : Bool) : truthD (.bool t) = some t := rfl
@[simp] theorem tr_int : truthD (.int a) = some (a != 0) := rfl
@[simp] theorem tr_list : truthD (.list xs) = some (!xs.isEmpty) := rfl
@[simp] theorem tr_tup : truthD (.tuple xs) = some (!xs.isEmpty) := rfl
@[simp] theorem ix_T0 : idxD (.tuple (d :: xs)) (.int 0) = some d := by simp [idxD, L2.atI, L2.ixN]
@[simp] theorem ix_T1 : idxD (.tuple (e :: d :: xs)) (.int 1) = some d := by
  have : (1 : Int) < (xs.length : Int) + 1 + 1 := by omega
  simp [idxD, L2.atI, L2.ixN, this]
@[simp] theorem ix_T2 (f : D) : idxD (.tuple (f :: e :: d :: xs)) (.int 2) = some d := by
  have : (2 : Int) < (xs.length : Int) + 1 + 1 + 1 := by omega
  simp [idxD, L2.atI, L2.ixN, this]
@[simp] theorem ix_L0 : idxD (.list (d :: xs)) (.int 0) = some d := by simp [idxD, L2.atI, L2.ixN]
@[simp] theorem ix_L1 : idxD (.list (e :: d :: xs)) (.int 1) = some d := by
  have : (1 : Int) < (xs.length : Int) + 1 + 1 := by omega
  simp [idxD, L2.atI, L2.ixN, this]
@[simp] theorem neg_int : negD (.int a) = some (.int (-a)) := rfl
theorem ix_list {i : Nat} (h : xs[i]? = some d) : idxD (.list xs) (.int (i : Int)) = some d := by
  have hl := (List.getElem?_eq_some_iff.mp h).1
  have h2 : (i : Int) < (xs.length : Int) := by omega
  simp [idxD, L2.atI, L2.ixN, h2, h]
theorem ix_tup {i : Nat} (h : xs[i]? = some d) : idxD (.tuple xs) (.int (i : Int)) = some d := by
  have hl := (List.getElem?_eq_some_iff.mp h).1
  have h2 : (i : Int) < (xs.length : Int) := by omega
  simp [idxD, L2.atI, L2.ixN, h2, h]
@[simp] theorem len_L : lenD (.list xs) = some (.int xs.length) := rfl
@[simp] theorem len_T : lenD (.tuple xs) = some (.int xs.length) := rfl
@[simp] theorem bi_len : biD .len [d] = lenD d := rfl
@[simp] theorem bi_tupL : biD .tuple [.list xs] = some (.tuple xs) := rfl
@[simp] theorem bi_tupT : biD .tuple [.tuple xs] = some (.tuple xs) := rfl
@[simp] theorem bi_rng : biD .listRange [d] = (rangeD d).map .list := rfl
@[simp] theorem bi_intI : biD .int [.int a] = some (.int a) := rfl
@[simp] theorem bi_intB (t : Bool) : biD .int [.bool t] = some (.int (if t then 1 else 0)) := rfl
@[simp] theorem it_L : itemsD (.list xs) = some xs := rfl
@[simp] theorem it_T : itemsD (.tuple xs) = some xs := rfl
@[simp] theorem zp_T : zipD (.tuple xs) (.tuple ys) = some (zipL xs ys) := rfl
@[simp] theorem zp_L : zipD (.list xs) (.list ys) = some (zipL xs ys) := rfl
@[simp] theorem en_L : enmD (.list xs) = some (enumL 0 xs) := rfl
@[simp] theorem pt_I : partD (.int a) = some (some a) := rfl
@[simp] theorem is_tupT : isIn .tuple (.tuple xs) = true := rfl
@[simp] theorem is_intI : isIn .int (.int a) = true := rfl
@[simp] theorem is_boolI : isIn .bool (.int a) = false := rfl
@[simp] theorem is_strS : isIn .str (.str x) = true := rfl
@[simp] theorem is_listL : isIn .list (.list xs) = true := rfl
theorem rng_of {n : Nat} (h : n ≤ 1000000) : rangeD (.int (n : Int)) = some (rangeL n) := by
  show gd (decide (-1000000 ≤ (n : Int) ∧ (n : Int) ≤ 1000000)) (rangeL (n : Int).toNat) = _
  rw [decide_eq_true ⟨by omega, by omega⟩, Int.toNat_natCast]; rfl
theorem app_of (h : xs.length < lim) : appS (.own (.list xs)) d = some (.own (.list (xs ++ [d]))) := by
  show gd (decide (xs.length < lim)) _ = _
  rw [decide_eq_true h]; rfl
end
theorem fn_run {n ps k : Nat} {b : Ss} {args : List D} {r : R D} (h : args.length = ps) (e : fin (evSs n b (startE k args)) = r) : fnD n ps k b args = r := by
  unfold fnD
  rw [decide_eq_true h]
  exact e
theorem smallI_of {i : Int} (h1 : -1000000000000 ≤ i) (h2 : i ≤ 1000000000000) : smallI i = true := decide_eq_true ⟨by omega, by omega⟩
/-! ### comprehensions, loops -/
theorem lcGo_map {α : Type} {f : D → Option (Option D)} {enc : α → D} {g : α → D} : ∀ {ys : List α}, (∀ y ∈ ys, f (enc y) = some (some (g y))) → lcGo f (ys.map enc) = some (ys.map g)
  | [], _ => rfl
  | y :: ys, h => by
    rw [List.map_cons, lcGo, h y List.mem_cons_self]
    show (lcGo f (ys.map enc)).map _ = _
    rw [lcGo_map fun z hz => h z (List.mem_cons_of_mem _ hz)]
    rfl
theorem lcGo_filter {α : Type} {f : D → Option (Option D)} {enc : α → D} {p : α → Bool} {g : α → D} : ∀ {ys : List α}, (∀ y ∈ ys, f (enc y) = some (if p y = true then some (g y) else none)) → lcGo f (ys.map enc) = some ((ys.filter p).map g)
  | [], _ => rfl
  | y :: ys, h => by
    have ih := lcGo_filter (p := p) (g := g) (f := f) (enc := enc) fun z hz => h z (List.mem_cons_of_mem y hz)
    rw [List.map_cons, lcGo, h y List.mem_cons_self]
    show (lcGo f (ys.map enc)).map _ = _
    rw [ih]
    cases hp : p y with
    | true => rw [List.filter_cons_of_pos hp]; rfl
    | false => rw [List.filter_cons_of_neg (by rw [hp]; exact Bool.false_ne_true)]; rfl
/-- a comprehension without a test -/
theorem lc_map {α : Type} {env : En} {p : Pat} {it : En → R (List D)} {e : En → R D} {own : List Nat} {enc : α → D} {g : α → D} {ys : List α} (ho : (own.all fun i => noOwn (PI.slotAt env i)) = true) (hi : it env = .ok (ys.map enc))
    (he : ∀ y ∈ ys, ∃ env', patSet p (enc y) (wipeE env own) = some env' ∧ e env' = .ok (g y)) : lcE p it (fun env => evE (.con (.bool true)) env) e own env = .ok (.list (ys.map g)) := by
  unfold lcE
  rw [ho, hi]
  show R.bind (lift (lcGo (lcF p (fun env => evE (.con (.bool true)) env) e own env) (ys.map enc))) _ = _
  rw [lcGo_map (g := g) fun y hy => ?_]
  · rfl
  · obtain ⟨env', h1, h2⟩ := he y hy
    unfold lcF
    rw [h1]
    show (((evE (.con (.bool true)) env').quiet.bind truthD).bind fun t => cond t ((e env').quiet.map some) (some none)) = _
    rw [h2]
    rfl
theorem lc_filter {α : Type} {env : En} {p : Pat} {it : En → R (List D)} {c e : En → R D} {own : List Nat} {enc : α → D} {q : α → Bool} {g : α → D} {ys : List α} (ho : (own.all fun i => noOwn (PI.slotAt env i)) = true) (hi : it env = .ok (ys.map enc))
    (he : ∀ y ∈ ys, ∃ env' d, patSet p (enc y) (wipeE env own) = some env' ∧ c env' = .ok d ∧ truthD d = some (q y) ∧ (q y = true → e env' = .ok (g y))) : lcE p it c e own env = .ok (.list ((ys.filter q).map g)) := by
  unfold lcE
  rw [ho, hi]
  show R.bind (lift (lcGo (lcF p c e own env) (ys.map enc))) _ = _
  rw [lcGo_filter (g := g) (p := q) fun y hy => ?_]
  · rfl
  · obtain ⟨env', d, h1, h2, h3, h4⟩ := he y hy
    unfold lcF
    rw [h1]
    show (((c env').quiet.bind truthD).bind fun t => cond t ((e env').quiet.map some) (some none)) = _
    rw [h2]
    show ((truthD d).bind fun t => cond t ((e env').quiet.map some) (some none)) = _
    rw [h3]
    cases hq : q y with
    | true => show (e env').quiet.map some = _; rw [h4 hq]; rfl
    | false => rfl
end M
end
section
/-! Plain mathematics: ints, words. -/
namespace M
open PySem PI PG
/-! ### words -/
@[simp] theorem w_0_1 : ((("turn" : String) : Str) = (("flip" : String) : Str)) = False := eq_false (by decide)
@[simp] theorem w_0_2 : ((("turn" : String) : Str) = (("shift" : String) : Str)) = False := eq_false (by decide)
@[simp] theorem w_0_3 : ((("turn" : String) : Str) = (("greatest" : String) : Str)) = False := eq_false (by decide)
@[simp] theorem w_0_4 : ((("turn" : String) : Str) = (("least" : String) : Str)) = False := eq_false (by decide)
@[simp] theorem w_0_5 : ((("turn" : String) : Str) = (("mask" : String) : Str)) = False := eq_false (by decide)
@[simp] theorem w_0_6 : ((("turn" : String) : Str) = (("lift" : String) : Str)) = False := eq_false (by decide)
@[simp] theorem w_0_7 : ((("turn" : String) : Str) = (("across" : String) : Str)) = False := eq_false (by decide)
@[simp] theorem w_0_8 : ((("turn" : String) : Str) = (("down" : String) : Str)) = False := eq_false (by decide)
@[simp] theorem w_1_0 : ((("flip" : String) : Str) = (("turn" : String) : Str)) = False := eq_false (by decide)
@[simp] theorem w_1_2 : ((("flip" : String) : Str) = (("shift" : String) : Str)) = False := eq_false (by decide)
@[simp] theorem w_1_3 : ((("flip" : String) : Str) = (("greatest" : String) : Str)) = False := eq_false (by decide)
@[simp] theorem w_1_4 : ((("flip" : String) : Str) = (("least" : String) : Str)) = False := eq_false (by decide)
@[simp] theorem w_1_5 : ((("flip" : String) : Str) = (("mask" : String) : Str)) = False := eq_false (by decide)
@[simp] theorem w_1_6 : ((("flip" : String) : Str) = (("lift" : String) : Str)) = False := eq_false (by decide)
@[simp] theorem w_1_7 : ((("flip" : String) : Str) = (("across" : String) : Str)) = False := eq_false (by decide)
@[simp] theorem w_1_8 : ((("flip" : String) : Str) = (("down" : String) : Str)) = False := eq_false (by decide)
@[simp] theorem w_2_0 : ((("shift" : String) : Str) = (("turn" : String) : Str)) = False := eq_false (by decide)
@[simp] theorem w_2_1 : ((("shift" : String) : Str) = (("flip" : String) : Str)) = False := eq_false (by decide)
@[simp] theorem w_2_3 : ((("shift" : String) : Str) = (("greatest" : String) : Str)) = False := eq_false (by decide)
@[simp] theorem w_2_4 : ((("shift" : String) : Str) = (("least" : String) : Str)) = False := eq_false (by decide)
@[simp] theorem w_2_5 : ((("shift" : String) : Str) = (("mask" : String) : Str)) = False := eq_false (by decide)
@[simp] theorem w_2_6 : ((("shift" : String) : Str) = (("lift" : String) : Str)) = False := eq_false (by decide)
@[simp] theorem w_2_7 : ((("shift" : String) : Str) = (("across" : String) : Str)) = False := eq_false (by decide)
@[simp] theorem w_2_8 : ((("shift" : String) : Str) = (("down" : String) : Str)) = False := eq_false (by decide)
@[simp] theorem w_3_0 : ((("greatest" : String) : Str) = (("turn" : String) : Str)) = False := eq_false (by decide)
@[simp] theorem w_3_1 : ((("greatest" : String) : Str) = (("flip" : String) : Str)) = False := eq_false (by decide)
@[simp] theorem w_3_2 : ((("greatest" : String) : Str) = (("shift" : String) : Str)) = False := eq_false (by decide)
@[simp] theorem w_3_4 : ((("greatest" : String) : Str) = (("least" : String) : Str)) = False := eq_false (by decide)
@[simp] theorem w_3_5 : ((("greatest" : String) : Str) = (("mask" : String) : Str)) = False := eq_false (by decide)
@[simp] theorem w_3_6 : ((("greatest" : String) : Str) = (("lift" : String) : Str)) = False := eq_false (by decide)
@[simp] theorem w_3_7 : ((("greatest" : String) : Str) = (("across" : String) : Str)) = False := eq_false (by decide)
@[simp] theorem w_3_8 : ((("greatest" : String) : Str) = (("down" : String) : Str)) = False := eq_false (by decide)
@[simp] theorem w_4_0 : ((("least" : String) : Str) = (("turn" : String) : Str)) = False := eq_false (by decide)
@[simp] theorem w_4_1 : ((("least" : String) : Str) = (("flip" : String) : Str)) = False := eq_false (by decide)
@[simp] theorem w_4_2 : ((("least" : String) : Str) = (("shift" : String) : Str)) = False := eq_false (by decide)
@[simp] theorem w_4_3 : ((("least" : String) : Str) = (("greatest" : String) : Str)) = False := eq_false (by decide)
@[simp] theorem w_4_5 : ((("least" : String) : Str) = (("mask" : String) : Str)) = False := eq_false (by decide)
@[simp] theorem w_4_6 : ((("least" : String) : Str) = (("lift" : String) : Str)) = False := eq_false (by decide)
@[simp] theorem w_4_7 : ((("least" : String) : Str) = (("across" : String) : Str)) = False := eq_false (by decide)
@[simp] theorem w_4_8 : ((("least" : String) : Str) = (("down" : String) : Str)) = False := eq_false (by decide)
@[simp] theorem w_5_0 : ((("mask" : String) : Str) = (("turn" : String) : Str)) = False := eq_false (by decide)
@[simp] theorem w_5_1 : ((("mask" : String) : Str) = (("flip" : String) : Str)) = False := eq_false (by decide)
@[simp] theorem w_5_2 : ((("mask" : String) : Str) = (("shift" : String) : Str)) = False := eq_false (by decide)
@[simp] theorem w_5_3 : ((("mask" : String) : Str) = (("greatest" : String) : Str)) = False := eq_false (by decide)
@[simp] theorem w_5_4 : ((("mask" : String) : Str) = (("least" : String) : Str)) = False := eq_false (by decide)
@[simp] theorem w_5_6 : ((("mask" : String) : Str) = (("lift" : String) : Str)) = False := eq_false (by decide)
@[simp] theorem w_5_7 : ((("mask" : String) : Str) = (("across" : String) : Str)) = False := eq_false (by decide)
@[simp] theorem w_5_8 : ((("mask" : String) : Str) = (("down" : String) : Str)) = False := eq_false (by decide)
@[simp] theorem w_6_0 : ((("lift" : String) : Str) = (("turn" : String) : Str)) = False := eq_false (by decide)
@[simp] theorem w_6_1 : ((("lift" : String) : Str) = (("flip" : String) : Str)) = False := eq_false (by decide)
@[simp] theorem w_6_2 : ((("lift" : String) : Str) = (("shift" : String) : Str)) = False := eq_false (by decide)
@[simp] theorem w_6_3 : ((("lift" : String) : Str) = (("greatest" : String) : Str)) = False := eq_false (by decide)
@[simp] theorem w_6_4 : ((("lift" : String) : Str) = (("least" : String) : Str)) = False := eq_false (by decide)
@[simp] theorem w_6_5 : ((("lift" : String) : Str) = (("mask" : String) : Str)) = False := eq_false (by decide)
@[simp] theorem w_6_7 : ((("lift" : String) : Str) = (("across" : String) : Str)) = False := eq_false (by decide)
@[simp] theorem w_6_8 : ((("lift" : String) : Str) = (("down" : String) : Str)) = False := eq_false (by decide)
@[simp] theorem w_7_0 : ((("across" : String) : Str) = (("turn" : String) : Str)) = False := eq_false (by decide)
@[simp] theorem w_7_1 : ((("across" : String) : Str) = (("flip" : String) : Str)) = False := eq_false (by decide)
@[simp] theorem w_7_2 : ((("across" : String) : Str) = (("shift" : String) : Str)) = False := eq_false (by decide)
@[simp] theorem w_7_3 : ((("across" : String) : Str) = (("greatest" : String) : Str)) = False := eq_false (by decide)
@[simp] theorem w_7_4 : ((("across" : String) : Str) = (("least" : String) : Str)) = False := eq_false (by decide)
@[simp] theorem w_7_5 : ((("across" : String) : Str) = (("mask" : String) : Str)) = False := eq_false (by decide)
@[simp] theorem w_7_6 : ((("across" : String) : Str) = (("lift" : String) : Str)) = False := eq_false (by decide)
@[simp] theorem w_7_8 : ((("across" : String) : Str) = (("down" : String) : Str)) = False := eq_false (by decide)
@[simp] theorem w_8_0 : ((("down" : String) : Str) = (("turn" : String) : Str)) = False := eq_false (by decide)
@[simp] theorem w_8_1 : ((("down" : String) : Str) = (("flip" : String) : Str)) = False := eq_false (by decide)
@[simp] theorem w_8_2 : ((("down" : String) : Str) = (("shift" : String) : Str)) = False := eq_false (by decide)
@[simp] theorem w_8_3 : ((("down" : String) : Str) = (("greatest" : String) : Str)) = False := eq_false (by decide)
@[simp] theorem w_8_4 : ((("down" : String) : Str) = (("least" : String) : Str)) = False := eq_false (by decide)
@[simp] theorem w_8_5 : ((("down" : String) : Str) = (("mask" : String) : Str)) = False := eq_false (by decide)
@[simp] theorem w_8_6 : ((("down" : String) : Str) = (("lift" : String) : Str)) = False := eq_false (by decide)
@[simp] theorem w_8_7 : ((("down" : String) : Str) = (("across" : String) : Str)) = False := eq_false (by decide)
/-! ### rows of ints -/
theorem eqvAll_ints : ∀ ns ms : List Int, PyData.eqvAll (ns.map .int) (ms.map .int) = decide (ns = ms)
  | [], [] => by simp [PyData.eqvAll]
  | [], _ :: _ => by simp [PyData.eqvAll]
  | _ :: _, [] => by simp [PyData.eqvAll]
  | n :: r, k :: q => by
    simp only [List.map_cons, PyData.eqvAll, PyData.eqv, eqvAll_ints r q]
    by_cases h : n = k <;> simp [h]
@[simp] theorem shaped_int (i : Int) : SeqAt.shaped (.int i) = true := rfl
theorem shaped_T (ns : List Int) : SeqAt.shaped (.tuple (ns.map .int)) = true := by
  have h1 := W.depthAll_ints ns
  have h2 : PyData.depth (.tuple (ns.map PyData.int)) ≤ 64 := by simp only [PyData.depth]; omega
  show (PyData.canLay0 (.tuple (ns.map PyData.int)) && decide (PyData.depth (.tuple (ns.map PyData.int)) ≤ 64)) = true
  rw [Bool.and_eq_true]
  exact ⟨by simp only [PyData.canLay0]; exact W.canLayAll0_ints ns, decide_eq_true h2⟩
theorem eq_T (ns ms : List Int) : eqD (.tuple (ns.map .int)) (.tuple (ms.map .int)) = some (decide (ns = ms)) := by
  show gd (SeqAt.shaped _ && SeqAt.shaped _) (PyData.eqv _ _) = _
  rw [shaped_T, shaped_T]
  show some (PyData.eqvAll _ _) = _
  rw [eqvAll_ints]
theorem any_ints (i : Int) : ∀ ns : List Int, ((ns.map PyData.int).any fun z => PyData.eqv z (.int i)) = decide (i ∈ ns)
  | [] => by simp
  | n :: r => by
    rw [List.map_cons, List.any_cons, any_ints i r]
    simp only [PyData.eqv]
    by_cases h : n = i
    · simp [h]
    · have h' : ¬ i = n := fun e => h e.symm
      simp [h, h']
theorem in_T (i : Int) (ns : List Int) : inD (.int i) (.tuple (ns.map .int)) = some (decide (i ∈ ns)) := by
  show gd (SeqAt.shaped _ && SeqAt.shaped _) _ = _
  rw [shaped_T, shaped_int, any_ints]
  rfl
theorem sortOk_ints (ns : List Int) : sortOk (ns.map .int) = true := by
  have a : ∀ f : D → Bool, (∀ i : Int, f (.int i) = true) → (ns.map PyData.int).all f = true := fun f h => by
    rw [List.all_map, List.all_eq_true]
    intro i _
    exact h i
  unfold sortOk
  rw [a _ fun i => a _ fun j => rfl, a othB fun i => rfl, a SeqAt.shaped fun i => rfl, Bool.or_true]
  rfl
def mxI : List Int → Int
  | [] => 0
  | n :: r => r.foldl max n
def mnI : List Int → Int
  | [] => 0
  | n :: r => r.foldl min n
theorem max_of {ns : List Int} (h : ns ≠ []) : biD .max [.list (ns.map .int)] = some (.int (mxI ns)) := by
  cases ns with
  | nil => exact absurd rfl h
  | cons n r =>
    show gd (sortOk ((n :: r).map .int)) (W.maxD (.int n) (r.map .int)) = _
    rw [sortOk_ints, W.maxD_ints]
    rfl
theorem min_of {ns : List Int} (h : ns ≠ []) : biD .min [.list (ns.map .int)] = some (.int (mnI ns)) := by
  cases ns with
  | nil => exact absurd rfl h
  | cons n r =>
    show gd (sortOk ((n :: r).map .int)) (W.minD (.int n) (r.map .int)) = _
    rw [sortOk_ints, W.minD_ints]
    rfl
def sortI (ns : List Int) : List Int := ns.mergeSort (fun a b => decide (a ≤ b))
theorem sort_of (ns : List Int) : biD .sorted [.list (ns.map .int)] = some (.list ((sortI ns).map .int)) := by
  show gd (sortOk (ns.map PyData.int)) (PyData.list ((ns.map PyData.int).mergeSort (W.dataLe false id))) = _
  have e : ((sortI ns).map PyData.int) = (ns.map PyData.int).mergeSort (W.dataLe false id) := by
    refine _root_.PySem.W.sort_maps (r := fun a b => decide (a ≤ b)) PyData.int fun a _ b _ => ?_
    have := congrFun (congrFun (W.dataLe_int (β := Int) (k := id)) a) b
    exact this.symm
  rw [sortOk_ints, ← e]
  rfl
theorem foldl_max_ge : ∀ (r : List Int) (n : Int), n ≤ r.foldl max n ∧ (∀ x ∈ r, x ≤ r.foldl max n) ∧ (r.foldl max n = n ∨ r.foldl max n ∈ r)
  | [], n => ⟨Int.le_refl _, fun _ h => (nomatch h), .inl rfl⟩
  | k :: r, n => by
    obtain ⟨h1, h2, h3⟩ := foldl_max_ge r (max n k)
    rw [List.foldl_cons]
    refine ⟨by omega, fun x hx => ?_, ?_⟩
    · rcases List.mem_cons.mp hx with h | h
      · omega
      · exact h2 x h
    · rcases h3 with h | h
      · rw [h]
        by_cases hk : n ≤ k
        · exact .inr (List.mem_cons.mpr (.inl (by omega)))
        · exact .inl (by omega)
      · exact .inr (List.mem_cons_of_mem _ h)
theorem foldl_min_le : ∀ (r : List Int) (n : Int), r.foldl min n ≤ n ∧ (∀ x ∈ r, r.foldl min n ≤ x) ∧ (r.foldl min n = n ∨ r.foldl min n ∈ r)
  | [], n => ⟨Int.le_refl _, fun _ h => (nomatch h), .inl rfl⟩
  | k :: r, n => by
    obtain ⟨h1, h2, h3⟩ := foldl_min_le r (min n k)
    rw [List.foldl_cons]
    refine ⟨by omega, fun x hx => ?_, ?_⟩
    · rcases List.mem_cons.mp hx with h | h
      · omega
      · exact h2 x h
    · rcases h3 with h | h
      · rw [h]
        by_cases hk : k ≤ n
        · exact .inr (List.mem_cons.mpr (.inl (by omega)))
        · exact .inl (by omega)
      · exact .inr (List.mem_cons_of_mem _ h)
theorem mxI_mem {ns : List Int} (h : ns ≠ []) : mxI ns ∈ ns := by
  cases ns with
  | nil => exact absurd rfl h
  | cons n r =>
    rcases (foldl_max_ge r n).2.2 with e | e
    · exact List.mem_cons.mpr (.inl e)
    · exact List.mem_cons_of_mem _ e
theorem mxI_ge {ns : List Int} : ∀ x ∈ ns, x ≤ mxI ns := by
  cases ns with
  | nil => exact fun _ h => nomatch h
  | cons n r =>
    intro x hx
    obtain ⟨h1, h2, _⟩ := foldl_max_ge r n
    rcases List.mem_cons.mp hx with h | h
    · rw [h]; exact h1
    · exact h2 x h
theorem mnI_mem {ns : List Int} (h : ns ≠ []) : mnI ns ∈ ns := by
  cases ns with
  | nil => exact absurd rfl h
  | cons n r =>
    rcases (foldl_min_le r n).2.2 with e | e
    · exact List.mem_cons.mpr (.inl e)
    · exact List.mem_cons_of_mem _ e
theorem mnI_le {ns : List Int} : ∀ x ∈ ns, mnI ns ≤ x := by
  cases ns with
  | nil => exact fun _ h => nomatch h
  | cons n r =>
    intro x hx
    obtain ⟨h1, h2, _⟩ := foldl_min_le r n
    rcases List.mem_cons.mp hx with h | h
    · rw [h]; exact h1
    · exact h2 x h
theorem sortI_perm (ns : List Int) : (sortI ns).Perm ns := List.mergeSort_perm _ _
theorem sortI_pw (ns : List Int) : (sortI ns).Pairwise (· ≤ ·) := by
  have := List.pairwise_mergeSort (le := fun (a b : Int) => decide (a ≤ b)) (fun a b c h1 h2 => by simp at *; omega) (fun a b => by simp; omega) ns
  exact this.imp fun h => by simpa using h
theorem sortI_ne {ns : List Int} (h : ns ≠ []) : sortI ns ≠ [] := fun e => h (by have := (sortI_perm ns).length_eq; rw [e] at this; exact List.length_eq_zero_iff.mp this.symm)
theorem sort_head {ns : List Int} (h : ns ≠ []) : (sortI ns)[0]? = some (mnI ns) := by
  have p := sortI_perm ns
  have q := sortI_pw ns
  have n := sortI_ne h
  cases hs : sortI ns with
  | nil => exact absurd hs n
  | cons a r =>
    rw [hs] at p q
    have h1 : mnI ns ∈ a :: r := p.mem_iff.mpr (mnI_mem h)
    have h2 := mnI_le a (p.mem_iff.mp List.mem_cons_self)
    have h3 : a ≤ mnI ns := by
      rcases List.mem_cons.mp h1 with e | e
      · omega
      · exact (List.pairwise_cons.mp q).1 _ e
    show some a = _
    exact congrArg some (by omega)
theorem pw_last : ∀ {r : List Int} {z : Int}, r.Pairwise (· ≤ ·) → r.getLast? = some z → ∀ x ∈ r, x ≤ z
  | [], _, _, h, _, _ => by cases h
  | [a], z, _, h, x, hx => by simp at h hx; omega
  | a :: b :: r, z, q, h, x, hx => by
    have q' := List.pairwise_cons.mp q
    rw [List.getLast?_cons_cons] at h
    have ih := pw_last q'.2 h
    rcases List.mem_cons.mp hx with e | e
    · have := q'.1 z (List.mem_of_getLast? h)
      omega
    · exact ih x e
theorem sort_last {ns : List Int} (h : ns ≠ []) : (sortI ns).getLast? = some (mxI ns) := by
  have p := sortI_perm ns
  have q := sortI_pw ns
  have n := sortI_ne h
  cases hz : (sortI ns).getLast? with
  | none => exact absurd (List.getLast?_eq_none_iff.mp hz) n
  | some z =>
    have h1 := pw_last q hz (mxI ns) (p.mem_iff.mpr (mxI_mem h))
    have h2 := mxI_ge z (p.mem_iff.mp (List.mem_of_getLast? hz))
    exact congrArg some (by omega)
theorem ix_last {xs : List D} {d : D} (h : xs.getLast? = some d) : idxD (.list xs) (.int (-1)) = some d := by
  have hn : xs ≠ [] := fun e => by rw [e] at h; cases h
  have hl : 0 < xs.length := List.length_pos_iff.mpr hn
  rw [List.getLast?_eq_getElem?] at h
  have h1 : L2.ixN xs.length (-1) = some (xs.length - 1) := by
    simp [L2.ixN]
    omega
  simp [idxD, L2.atI, h1, h]
/-! ### small runs -/
theorem ix_Z {xs : List Int} {z : Int} (h0 : 0 ≤ z) (h1 : z < xs.length) : idxD (.tuple (xs.map .int)) (.int z) = some (.int (xs.getD z.toNat 0)) := by
  have e : z = ((z.toNat : Nat) : Int) := by omega
  have hl : z.toNat < xs.length := by omega
  rw [e]
  refine ix_tup _ _ ?_
  rw [List.getElem?_map, List.getElem?_eq_getElem hl]
  show some (PyData.int _) = some (.int (xs.getD ((z.toNat : Int)).toNat 0))
  rw [Int.toNat_natCast, List.getD_eq_getElem?_getD, List.getElem?_eq_getElem hl]
  rfl
theorem run_cell_at {w h t a b : Int} (hw : 1 ≤ w ∧ w ≤ 3) (hh : 1 ≤ h ∧ h ≤ 3) : F_cell_at [.tuple [.int w, .int h, .int t], .int a, .int b] = .ok (.int (b % h * w + a % w)) := by
  refine fn_run rfl ?_
  simp [B_cell_at, startE, bin_mul _ _ (.inr (smallI_of (i := w) (by omega) (by omega))), bin_mod _ w (by omega), bin_mod _ h (by omega)]
theorem run_is_within {x lo hi : Int} : F_is_within [.int x, .int lo, .int hi] = .ok (.bool (decide (lo ≤ x ∧ x ≤ hi))) := by
  refine fn_run rfl ?_
  by_cases h1 : lo ≤ x <;> by_cases h2 : x ≤ hi <;> simp [B_is_within, startE, h1, h2]
end M
end
section
/-! Plain mathematics: worlds, pictures, deeds. -/
namespace M
open PySem PI PG
section
variable {env : En} {e c : E} {p : Pat} {it : It} {own : List Nat} {α : Type} {enc g : α → D} {ys : List α}
theorem ev_map (enc g : α → D) (ys : List α) (ho : (own.all fun i => noOwn (PI.slotAt env i)) = true) (hi : evIt it env = .ok (ys.map enc))
    (he : ∀ y ∈ ys, ∃ env', patSet p (enc y) (wipeE env own) = some env' ∧ evE e env' = .ok (g y)) : evE (.lc e p it (.con (.bool true)) own) env = .ok (.list (ys.map g)) := lc_map ho hi he
theorem ev_filter (enc g : α → D) (q : α → Bool) (ys : List α) (ho : (own.all fun i => noOwn (PI.slotAt env i)) = true) (hi : evIt it env = .ok (ys.map enc))
    (he : ∀ y ∈ ys, ∃ env' d, patSet p (enc y) (wipeE env own) = some env' ∧ evE c env' = .ok d ∧ truthD d = some (q y) ∧ (q y = true → evE e env' = .ok (g y))) : evE (.lc e p it c own) env = .ok (.list ((ys.filter q).map g)) := lc_filter ho hi he
end
/-- a loop with an invariant -/
theorem for_inv {α : Type} {f : D → En → Rs} {enc : α → D} (P : List α → En → Prop) (N : Nat) : ∀ {ys zs : List α} {env : En}, zs.length + ys.length ≤ N → P zs env → (∀ zs y env, y ∈ ys → zs.length < N → P zs env → ∃ env', f (enc y) env = .nx env' ∧ P (zs ++ [y]) env') → ∃ env', forGo f (ys.map enc) env = .nx env' ∧ P (zs ++ ys) env'
  | [], zs, env, _, h, _ => ⟨env, rfl, by rw [List.append_nil]; exact h⟩
  | y :: ys, zs, env, l, h, st => by
    rw [List.length_cons] at l
    obtain ⟨e1, h1, h2⟩ := st zs y env List.mem_cons_self (by omega) h
    obtain ⟨e2, h3, h4⟩ := for_inv P N (ys := ys) (zs := zs ++ [y]) (by rw [List.length_append, List.length_singleton]; omega) h2 fun zs z env hz => st zs z env (List.mem_cons_of_mem _ hz)
    refine ⟨e2, ?_, ?_⟩
    · rw [List.map_cons, forGo, h1]; exact h3
    · rw [List.append_assoc] at h4; exact h4
abbrev wd (w h t : Int) : D := .tuple [.int w, .int h, .int t]
abbrev pic (p : List Int) : D := .tuple (p.map .int)
structure WOk (w h t : Int) : Prop where
  w1 : 1 ≤ w
  w3 : w ≤ 3
  h1 : 1 ≤ h
  h2 : h ≤ 2
  t1 : 1 ≤ t
  t3 : t ≤ 3
  few : (t + 1) ^ (w * h).toNat ≤ 256
inductive Dd where
  | turn | flip (a : Bool) | shift (x y : Int) | ext (g : Bool) (ws : List (Int × Int)) | cells (l : Bool) (cs : List Int)
  deriving DecidableEq
def stp (s : Int × Int) : D := .tuple [.int s.1, .int s.2]
def encD : Dd → D
  | .turn => .tuple [.str "turn"]
  | .flip true => .tuple [.str "flip", .str "across"]
  | .flip false => .tuple [.str "flip", .str "down"]
  | .shift x y => .tuple [.str "shift", .int x, .int y]
  | .ext true ws => .tuple [.str "greatest", .tuple (ws.map stp)]
  | .ext false ws => .tuple [.str "least", .tuple (ws.map stp)]
  | .cells true cs => .tuple [.str "lift", .tuple (cs.map .int)]
  | .cells false cs => .tuple [.str "mask", .tuple (cs.map .int)]
def cellsL (n : Int) : List Int := (List.range n.toNat).map fun (i : Nat) => (i : Int)
theorem mem_cells {n c : Int} : c ∈ cellsL n ↔ 0 ≤ c ∧ c < n := by
  unfold cellsL
  rw [List.mem_map]
  constructor
  · rintro ⟨a, h, rfl⟩
    have := List.mem_range.mp h
    omega
  · intro h
    exact ⟨c.toNat, List.mem_range.mpr (by omega), by omega⟩
theorem cells_nodup (n : Int) : (cellsL n).Nodup := by
  unfold cellsL
  exact List.pairwise_map.mpr (List.nodup_range.imp fun h e => h (by omega))
theorem cells_len {n : Int} (h : 0 ≤ n) : ((cellsL n).length : Int) = n := by
  unfold cellsL
  rw [List.length_map, List.length_range]
  omega
theorem rng_cells {n : Int} (h0 : 0 ≤ n) (h : n ≤ 1000000) : rangeD (.int n) = some ((cellsL n).map .int) := by
  have : n = ((n.toNat : Nat) : Int) := by omega
  rw [this, rng_of (by omega)]
  unfold cellsL rangeL
  rw [List.map_map, Int.toNat_natCast]
  rfl
def atP (p : List Int) (z : Int) : Int := p.getD z.toNat 0
theorem ix_P {p : List Int} {z : Int} (h0 : 0 ≤ z) (h1 : z < p.length) : idxD (.tuple (p.map .int)) (.int z) = some (.int (atP p z)) := ix_Z h0 h1
/-- from where the worth comes -/
def srcS (w h : Int) (d : Dd) (c : Int) : Int := match d with
  | .flip true => c / w * w + w - 1 - c % w
  | .flip false => (h - 1 - c / w) * w + c % w
  | .shift a b => (c / w - b) % h * w + (c % w - a) % w
  | _ => c
/-- what a window shows -/
def winS (w h : Int) (p : List Int) (ws : List (Int × Int)) (c : Int) : List Int := ws.map fun s => atP p ((c / w + s.2) % h * w + (c % w + s.1) % w)
def cellS (w h t : Int) (p : List Int) (d : Dd) (c : Int) : Int := match d with
  | .turn => t - atP p c
  | .ext true ws => mxI (winS w h p ws c)
  | .ext false ws => mnI (winS w h p ws c)
  | .cells true cs => if c ∈ cs then t else atP p c
  | .cells false cs => if c ∈ cs then atP p c else 0
  | d => atP p (srcS w h d c)
def doneS (w h t : Int) (p : List Int) (d : Dd) : List Int := (cellsL (w * h)).map (cellS w h t p d)
def stOk (w h : Int) (s : Int × Int) : Prop := (0 ≤ s.1 ∧ s.1 ≤ w - 1) ∧ (0 ≤ s.2 ∧ s.2 ≤ h - 1)
def stLt (a b : Int × Int) : Prop := a.1 < b.1 ∨ a.1 = b.1 ∧ a.2 < b.2
instance (w h : Int) (s : Int × Int) : Decidable (stOk w h s) := by unfold stOk; infer_instance
instance (a b : Int × Int) : Decidable (stLt a b) := by unfold stLt; infer_instance
def DdOk (w h : Int) : Dd → Prop
  | .turn => True
  | .flip _ => True
  | .shift x y => stOk w h (x, y)
  | .ext _ ws => ws ≠ [] ∧ (∀ s ∈ ws, stOk w h s) ∧ ws.Pairwise stLt
  | .cells _ cs => (∀ c ∈ cs, 0 ≤ c ∧ c ≤ w * h - 1) ∧ cs.Pairwise (· < ·)
theorem box {w h x y : Int} (h1 : 1 ≤ w) (h3 : w ≤ 3) (hx : 0 ≤ x ∧ x < w) (hy : 0 ≤ y ∧ y < h) : 0 ≤ y * w + x ∧ y * w + x < w * h := by
  have : w = 1 ∨ w = 2 ∨ w = 3 := by omega
  rcases this with rfl | rfl | rfl <;> omega
theorem wh_le {w h t : Int} (W : WOk w h t) : 1 ≤ w * h ∧ w * h ≤ 6 := by
  obtain ⟨a, b, c, d⟩ := W
  have : w = 1 ∨ w = 2 ∨ w = 3 := by omega
  rcases this with rfl | rfl | rfl <;> omega
/-! ### a dict of ints -/
theorem merge_new : ∀ (ys : List Int) (f : Int → Int) (g : Int → D) (acc : List (D × D)), (∀ c ∈ ys, ∀ kv ∈ acc, PyData.eqv kv.1 (.int (f c)) = false) → (ys.map f).Nodup → mergeD acc (ys.map fun c => .tuple [.int (f c), g c]) = some (acc ++ ys.map fun c => (.int (f c), g c))
  | [], f, g, acc, _, _ => by simp [mergeD]
  | c :: ys, f, g, acc, h, nd => by
    rw [List.map_cons] at nd
    have nd' := List.nodup_cons.mp nd
    have e : storeD acc (.int (f c)) (g c) = acc ++ [(.int (f c), g c)] := by
      unfold storeD
      rw [show (acc.any fun kv => PyData.eqv kv.1 (.int (f c))) = false from by
        rw [List.any_eq_false]
        intro kv hk
        rw [h c List.mem_cons_self kv hk]
        exact Bool.false_ne_true]
      rfl
    rw [List.map_cons, mergeD, e, merge_new ys f g _ ?_ nd'.2]
    · simp
    · intro x hx kv hk
      rcases List.mem_append.mp hk with hk | hk
      · exact h x (List.mem_cons_of_mem _ hx) kv hk
      · rw [List.mem_singleton.mp hk]
        have : f c ≠ f x := fun e => nd'.1 (by rw [e]; exact List.mem_map_of_mem hx)
        simp only [PyData.eqv]
        exact beq_eq_false_iff_ne.mpr this
theorem look_at {f : Int → Int} {g : Int → D} {k : Int} : ∀ {ys : List Int} {c : Int}, c ∈ ys → f c = k → (∀ x ∈ ys, f x = k → x = c) → lookD (ys.map fun c => (.int (f c), g c)) (.int k) = some (g c)
  | y :: ys, c, hc, hk, u => by
    rw [List.map_cons, lookD]
    by_cases h : f y = k
    · have := u y List.mem_cons_self h
      subst this
      simp [PyData.eqv, h]
    · have : (PyData.int (f y)).eqv (.int k) = false := by simp only [PyData.eqv]; exact beq_eq_false_iff_ne.mpr h
      rw [this]
      rcases List.mem_cons.mp hc with e | e
      · rw [e] at hk; exact absurd hk h
      · exact look_at e hk fun x hx => u x (List.mem_cons_of_mem _ hx)
theorem idx_dict {f : Int → Int} {g : Int → D} {ys : List Int} {k c : Int} (hc : c ∈ ys) (hk : f c = k) (u : ∀ x ∈ ys, f x = k → x = c) : idxD (.dict (ys.map fun c => (.int (f c), g c))) (.int k) = some (g c) := by
  have h := look_at (g := g) hc hk u
  cases ys with
  | nil => cases hc
  | cons y ys =>
    show (dictLook ((PyData.int (f y), g y) :: ys.map fun c => (.int (f c), g c)) (.int k)).bind id = _
    show (some (lookD _ _)).bind id = _
    rw [show ((PyData.int (f y), g y) :: ys.map fun c => (PyData.int (f c), g c)) = (y :: ys).map fun c => (PyData.int (f c), g c) from rfl, h]
    rfl
end M
end
section
/-! Plain mathematics: done. -/
namespace M
open PySem PI PG
variable {w h t : Int}
def dstS (w h : Int) (d : Dd) (c : Int) : Int := match d with
  | .flip true => c / w % h * w + (w - 1 - c % w) % w
  | .flip false => (h - 1 - c / w) % h * w + c % w % w
  | .shift a b => (c / w + b) % h * w + (c % w + a) % w
  | _ => c
def isFree : Dd → Bool
  | .flip _ => true
  | .shift _ _ => true
  | _ => false
theorem run_cell (W : WOk w h t) {a b : Int} : F_cell_at [wd w h t, .int a, .int b] = .ok (.int (b % h * w + a % w)) := run_cell_at ⟨W.w1, W.w3⟩ ⟨W.h1, by have := W.h2; omega⟩
theorem run_moved (W : WOk w h t) {c : Int} {d : Dd} (hd : isFree d = true) : F_moved [wd w h t, .int c, encD d] = .ok (.int (dstS w h d c)) := by
  refine fn_run rfl ?_
  have h1 := fun a : Int => bin_mod a w (by have := W.w1; omega)
  have h2 := fun a : Int => bin_fdiv a w (by have := W.w1; omega) (by have := W.w3; omega)
  have h3 := fun a b : Int => run_cell W (a := a) (b := b)
  simp only [wd] at h3
  cases d with
  | flip a => cases a <;> simp [B_moved, startE, encD, h1, h2, h3, dstS]
  | shift a b => simp [B_moved, startE, encD, h1, h2, h3, dstS]
  | _ => cases hd
theorem run_seen (W : WOk w h t) {p : List Int} (hp : (p.length : Int) = w * h) {ws : List (Int × Int)} {c : Int} :
    F_seen [wd w h t, pic p, .tuple (ws.map stp), .int c] = .ok (.list ((winS w h p ws c).map .int)) := by
  refine fn_run rfl ?_
  unfold winS
  have h1 := bin_mod c w (by have := W.w1; omega)
  have h2 := bin_fdiv c w (by have := W.w1; omega) (by have := W.w3; omega)
  have h3 := fun a b : Int => run_cell W (a := a) (b := b)
  simp only [wd] at h3
  have hb : ∀ a b : Int, 0 ≤ b % h * w + a % w ∧ b % h * w + a % w < w * h := fun a b => box W.w1 W.w3 ⟨Int.emod_nonneg _ (by have := W.w1; omega), Int.emod_lt_of_pos _ (by have := W.w1; omega)⟩ ⟨Int.emod_nonneg _ (by have := W.h1; omega), Int.emod_lt_of_pos _ (by have := W.h1; omega)⟩
  generalize c % w = x at *
  generalize c / w = y at *
  simp only [B_seen, startE]
  rw [List.map_map]
  simp [h1, h2]
  rw [ev_map stp (fun s => PyData.int (atP p ((y + s.2) % h * w + (x + s.1) % w))) ws (by rfl) (by simp)]
  · simp
  · intro s hs
    refine ⟨_, rfl, ?_⟩
    have := hb (x + s.1) (y + s.2)
    simp [stp, h3, ix_P (p := p) this.1 (by omega)]
end M
end
section
/-! Plain mathematics: done, the program's. -/
namespace M
open PySem PI PG
@[simp] theorem inw_0_0 : inD (.str (("turn" : String) : Str)) (.tuple [.str (("shift" : String) : Str), .str (("flip" : String) : Str)]) = some false := by kernel_rfl
@[simp] theorem inw_0_1 : inD (.str (("turn" : String) : Str)) (.tuple [.str (("greatest" : String) : Str), .str (("least" : String) : Str)]) = some false := by kernel_rfl
@[simp] theorem inw_0_2 : inD (.str (("turn" : String) : Str)) (.tuple [.str (("mask" : String) : Str), .str (("lift" : String) : Str)]) = some false := by kernel_rfl
@[simp] theorem inw_1_0 : inD (.str (("flip" : String) : Str)) (.tuple [.str (("shift" : String) : Str), .str (("flip" : String) : Str)]) = some true := by kernel_rfl
@[simp] theorem inw_1_1 : inD (.str (("flip" : String) : Str)) (.tuple [.str (("greatest" : String) : Str), .str (("least" : String) : Str)]) = some false := by kernel_rfl
@[simp] theorem inw_1_2 : inD (.str (("flip" : String) : Str)) (.tuple [.str (("mask" : String) : Str), .str (("lift" : String) : Str)]) = some false := by kernel_rfl
@[simp] theorem inw_2_0 : inD (.str (("shift" : String) : Str)) (.tuple [.str (("shift" : String) : Str), .str (("flip" : String) : Str)]) = some true := by kernel_rfl
@[simp] theorem inw_2_1 : inD (.str (("shift" : String) : Str)) (.tuple [.str (("greatest" : String) : Str), .str (("least" : String) : Str)]) = some false := by kernel_rfl
@[simp] theorem inw_2_2 : inD (.str (("shift" : String) : Str)) (.tuple [.str (("mask" : String) : Str), .str (("lift" : String) : Str)]) = some false := by kernel_rfl
@[simp] theorem inw_3_0 : inD (.str (("greatest" : String) : Str)) (.tuple [.str (("shift" : String) : Str), .str (("flip" : String) : Str)]) = some false := by kernel_rfl
@[simp] theorem inw_3_1 : inD (.str (("greatest" : String) : Str)) (.tuple [.str (("greatest" : String) : Str), .str (("least" : String) : Str)]) = some true := by kernel_rfl
@[simp] theorem inw_3_2 : inD (.str (("greatest" : String) : Str)) (.tuple [.str (("mask" : String) : Str), .str (("lift" : String) : Str)]) = some false := by kernel_rfl
@[simp] theorem inw_4_0 : inD (.str (("least" : String) : Str)) (.tuple [.str (("shift" : String) : Str), .str (("flip" : String) : Str)]) = some false := by kernel_rfl
@[simp] theorem inw_4_1 : inD (.str (("least" : String) : Str)) (.tuple [.str (("greatest" : String) : Str), .str (("least" : String) : Str)]) = some true := by kernel_rfl
@[simp] theorem inw_4_2 : inD (.str (("least" : String) : Str)) (.tuple [.str (("mask" : String) : Str), .str (("lift" : String) : Str)]) = some false := by kernel_rfl
@[simp] theorem inw_5_0 : inD (.str (("mask" : String) : Str)) (.tuple [.str (("shift" : String) : Str), .str (("flip" : String) : Str)]) = some false := by kernel_rfl
@[simp] theorem inw_5_1 : inD (.str (("mask" : String) : Str)) (.tuple [.str (("greatest" : String) : Str), .str (("least" : String) : Str)]) = some false := by kernel_rfl
@[simp] theorem inw_5_2 : inD (.str (("mask" : String) : Str)) (.tuple [.str (("mask" : String) : Str), .str (("lift" : String) : Str)]) = some true := by kernel_rfl
@[simp] theorem inw_6_0 : inD (.str (("lift" : String) : Str)) (.tuple [.str (("shift" : String) : Str), .str (("flip" : String) : Str)]) = some false := by kernel_rfl
@[simp] theorem inw_6_1 : inD (.str (("lift" : String) : Str)) (.tuple [.str (("greatest" : String) : Str), .str (("least" : String) : Str)]) = some false := by kernel_rfl
@[simp] theorem inw_6_2 : inD (.str (("lift" : String) : Str)) (.tuple [.str (("mask" : String) : Str), .str (("lift" : String) : Str)]) = some true := by kernel_rfl
@[simp] theorem inw_7_3 : inD (.str (("across" : String) : Str)) (.tuple [.str (("across" : String) : Str), .str (("down" : String) : Str)]) = some true := by kernel_rfl
@[simp] theorem inw_8_3 : inD (.str (("down" : String) : Str)) (.tuple [.str (("across" : String) : Str), .str (("down" : String) : Str)]) = some true := by kernel_rfl
@[simp] theorem cmp_inn (a b : D) : cmpD .inn a b = inD a b := rfl
@[simp] theorem cmp_nin (a b : D) : cmpD .nin a b = (inD a b).map (!·) := rfl
variable {w h t : Int}
theorem pic_cells {p : List Int} {n : Int} (hp : (p.length : Int) = n) : (cellsL n).map (atP p) = p := by
  subst hp
  unfold cellsL atP
  rw [List.map_map, Int.toNat_natCast]
  apply List.ext_getElem
  · simp
  · intro i h1 h2
    simp [List.getD_eq_getElem?_getD, h2]
theorem done_len (W : WOk w h t) (p : List Int) (d : Dd) : ((doneS w h t p d).length : Int) = w * h := by
  unfold doneS
  rw [List.length_map]
  exact cells_len (by have := wh_le W; omega)
theorem free_inv (W : WOk w h t) {d : Dd} (hf : isFree d = true) (hd : DdOk w h d) {c : Int} (hc : 0 ≤ c ∧ c < w * h) :
    (0 ≤ srcS w h d c ∧ srcS w h d c < w * h) ∧ dstS w h d (srcS w h d c) = c ∧ srcS w h d (dstS w h d c) = c := by
  have hw : w = 1 ∨ w = 2 ∨ w = 3 := by have := W.w1; have := W.w3; omega
  have hh : h = 1 ∨ h = 2 := by have := W.h1; have := W.h2; omega
  cases d with
  | flip a => cases a <;> rcases hw with rfl | rfl | rfl <;> rcases hh with rfl | rfl <;> simp only [srcS, dstS] <;> omega
  | shift a b =>
    simp only [DdOk, stOk] at hd
    rcases hw with rfl | rfl | rfl <;> rcases hh with rfl | rfl <;> simp only [srcS, dstS] <;> omega
  | _ => cases hf
theorem run_done (W : WOk w h t) {p : List Int} (hp : (p.length : Int) = w * h) {d : Dd} (hd : DdOk w h d) : F_done [wd w h t, pic p, encD d] = .ok (pic (doneS w h t p d)) := by
  refine fn_run rfl ?_
  have hwh := wh_le W
  have hr : rangeD (.int (p.length : Int)) = some ((cellsL (w * h)).map .int) := by rw [hp]; exact rng_cells (by omega) (by omega)
  have hl : lenD (pic p) = some (.int (p.length : Int)) := by show some (PyData.int ((p.map PyData.int).length : Int)) = _; rw [List.length_map]
  have hi : itemsD (pic p) = some ((cellsL (w * h)).map fun c => .int (atP p c)) := by
    show some (p.map PyData.int) = _
    conv => lhs; rw [← pic_cells hp, List.map_map]
    rfl
  have hx : ∀ c ∈ cellsL (w * h), idxD (pic p) (.int c) = some (.int (atP p c)) := fun c hc => ix_P (mem_cells.mp hc).1 (by rw [hp]; exact (mem_cells.mp hc).2)
  have hfin : pic (doneS w h t p d) = .tuple ((cellsL (w * h)).map fun c => .int (cellS w h t p d c)) := by
    show PyData.tuple (List.map _ (List.map _ _)) = _
    rw [List.map_map]; rfl
  rw [hfin]
  have free : ∀ (hf : isFree d = true), fin (evSs 400 B_done [.val (wd w h t), .val (pic p), .val (encD d), .emp, .emp, .emp, .emp, .emp]) = .ok (.tuple ((cellsL (w * h)).map fun c => .int (cellS w h t p d c))) := by
    intro hf
    have hi1 : ∀ c ∈ cellsL (w * h), ∀ x ∈ cellsL (w * h), dstS w h d x = c → x = srcS w h d c := fun c hc x hx e => by
      rw [← e]; exact ((free_inv W hf hd (mem_cells.mp hx)).2.2).symm
    have hi2 : ∀ c ∈ cellsL (w * h), srcS w h d c ∈ cellsL (w * h) ∧ dstS w h d (srcS w h d c) = c := fun c hc => ⟨mem_cells.mpr (free_inv W hf hd (mem_cells.mp hc)).1, (free_inv W hf hd (mem_cells.mp hc)).2.1⟩
    have nd : ((cellsL (w * h)).map (dstS w h d)).Nodup := by
      refine List.pairwise_map.mpr ((List.Pairwise.and_mem.mp (cells_nodup (w * h))).imp fun {a b} z e => z.2.2 ?_)
      rw [← (free_inv W hf hd (mem_cells.mp z.1)).2.2, ← (free_inv W hf hd (mem_cells.mp z.2.1)).2.2, e]
    have hm : biD .dictOf [.list ((cellsL (w * h)).map fun c => .tuple [.int (dstS w h d c), .int (atP p c)])] = some (.dict ((cellsL (w * h)).map fun c => (.int (dstS w h d c), .int (atP p c)))) := by
      show (match mergeD [] _ with | some kvs => some (PyData.dict kvs) | none => (mergeN [] _).map fun kvs => PyData.dict ((.none, .none) :: kvs)) = _
      rw [merge_new _ (dstS w h d) (fun c => .int (atP p c)) [] (fun _ _ _ h => nomatch h) nd]
      rfl
    have hw : ∃ x : Str, idxD (encD d) (.int 0) = some (.str x) ∧ (x = (("flip" : String) : Str) ∨ x = (("shift" : String) : Str)) := by
      cases d with
      | flip a => cases a <;> exact ⟨_, by simp [encD], .inl rfl⟩
      | shift a b => exact ⟨_, by simp [encD], .inr rfl⟩
      | _ => cases hf
    have hs : ∀ c, cellS w h t p d c = atP p (srcS w h d c) := fun c => by
      cases d <;> first | rfl | exact absurd hf (by simp [isFree])
    obtain ⟨x, hx0, hx1⟩ := hw
    rcases hx1 with rfl | rfl
    all_goals
      simp [B_done, hl, hr, hx0, -List.map_map]
      rw [ev_map .int (fun c => .tuple [.int (dstS w h d c), .int (atP p c)]) (cellsL (w * h)) (by rfl) (by simp)]
      · simp [-List.map_map, hm]
        rw [ev_map .int (fun c => .int (cellS w h t p d c)) (cellsL (w * h)) (by rfl) (by simp)]
        · simp
        · intro c hc
          refine ⟨_, rfl, ?_⟩
          have := idx_dict (f := dstS w h d) (g := fun c => .int (atP p c)) (ys := cellsL (w * h)) (hi2 c hc).1 (hi2 c hc).2 (hi1 c hc)
          simp [this, hs]
      · intro c hc
        refine ⟨_, rfl, ?_⟩
        simp [run_moved W hf, hx c hc]
  cases d with
  | turn =>
    simp [B_done, startE, encD, hl, hr, -List.map_map]
    rw [ev_map (fun c => .int (atP p c)) (fun c => .int (cellS w h t p .turn c)) (cellsL (w * h)) (by rfl) (by simp [hi, -itemsD])]
    · rfl
    · intro c hc
      refine ⟨_, rfl, ?_⟩
      simp
      rfl
  | flip a => exact free rfl
  | shift a b => exact free rfl
  | ext g ws =>
    obtain ⟨hn, hb, _⟩ := hd
    cases g
    · simp [B_done, startE, encD, hl, hr, -List.map_map]
      rw [ev_map .int (fun c => .int (cellS w h t p (.ext false ws) c)) (cellsL (w * h)) (by rfl) (by simp)]
      · rfl
      · intro c hc
        refine ⟨_, rfl, ?_⟩
        have hm := min_of (ns := winS w h p ws c) (by simpa [winS] using hn)
        simp [run_seen W hp, hm, -List.map_map, cellS]
    · simp [B_done, startE, encD, hl, hr, -List.map_map]
      rw [ev_map .int (fun c => .int (cellS w h t p (.ext true ws) c)) (cellsL (w * h)) (by rfl) (by simp)]
      · rfl
      · intro c hc
        refine ⟨_, rfl, ?_⟩
        have hm := max_of (ns := winS w h p ws c) (by simpa [winS] using hn)
        simp [run_seen W hp, hm, -List.map_map, cellS]
  | cells l cs =>
    cases l
    · simp [B_done, startE, encD, hl, hr, -List.map_map]
      rw [ev_map .int (fun c => .int (cellS w h t p (.cells false cs) c)) (cellsL (w * h)) (by rfl) (by simp)]
      · rfl
      · intro c hc
        refine ⟨_, rfl, ?_⟩
        by_cases hm : c ∈ cs <;> simp [in_T, hm, hx c hc, cellS]
    · simp [B_done, startE, encD, hl, hr, -List.map_map]
      rw [ev_map .int (fun c => .int (cellS w h t p (.cells true cs) c)) (cellsL (w * h)) (by rfl) (by simp)]
      · rfl
      · intro c hc
        refine ⟨_, rfl, ?_⟩
        by_cases hm : c ∈ cs <;> simp [in_T, hm, hx c hc, cellS]
end M
end
section
/-! Plain mathematics: done, the law's. -/
namespace M
open PySem PI PG
variable {w h t : Int}
theorem src_in (W : WOk w h t) {d : Dd} (hd : DdOk w h d) {c : Int} (hc : 0 ≤ c ∧ c < w * h) : 0 ≤ srcS w h d c ∧ srcS w h d c < w * h := by
  by_cases hf : isFree d = true
  · exact (free_inv W hf hd hc).1
  · cases d with
    | flip _ => exact absurd rfl hf
    | shift _ _ => exact absurd rfl hf
    | _ => exact hc
def InvL (w h t : Int) (p : List Int) (d : Dd) (x : Str) (zs : List Int) (env : En) : Prop :=
  ∃ s8 s9 s10 s11 s12, env = [.val (wd w h t), .val (pic p), .val (encD d), .val (.int w), .val (.int h), .val (.int t), .val (.str x), .own (.list (zs.map fun c => .int (cellS w h t p d c))), s8, s9, s10, s11, s12, .emp, .emp]
theorem run_ldone (W : WOk w h t) {p : List Int} (hp : (p.length : Int) = w * h) {d : Dd} (hd : DdOk w h d) : F__law_done [wd w h t, pic p, encD d] = .ok (pic (doneS w h t p d)) := by
  refine fn_run rfl ?_
  have hwh := wh_le W
  have hr : rangeD (.int (w * h)) = some ((cellsL (w * h)).map .int) := rng_cells (by omega) (by omega)
  have hx : ∀ c, 0 ≤ c ∧ c < w * h → idxD (pic p) (.int c) = some (.int (atP p c)) := fun c hc => ix_P hc.1 (by rw [hp]; exact hc.2)
  have hfin : pic (doneS w h t p d) = .tuple ((cellsL (w * h)).map fun c => .int (cellS w h t p d c)) := by
    show PyData.tuple (List.map _ (List.map _ _)) = _
    rw [List.map_map]; rfl
  rw [hfin]
  have m1 : ∀ a, binD .mul (.int a) (.int w) = some (.int (a * w)) := fun a => bin_mul _ _ (.inr (smallI_of (by have := W.w1; omega) (by have := W.w3; omega)))
  have m2 : binD .mul (.int w) (.int h) = some (.int (w * h)) := bin_mul _ _ (.inl (smallI_of (by have := W.w1; omega) (by have := W.w3; omega)))
  have d1 : ∀ a, binD .mod (.int a) (.int w) = some (.int (a % w)) := fun a => bin_mod a w (by have := W.w1; omega)
  have d2 : ∀ a, binD .mod (.int a) (.int h) = some (.int (a % h)) := fun a => bin_mod a h (by have := W.h1; omega)
  have d3 : ∀ a, binD .fdiv (.int a) (.int w) = some (.int (a / w)) := fun a => bin_fdiv a w (by have := W.w1; omega) (by have := W.w3; omega)
  obtain ⟨x, hx0⟩ : ∃ x : Str, idxD (encD d) (.int 0) = some (.str x) := by
    cases d with
    | flip a => cases a <;> exact ⟨_, by simp [encD]; rfl⟩
    | ext a => cases a <;> exact ⟨_, by simp [encD]; rfl⟩
    | cells a => cases a <;> exact ⟨_, by simp [encD]; rfl⟩
    | _ => exact ⟨_, by simp [encD]; rfl⟩
  simp [B__law_done, startE, hx0, es_for, m2, hr]
  have loop := for_inv (f := fun x env => Rs.lf (patSet (.nm 8) x env) fun env' => evSs 400 (match B__law_done with | .cons _ (.cons _ (.cons _ (.cons (.for _ _ ss) _))) => ss | _ => .nil) env') (enc := PyData.int) (InvL w h t p d x) 6 (ys := cellsL (w * h)) (zs := []) (env := [.val (wd w h t), .val (pic p), .val (encD d), .val (.int w), .val (.int h), .val (.int t), .val (.str x), .own (.list []), .emp, .emp, .emp, .emp, .emp, .emp, .emp]) (by have := cells_len (n := w * h) (by omega); simp; omega) ⟨_, _, _, _, _, rfl⟩ ?_
  · obtain ⟨env', e1, s8, s9, s10, s11, s12, rfl⟩ := loop
    simp [B__law_done] at e1
    rw [e1]
    simp
  · intro zs c env hc hlen hinv
    obtain ⟨s8, s9, s10, s11, s12, rfl⟩ := hinv
    have hcc := mem_cells.mp hc
    have happ := fun v => app_of (zs.map fun c => PyData.int (cellS w h t p d c)) v (by rw [List.length_map]; unfold lim; omega)
    have hsrc := hx _ (src_in W hd hcc)
    have hc0 := hx c hcc
    have hgo : (∃ v12, evSs 400 (match B__law_done with | .cons _ (.cons _ (.cons _ (.cons (.for _ _ ss) _))) => ss | _ => .nil) [.val (wd w h t), .val (pic p), .val (encD d), .val (.int w), .val (.int h), .val (.int t), .val (.str x), .own (.list (zs.map fun c => .int (cellS w h t p d c))), .val (.int c), s9, s10, s11, s12, .emp, .emp] = .nx [.val (wd w h t), .val (pic p), .val (encD d), .val (.int w), .val (.int h), .val (.int t), .val (.str x), .own (.list (zs.map (fun c => .int (cellS w h t p d c)) ++ [.int (cellS w h t p d c)])), .val (.int c), .val (.int (c % w)), .val (.int (c / w)), .val (.int (cellS w h t p d c)), v12, .emp, .emp]) → ∃ env', (Rs.lf (patSet (.nm 8) (.int c) [.val (wd w h t), .val (pic p), .val (encD d), .val (.int w), .val (.int h), .val (.int t), .val (.str x), .own (.list (zs.map fun c => .int (cellS w h t p d c))), s8, s9, s10, s11, s12, .emp, .emp]) fun env' => evSs 400 (match B__law_done with | .cons _ (.cons _ (.cons _ (.cons (.for _ _ ss) _))) => ss | _ => .nil) env') = .nx env' ∧ InvL w h t p d x (zs ++ [c]) env' := by
      rintro ⟨v12, e⟩
      exact ⟨_, e, _, _, _, _, _, by rw [List.map_append]; rfl⟩
    apply hgo
    clear hgo
    generalize (zs.map fun c => PyData.int (cellS w h t p d c)) = L at happ ⊢
    have en : ∀ y, idxD (encD d) (.int 0) = some (.str y) → x = y := fun y hy => by rw [hx0] at hy; cases hy; rfl
    cases d with
    | turn =>
      have := en _ (by simp [encD]; rfl)
      subst this
      refine ⟨s12, ?_⟩
      simp [B__law_done, d1, d3, hc0, happ, cellS]
    | flip a =>
      cases a
      all_goals
        have := en _ (by simp [encD]; rfl)
        subst this
        refine ⟨s12, ?_⟩
        simp only [srcS] at hsrc
        simp [B__law_done, d1, d3, m1, encD, hc0, happ, cellS, srcS, hsrc]
    | shift a b =>
      have := en _ (by simp [encD]; rfl)
      subst this
      refine ⟨s12, ?_⟩
      simp only [srcS] at hsrc
      simp [B__law_done, d1, d2, d3, m1, encD, hc0, happ, cellS, srcS, hsrc, -Int.emod_sub_emod]
    | ext g ws =>
      obtain ⟨hn, hb, _⟩ := hd
      have hwn : winS w h p ws c ≠ [] := by simpa [winS] using hn
      have ix1 : idxD (encD (.ext g ws)) (.int 1) = some (.tuple (ws.map stp)) := by cases g <;> simp [encD]
      have hlc := fun (y : Str) (v11 : PI.Slot) => ev_map (env := [.val (wd w h t), .val (pic p), .val (encD (.ext g ws)), .val (.int w), .val (.int h), .val (.int t), .val (.str y), .own (.list L), .val (.int c), .val (.int (c % w)), .val (.int (c / w)), v11, s12, .emp, .emp]) (e := .idx (.bor 1) (.bin .add (.bin .mul (.bin .mod (.bin .add (.var 10) (.var 14)) (.var 4)) (.var 3)) (.bin .mod (.bin .add (.var 9) (.var 13)) (.var 3)))) (p := .tp [13, 14]) (it := .val (.idx (.bor 2) (.con (.int 1)))) (own := [13, 14]) stp (fun s => .int (atP p ((c / w + s.2) % h * w + (c % w + s.1) % w))) ws (by rfl) (by simp [ix1]) (fun s hs => by
        refine ⟨_, rfl, ?_⟩
        have hbx := box (h := h) W.w1 W.w3 (x := (c % w + s.1) % w) (y := (c / w + s.2) % h) ⟨Int.emod_nonneg _ (by have := W.w1; omega), Int.emod_lt_of_pos _ (by have := W.w1; omega)⟩ ⟨Int.emod_nonneg _ (by have := W.h1; omega), Int.emod_lt_of_pos _ (by have := W.h1; omega)⟩
        simp [stp, d1, d2, m1, hx _ hbx, -Int.emod_add_emod])
      rw [show (ws.map fun s => PyData.int (atP p ((c / w + s.2) % h * w + (c % w + s.1) % w))) = (winS w h p ws c).map PyData.int from by unfold winS; rw [List.map_map]; rfl] at hlc
      cases g
      all_goals
        have := en _ (by simp [encD]; rfl)
        subst this
        refine ⟨.val (.list ((sortI (winS w h p ws c)).map .int)), ?_⟩
        have h0 : idxD (.list ((sortI (winS w h p ws c)).map .int)) (.int 0) = some (.int (mnI (winS w h p ws c))) := ix_list (i := 0) ((sortI (winS w h p ws c)).map PyData.int) (.int (mnI (winS w h p ws c))) (by rw [List.getElem?_map, sort_head hwn]; rfl)
        have h9 := ix_last (xs := (sortI (winS w h p ws c)).map PyData.int) (d := .int (mxI (winS w h p ws c))) (by rw [List.getLast?_map, sort_last hwn]; rfl)
        simp [B__law_done, d1, d3, hc0, happ, cellS, hlc, sort_of, h0, h9]
    | cells l cs =>
      cases l
      all_goals
        have := en _ (by simp [encD]; rfl)
        subst this
        refine ⟨s12, ?_⟩
        by_cases hm : c ∈ cs <;> simp [B__law_done, d1, d3, encD, hc0, happ, cellS, in_T, hm]
end M
end
section
/-! Plain mathematics: what is good. -/
namespace M
open PySem PI PG
variable {w h t : Int}
theorem run_is_world (W : WOk w h t) : F_is_world [wd w h t] = .ok (.bool true) := by
  refine fn_run rfl ?_
  have hwh := wh_le W
  have hr : rangeD (.int (w * h)) = some ((cellsL (w * h)).map .int) := rng_cells (by omega) (by omega)
  have m2 : binD .mul (.int w) (.int h) = some (.int (w * h)) := bin_mul _ _ (.inl (smallI_of (by have := W.w1; omega) (by have := W.w3; omega)))
  have m3 : ∀ a, binD .mul (.int a) (.int (t + 1)) = some (.int (a * (t + 1))) := fun a => bin_mul _ _ (.inr (smallI_of (by have := W.t1; omega) (by have := W.t3; omega)))
  have h1 := run_is_within (x := w) (lo := 1) (hi := 3)
  have h2 := run_is_within (x := h) (lo := 1) (hi := 2)
  have h3 := run_is_within (x := t) (lo := 1) (hi := 3)
  rw [decide_eq_true ⟨W.w1, W.w3⟩] at h1
  rw [decide_eq_true ⟨W.h1, W.h2⟩] at h2
  rw [decide_eq_true ⟨W.t1, W.t3⟩] at h3
  simp [B_is_world, startE, h1, h2, h3, es_for, m2, hr]
  have loop := for_inv (f := fun x env => Rs.lf (patSet (.nm 2) x env) fun env' => evSs 400 (.cons (.set 1 (.bin .mul (.var 1) (.bin .add (.idx (.bor 0) (.con (.int 2))) (.con (.int 1))))) .nil) env') (enc := PyData.int) (fun zs env => ∃ s2, env = [.val (wd w h t), .val (.int ((t + 1) ^ zs.length)), s2]) 6 (ys := cellsL (w * h)) (zs := []) (env := [.val (wd w h t), .val (.int 1), .emp]) (by have := cells_len (n := w * h) (by omega); simp; omega) ⟨.emp, by simp⟩ ?_
  · obtain ⟨env', e1, s2, rfl⟩ := loop
    simp at e1
    rw [e1]
    have : (cellsL (w * h)).length = (w * h).toNat := by have := cells_len (n := w * h) (by omega); omega
    have := W.few
    simp_all
  · rintro zs c env _ _ ⟨s2, rfl⟩
    refine ⟨[.val (wd w h t), .val (.int ((t + 1) ^ (zs ++ [c]).length)), .val (.int c)], ?_, ⟨_, rfl⟩⟩
    simp [m3, Int.pow_succ]
theorem run_look (W : WOk w h t) : F_look [wd w h t] = .ok .none := by
  refine fn_run rfl ?_
  have := run_is_world W
  simp [B_look, startE, this]
theorem run_is_step (s : Int × Int) : F_is_step [wd w h t, stp s] = .ok (.bool (decide (stOk w h s))) := by
  refine fn_run rfl ?_
  unfold stOk
  by_cases h1 : 0 ≤ s.1 ∧ s.1 ≤ w - 1 <;> by_cases h2 : 0 ≤ s.2 ∧ s.2 ≤ h - 1 <;> simp [B_is_step, startE, stp, run_is_within, h1, h2]
theorem cut_tail (xs : List D) : cutL xs (some 1) none = xs.tail := by
  unfold cutL
  have h1 : HT.sIx xs.length 0 (some 1) = min 1 xs.length := HT.sIx_nat _ _ 1
  have h2 : HT.sIx xs.length xs.length none = xs.length := rfl
  rw [h1, h2]
  cases xs with
  | nil => rfl
  | cons x r => simp
theorem zipL_map {α : Type} (e : α → D) : ∀ xs ys : List α, zipL (xs.map e) (ys.map e) = (xs.zip ys).map fun z => .tuple [e z.1, e z.2]
  | x :: xs, y :: ys => by rw [List.map_cons, List.map_cons, zipL, zipL_map e xs ys]; rfl
  | [], _ => by simp [zipL]
  | _ :: _, [] => by simp [zipL]
theorem zip_pw {α : Type} {r : α → α → Prop} : ∀ {xs : List α}, xs.Pairwise r → ∀ z ∈ xs.zip xs.tail, r z.1 z.2
  | [], _, _, h => by cases h
  | [_], _, _, h => by cases h
  | x :: y :: xs, p, z, h => by
    rw [List.tail_cons, List.zip_cons_cons] at h
    rcases List.mem_cons.mp h with e | e
    · rw [e]; exact (List.pairwise_cons.mp p).1 y List.mem_cons_self
    · exact zip_pw (List.pairwise_cons.mp p).2 z e
theorem run_rises {α : Type} (e : α → D) (r : α → α → Prop) (hr : ∀ x y, r x y → cmpD .ge (e x) (e y) = some false) {xs : List α} (hp : xs.Pairwise r) : F_rises [.tuple (xs.map e)] = .ok (.bool true) := by
  refine fn_run rfl ?_
  simp [B_rises, startE]
  rw [ev_filter (fun z : α × α => .tuple [e z.1, e z.2]) (fun _ => .int 1) (fun _ => false) (xs.zip xs.tail) (by rfl) (by simp [sliceD, cut_tail, ← List.map_tail, zipL_map])]
  · simp
  · intro z hz
    refine ⟨_, .bool false, rfl, ?_, rfl, fun q => Bool.noConfusion q⟩
    simp [hr _ _ (zip_pw hp z hz)]
theorem run_rises_I {cs : List Int} (hp : cs.Pairwise (· < ·)) : F_rises [.tuple (cs.map .int)] = .ok (.bool true) :=
  run_rises .int (· < ·) (fun x y h => by simp; omega) hp
theorem ge_stp {x y : Int × Int} (h : stLt x y) : cmpD .ge (stp x) (stp y) = some false := by
  show gd (W.alike (stp x) (stp y) && (!isNone (stp x) && (SeqAt.shaped (stp x) && SeqAt.shaped (stp y)))) (!W.dataLt (stp x) (stp y)) = _
  have : W.dataLt (stp x) (stp y) = true := by
    show W.dataLt (.tuple [.int x.1, .int x.2]) (.tuple [.int y.1, .int y.2]) = true
    rw [W.dataLt_ii]
    exact decide_eq_true h
  rw [this]
  rfl
theorem run_rises_S {ws : List (Int × Int)} (hp : ws.Pairwise stLt) : F_rises [.tuple (ws.map stp)] = .ok (.bool true) := run_rises stp stLt (fun x y h => ge_stp h) hp
theorem ev_none {α : Type} {env : En} {e c : E} {p : Pat} {it : It} {own : List Nat} (enc : α → D) (ys : List α) (ho : (own.all fun i => noOwn (PI.slotAt env i)) = true) (hi : evIt it env = .ok (ys.map enc))
    (he : ∀ y ∈ ys, ∃ env' d, patSet p (enc y) (wipeE env own) = some env' ∧ evE c env' = .ok d ∧ truthD d = some false) : evE (.lc e p it c own) env = .ok (.list []) := by
  have := ev_filter (e := e) enc enc (fun _ => false) ys ho hi fun y hy => by
    obtain ⟨env', d, h1, h2, h3⟩ := he y hy
    exact ⟨env', d, h1, h2, h3, fun q => Bool.noConfusion q⟩
  rw [this]
  simp
theorem run_is_window {g : Bool} {ws : List (Int × Int)} (hd : DdOk w h (.ext g ws)) : F_is_window [wd w h t, .tuple (ws.map stp)] = .ok (.bool true) := by
  refine fn_run rfl ?_
  obtain ⟨hn, hb, hp⟩ := hd
  have he : ws.isEmpty = false := by cases ws with | nil => exact absurd rfl hn | cons _ _ => rfl
  simp [B_is_window, startE, he]
  rw [ev_none stp ws (by rfl) (by simp)]
  · simp [run_rises_S hp]
  · intro s hs
    refine ⟨_, .bool false, rfl, ?_, rfl⟩
    · have := run_is_step (w := w) (h := h) (t := t) s
      rw [decide_eq_true (hb s hs)] at this
      simp [this]
theorem run_are_cells (W : WOk w h t) {l : Bool} {cs : List Int} (hd : DdOk w h (.cells l cs)) : F_are_cells [wd w h t, .tuple (cs.map .int)] = .ok (.bool true) := by
  refine fn_run rfl ?_
  obtain ⟨hb, hp⟩ := hd
  have m2 : binD .mul (.int w) (.int h) = some (.int (w * h)) := bin_mul _ _ (.inl (smallI_of (by have := W.w1; omega) (by have := W.w3; omega)))
  simp [B_are_cells, startE]
  rw [ev_none .int cs (by rfl) (by simp)]
  · simp [run_rises_I hp]
  · intro c hc
    refine ⟨_, .bool false, rfl, ?_, rfl⟩
    · have := run_is_within (x := c) (lo := 0) (hi := w * h - 1)
      rw [decide_eq_true (hb c hc)] at this
      simp [m2, this]
end M
end
section
/-! Plain mathematics: after. -/
namespace M
open PySem PI PG
variable {w h t : Int}
theorem run_is_deed (W : WOk w h t) {d : Dd} (hd : DdOk w h d) : F_is_deed [wd w h t, encD d] = .ok (.bool true) := by
  refine fn_run rfl ?_
  cases d with
  | turn => simp [B_is_deed, startE, encD]
  | flip a => cases a <;> simp [B_is_deed, startE, encD]
  | shift a b =>
    have := run_is_step (w := w) (h := h) (t := t) (a, b)
    rw [decide_eq_true (show stOk w h (a, b) from hd)] at this
    simp only [stp] at this
    simp [B_is_deed, startE, encD, sliceD, cut_tail, this]
  | ext g ws =>
    have := run_is_window (t := t) hd
    cases g <;> simp [B_is_deed, startE, encD, this]
  | cells l cs =>
    have := run_are_cells W hd
    cases l <;> simp [B_is_deed, startE, encD, this]
abbrev rowE (ds : List Dd) : D := .tuple (ds.map encD)
theorem run_look_row (W : WOk w h t) {ds : List Dd} (hl : ds.length ≤ 6) (hd : ∀ d ∈ ds, DdOk w h d) : F_look_row [wd w h t, rowE ds] = .ok .none := by
  refine fn_run rfl ?_
  have h6 : ¬ (6 : Int) < (ds.length : Int) := by omega
  simp [B_look_row, startE, run_look W, h6]
  rw [ev_none encD ds (by rfl) (by simp)]
  · simp
  · intro d hdm
    refine ⟨_, .bool false, rfl, ?_, rfl⟩
    simp [run_is_deed W (hd d hdm)]
structure POk (w h t : Int) (p : List Int) : Prop where
  len : (p.length : Int) = w * h
  all : ∀ x ∈ p, 0 ≤ x ∧ x ≤ t
theorem run_is_picture (W : WOk w h t) {p : List Int} (P : POk w h t p) : F_is_picture [wd w h t, pic p] = .ok (.bool true) := by
  refine fn_run rfl ?_
  have m2 : binD .mul (.int w) (.int h) = some (.int (w * h)) := bin_mul _ _ (.inl (smallI_of (by have := W.w1; omega) (by have := W.w3; omega)))
  simp [B_is_picture, startE, m2, P.len]
  rw [ev_none .int p (by rfl) (by simp)]
  · simp
  · intro c hc
    refine ⟨_, .bool false, rfl, ?_, rfl⟩
    have := run_is_within (x := c) (lo := 0) (hi := t)
    rw [decide_eq_true (P.all c hc)] at this
    simp [this]
theorem run_look_picture (W : WOk w h t) {p : List Int} (P : POk w h t p) : F_look_picture [wd w h t, pic p] = .ok .none := by
  refine fn_run rfl ?_
  simp [B_look_picture, startE, run_is_picture W P]
theorem at_in {p : List Int} (P : POk w h t p) {z : Int} (h0 : 0 ≤ z) (h1 : z < w * h) : 0 ≤ atP p z ∧ atP p z ≤ t := by
  apply P.all
  unfold atP
  have := P.len
  rw [List.getD_eq_getElem?_getD, List.getElem?_eq_getElem (show z.toNat < p.length by omega)]
  exact List.getElem_mem _
theorem win_in (W : WOk w h t) {p : List Int} (P : POk w h t p) {ws : List (Int × Int)} {c x : Int} (hx : x ∈ winS w h p ws c) : 0 ≤ x ∧ x ≤ t := by
  unfold winS at hx
  obtain ⟨s, _, rfl⟩ := List.mem_map.mp hx
  have hbx := box (h := h) W.w1 W.w3 (x := (c % w + s.1) % w) (y := (c / w + s.2) % h) ⟨Int.emod_nonneg _ (by have := W.w1; omega), Int.emod_lt_of_pos _ (by have := W.w1; omega)⟩ ⟨Int.emod_nonneg _ (by have := W.h1; omega), Int.emod_lt_of_pos _ (by have := W.h1; omega)⟩
  exact at_in P hbx.1 hbx.2
theorem done_ok (W : WOk w h t) {p : List Int} (P : POk w h t p) {d : Dd} (hd : DdOk w h d) : POk w h t (doneS w h t p d) := by
  refine ⟨done_len W p d, fun x hx => ?_⟩
  unfold doneS at hx
  obtain ⟨c, hc, rfl⟩ := List.mem_map.mp hx
  have hcc := mem_cells.mp hc
  have h1 := at_in P hcc.1 hcc.2
  have ht := W.t1
  have hs := src_in W hd hcc
  have h2 := at_in P hs.1 hs.2
  cases d with
  | turn => simp only [cellS]; omega
  | flip a => exact h2
  | shift a b => exact h2
  | ext g ws =>
    have hn : winS w h p ws c ≠ [] := by simpa [winS] using hd.1
    cases g
    · exact win_in W P (mnI_mem hn)
    · exact win_in W P (mxI_mem hn)
  | cells l cs => cases l <;> · simp only [cellS]; split <;> omega
def afterS (w h t : Int) (p : List Int) (ds : List Dd) : List Int := ds.foldl (doneS w h t) p
theorem after_ok (W : WOk w h t) : ∀ {ds : List Dd} {p : List Int}, POk w h t p → (∀ d ∈ ds, DdOk w h d) → POk w h t (afterS w h t p ds)
  | [], _, P, _ => P
  | d :: ds, p, P, hd => after_ok W (ds := ds) (done_ok W P (hd d List.mem_cons_self)) fun e he => hd e (List.mem_cons_of_mem _ he)
theorem run_all_done (W : WOk w h t) {p : List Int} (P : POk w h t p) {ds : List Dd} (hd : ∀ d ∈ ds, DdOk w h d) : F_all_done [wd w h t, pic p, rowE ds] = .ok (pic (afterS w h t p ds)) := by
  refine fn_run rfl ?_
  simp [B_all_done, startE, es_for]
  have loop : ∀ (es : List Dd) (q : List Int) (s : PI.Slot), POk w h t q → (∀ d ∈ es, DdOk w h d) → ∃ s', forGo (fun x env => Rs.lf (patSet (.nm 3) x env) fun env' => evSs 400 (.cons (.set 1 (.call "done" F_done (.cons (.var 0) (.cons (.var 1) (.cons (.var 3) .nil))))) .nil) env') (es.map encD) [.val (wd w h t), .val (pic q), .val (rowE ds), s] = .nx [.val (wd w h t), .val (pic (afterS w h t q es)), .val (rowE ds), s'] := by
    intro es
    induction es with
    | nil => exact fun q s _ _ => ⟨s, rfl⟩
    | cons d es ih =>
      intro q s Q hq
      obtain ⟨s', e⟩ := ih (doneS w h t q d) (.val (encD d)) (done_ok W Q (hq d List.mem_cons_self)) fun e he => hq e (List.mem_cons_of_mem _ he)
      refine ⟨s', ?_⟩
      rw [List.map_cons, forGo]
      have := run_done W Q.len (hq d List.mem_cons_self)
      simp [this] at e ⊢
      exact e
  obtain ⟨s', e⟩ := loop ds p .emp P hd
  simp at e
  rw [e]
  simp
theorem run_law_after (W : WOk w h t) {p : List Int} (P : POk w h t p) {ds : List Dd} (hd : ∀ d ∈ ds, DdOk w h d) : F__law_after [wd w h t, pic p, rowE ds] = .ok (pic (afterS w h t p ds)) := by
  refine fn_run rfl ?_
  simp [B__law_after, startE, es_for]
  have loop : ∀ (es : List Dd) (q : List Int) (s : PI.Slot), POk w h t q → (∀ d ∈ es, DdOk w h d) → ∃ s', forGo (fun x env => Rs.lf (patSet (.nm 4) x env) fun env' => evSs 400 (.cons (.set 3 (.call "_law_done" F__law_done (.cons (.var 0) (.cons (.var 3) (.cons (.var 4) .nil))))) .nil) env') (es.map encD) [.val (wd w h t), .val (pic p), .val (rowE ds), .val (pic q), s] = .nx [.val (wd w h t), .val (pic p), .val (rowE ds), .val (pic (afterS w h t q es)), s'] := by
    intro es
    induction es with
    | nil => exact fun q s _ _ => ⟨s, rfl⟩
    | cons d es ih =>
      intro q s Q hq
      obtain ⟨s', e⟩ := ih (doneS w h t q d) (.val (encD d)) (done_ok W Q (hq d List.mem_cons_self)) fun e he => hq e (List.mem_cons_of_mem _ he)
      refine ⟨s', ?_⟩
      rw [List.map_cons, forGo]
      have := run_ldone W Q.len (hq d List.mem_cons_self)
      simp [this] at e ⊢
      exact e
  obtain ⟨s', e⟩ := loop ds p .emp P hd
  simp at e
  rw [e]
  simp
theorem run_after (W : WOk w h t) {p : List Int} (P : POk w h t p) {ds : List Dd} (hl : ds.length ≤ 6) (hd : ∀ d ∈ ds, DdOk w h d) : F_after [wd w h t, rowE ds, pic p] = .ok (pic (afterS w h t p ds)) := by
  refine fn_run rfl ?_
  simp [B_after, startE, run_look_row W hl hd, run_look_picture W P, run_all_done W P hd]
end M
end
section
/-! Plain mathematics: what a script means. -/
namespace M
open PySem PI PG
variable {w h t : Int}
abbrev scr (ns : List Int) : D := .dict [(.bool true, .list (ns.map .int))]
def cellV (ns : List Int) (k : Nat) : Int := ns.getD k 0
theorem run_cellN (ns : List Int) (k : Nat) : F__law_cell [scr ns, .int k] = .ok (.int (cellV ns k)) := by
  refine fn_run rfl ?_
  have hl : lenD (scr ns) = some (.int (ns.length : Int)) := by show some (PyData.int ((ns.map PyData.int).length : Int)) = _; rw [List.length_map]
  by_cases hk : k < ns.length
  · have h2 : (k : Int) < (ns.length : Int) := by omega
    have hi : idxD (scr ns) (.int k) = some (.int (cellV ns k)) := by
      show idxD (.list (ns.map .int)) (.int k) = _
      refine ix_list _ _ ?_
      rw [List.getElem?_map, List.getElem?_eq_getElem hk]
      unfold cellV
      rw [List.getD_eq_getElem?_getD, List.getElem?_eq_getElem hk]
      rfl
    simp [B__law_cell, startE, hl, h2, hi]
  · have h2 : ¬ (k : Int) < (ns.length : Int) := by omega
    have hc : cellV ns k = 0 := by
      unfold cellV
      rw [List.getD_eq_getElem?_getD, List.getElem?_eq_none (by omega)]
      rfl
    simp [B__law_cell, startE, hl, h2, hc]
def cellI (ns : List Int) (k : Int) : Int := cellV ns k.toNat
theorem run_cell_ (ns : List Int) {k : Int} (h : 0 ≤ k) : F__law_cell [scr ns, .int k] = .ok (.int (cellI ns k)) := by
  have := run_cellN ns k.toNat
  rw [show ((k.toNat : Nat) : Int) = k by omega] at this
  exact this
def seedV (a k : Int) : Int := ((a * 1103515245 + 7919 * k + 12345) % 2147483647) ^ 5 % 2147483647
theorem run_seed (a k : Int) : F__law_seed [.int a, .int k] = .ok (.int (seedV a k)) := by
  refine fn_run rfl ?_
  have m1 := bin_mul a 1103515245 (.inr (smallI_of (by decide) (by decide)))
  have m2 := bin_mul 7919 k (.inl (smallI_of (by decide) (by decide)))
  have d1 := fun a => bin_mod a 2147483647 (by decide)
  have p : ∀ z : Int, binD .pow (.int (z % 2147483647)) (.int 5) = some (.int ((z % 2147483647) ^ 5)) := fun z => by
    have h1 := Int.emod_nonneg z (b := 2147483647) (by decide)
    have h2 := Int.emod_lt_of_pos z (b := 2147483647) (by decide)
    show gd (decide ((0 : Int) ≤ 5 ∧ (5 : Int) ≤ 1000000 ∧ (z % 2147483647).natAbs < 2 ^ 64)) _ = _
    rw [decide_eq_true ⟨by decide, by decide, by omega⟩]
    rfl
  unfold seedV
  simp only [B__law_seed, startE]
  simp [m1, m2, d1, p]
def pickV (z m : Int) : Int := z / 97 % m
theorem run_pick (z : Int) {m : Int} (h : 0 < m) : F__law_pick [.int z, .int m] = .ok (.int (pickV z m)) := by
  refine fn_run rfl ?_
  have d1 := bin_mod (z / 97) m h
  have d2 := bin_fdiv z 97 (by decide) (by decide)
  unfold pickV
  simp [B__law_pick, startE, d1, d2]
theorem pick_in (z : Int) {m : Int} (h : 0 < m) : 0 ≤ pickV z m ∧ pickV z m < m := ⟨Int.emod_nonneg _ (by omega), Int.emod_lt_of_pos _ h⟩
theorem wok_of {w h t : Int} (e : decide (1 ≤ w ∧ w ≤ 3 ∧ 1 ≤ h ∧ h ≤ 2 ∧ 1 ≤ t ∧ t ≤ 3 ∧ (t + 1) ^ (w * h).toNat ≤ 256) = true) : WOk w h t := by
  obtain ⟨a, b, c, d, e, f, g⟩ := of_decide_eq_true e
  exact ⟨a, b, c, d, e, f, g⟩
theorem run_world (z : Int) : ∃ w h t, WOk w h t ∧ F__law_world [.int z] = .ok (wd w h t) := by
  have key : ∀ i : Nat, i < 16 → ∃ w h t, WOk w h t ∧ idxD (.list [wd 1 1 3, wd 2 1 3, wd 3 1 3, wd 1 2 3, wd 2 2 3, wd 2 2 1, wd 3 2 1, wd 3 1 2, wd 2 1 1, wd 3 1 1, wd 1 2 1, wd 1 2 2, wd 2 1 2, wd 1 1 2, wd 2 2 2, wd 1 1 1]) (.int (i : Int)) = some (wd w h t) := by
    intro i hi
    match i, hi with
    | 0, _ => exact ⟨_, _, _, wok_of (by decide), rfl⟩
    | 1, _ => exact ⟨_, _, _, wok_of (by decide), rfl⟩
    | 2, _ => exact ⟨_, _, _, wok_of (by decide), rfl⟩
    | 3, _ => exact ⟨_, _, _, wok_of (by decide), rfl⟩
    | 4, _ => exact ⟨_, _, _, wok_of (by decide), rfl⟩
    | 5, _ => exact ⟨_, _, _, wok_of (by decide), rfl⟩
    | 6, _ => exact ⟨_, _, _, wok_of (by decide), rfl⟩
    | 7, _ => exact ⟨_, _, _, wok_of (by decide), rfl⟩
    | 8, _ => exact ⟨_, _, _, wok_of (by decide), rfl⟩
    | 9, _ => exact ⟨_, _, _, wok_of (by decide), rfl⟩
    | 10, _ => exact ⟨_, _, _, wok_of (by decide), rfl⟩
    | 11, _ => exact ⟨_, _, _, wok_of (by decide), rfl⟩
    | 12, _ => exact ⟨_, _, _, wok_of (by decide), rfl⟩
    | 13, _ => exact ⟨_, _, _, wok_of (by decide), rfl⟩
    | 14, _ => exact ⟨_, _, _, wok_of (by decide), rfl⟩
    | 15, _ => exact ⟨_, _, _, wok_of (by decide), rfl⟩
    | n + 16, h => exact absurd h (by omega)
  have hp := pick_in (seedV z 1) (m := 16) (by decide)
  obtain ⟨w, h, t, W, e⟩ := key (pickV (seedV z 1) 16).toNat (by omega)
  rw [show (((pickV (seedV z 1) 16).toNat : Nat) : Int) = pickV (seedV z 1) 16 by omega] at e
  refine ⟨w, h, t, W, fn_run rfl ?_⟩
  have b : ∀ xs ys : List D, binD .add (.list xs) (.list ys) = gd (decide (xs.length + ys.length ≤ lim)) (.list (xs ++ ys)) := fun _ _ => rfl
  simp only [wd] at e
  simp [B__law_world, startE, run_seed, run_pick, b, lim, e]
end M
end
section
/-! Plain mathematics: windows and deeds of a script. -/
namespace M
open PySem PI PG
variable {w h t : Int}
theorem flat_len {α β : Type} {f : α → List β} {n : Nat} : ∀ {zs : List α}, (∀ x ∈ zs, (f x).length = n) → (zs.flatMap f).length = zs.length * n
  | [], _ => by simp
  | z :: zs, h => by
    rw [List.flatMap_cons, List.length_append, h z List.mem_cons_self, flat_len fun x hx => h x (List.mem_cons_of_mem _ hx), List.length_cons, Nat.succ_mul, Nat.add_comm]
def colS (h a : Int) : List (Int × Int) := (cellsL h).map fun b => (a, b)
def stepsL (w h : Int) : List (Int × Int) := (cellsL w).flatMap (colS h)
theorem steps_all (W : WOk w h t) : (stepsL w h).Pairwise stLt ∧ (∀ s ∈ stepsL w h, stOk w h s) ∧ 0 < (stepsL w h).length ∧ (stepsL w h).length ≤ 6 := by
  have hw : w = 1 ∨ w = 2 ∨ w = 3 := by have := W.w1; have := W.w3; omega
  have hh : h = 1 ∨ h = 2 := by have := W.h1; have := W.h2; omega
  rcases hw with rfl | rfl | rfl <;> rcases hh with rfl | rfl <;> decide
theorem canLay_stp : ∀ ws : List (Int × Int), PyData.canLayAll0 (ws.map stp) = true ∧ PyData.depthAll (ws.map stp) ≤ 2
  | [] => by simp [PyData.canLayAll0, PyData.depthAll]
  | s :: r => by
    obtain ⟨h1, h2⟩ := canLay_stp r
    refine ⟨by simp [PyData.canLayAll0, PyData.canLay0, stp, h1], ?_⟩
    simp only [List.map_cons, PyData.depthAll, PyData.depth, stp]
    omega
theorem shaped_SL (ws : List (Int × Int)) : SeqAt.shaped (.list (ws.map stp)) = true := by
  obtain ⟨h1, h2⟩ := canLay_stp ws
  show (PyData.canLay0 (.list (ws.map stp)) && decide (PyData.depth (.list (ws.map stp)) ≤ 64)) = true
  rw [Bool.and_eq_true]
  exact ⟨by simp only [PyData.canLay0]; exact h1, decide_eq_true (by simp only [PyData.depth]; omega)⟩
theorem ne_SL (ws : List (Int × Int)) : cmpD .ne (.list (ws.map stp)) (.list []) = some (!ws.isEmpty) := by
  show (gd (SeqAt.shaped _ && SeqAt.shaped (.list [])) (PyData.eqv _ _)).map _ = _
  rw [shaped_SL]
  cases ws <;> rfl
theorem enum_stp : ∀ (ws : List (Int × Int)) (k : Nat), enumL k (ws.map stp) = (ws.zipIdx k).map fun z => .tuple [.int (z.2 : Int), stp z.1]
  | [], _ => rfl
  | s :: r, k => by rw [List.map_cons, enumL, enum_stp r (k + 1), List.zipIdx_cons, List.map_cons]
theorem run_window (W : WOk w h t) (z : Int) : ∃ ws, (∀ g, DdOk w h (.ext g ws)) ∧ F__law_window [wd w h t, .int z] = .ok (.tuple (ws.map stp)) := by
  obtain ⟨sp, sa, s0, s6⟩ := steps_all W
  have hrw : rangeD (.int w) = some ((cellsL w).map .int) := rng_cells (by have := W.w1; omega) (by have := W.w3; omega)
  have hrh : rangeD (.int h) = some ((cellsL h).map .int) := rng_cells (by have := W.h1; omega) (by have := W.h2; omega)
  have hlw := cells_len (n := w) (by have := W.w1; omega)
  have hlh := cells_len (n := h) (by have := W.h1; omega)
  have hcol : ∀ a, (colS h a).length = (cellsL h).length := fun a => by unfold colS; rw [List.length_map]
  let ws1 := ((stepsL w h).zipIdx.filter fun y => decide (seedV z y.2 / 7 % 3 = 0)).map Prod.fst
  have hsub : ws1.Sublist (stepsL w h) := by
    have := (List.filter_sublist (p := fun y : (Int × Int) × Nat => decide (seedV z y.2 / 7 % 3 = 0)) (l := (stepsL w h).zipIdx)).map Prod.fst
    rw [List.zipIdx_map_fst] at this
    exact this
  have hk0 : 0 ≤ z / 5 % ((stepsL w h).length : Int) := Int.emod_nonneg _ (by omega)
  have hk1 : z / 5 % ((stepsL w h).length : Int) < (stepsL w h).length := Int.emod_lt_of_pos _ (by omega)
  obtain ⟨k, hk⟩ : ∃ k : Nat, z / 5 % ((stepsL w h).length : Int) = k := ⟨(z / 5 % ((stepsL w h).length : Int)).toNat, by omega⟩
  have hkl : k < (stepsL w h).length := by omega
  have hone : idxD (.list ((stepsL w h).map stp)) (.int (k : Int)) = some (stp ((stepsL w h)[k])) := ix_list _ _ (by rw [List.getElem?_map, List.getElem?_eq_getElem hkl]; rfl)
  have run : F__law_window [wd w h t, .int z] = .ok (.tuple ((if ws1 = [] then [(stepsL w h)[k]] else ws1).map stp)) := by
    refine fn_run rfl ?_
    simp [B__law_window, startE, es_for, hrw]
    have loop := for_inv (f := fun x env => Rs.lf (patSet (.nm 3) x env) fun env' => evSs 400 (.cons (.set 2 (.bin .add (.var 2) (.lc (.tup (.cons (.var 3) (.cons (.var 5) .nil))) (.nm 5) (.rng (.idx (.bor 0) (.con (.int 1)))) (.con (.bool true)) [5]))) .nil) env') (enc := PyData.int) (fun zs env => ∃ s3, env = [.val (wd w h t), .val (.int z), .val (.list ((zs.flatMap (colS h)).map stp)), s3, .emp, .emp, .emp, .emp]) 3 (ys := cellsL w) (zs := []) (env := [.val (wd w h t), .val (.int z), .val (.list []), .emp, .emp, .emp, .emp, .emp]) (by have := W.w3; simp; omega) ⟨.emp, by simp⟩ ?_
    · obtain ⟨env', e1, s3, rfl⟩ := loop
      simp at e1
      rw [e1]
      rw [show (cellsL w).flatMap (colS h) = stepsL w h from rfl]
      simp
      rw [ev_filter (fun y : (Int × Int) × Nat => .tuple [.int (y.2 : Int), stp y.1]) (fun y => stp y.1) (fun y => decide (seedV z y.2 / 7 % 3 = 0)) (stepsL w h).zipIdx (by rfl) (by simp [enum_stp])]
      · rw [show (((stepsL w h).zipIdx.filter fun y => decide (seedV z y.2 / 7 % 3 = 0)).map fun y => stp y.1) = ws1.map stp from by rw [List.map_map]; rfl]
        cases he : ws1.isEmpty with
        | true =>
          have m1 := bin_mod (z / 5) ((stepsL w h).length : Int) (by omega)
          have m2 := bin_fdiv z 5 (by decide) (by decide)
          rw [hk] at m1
          have he' := List.isEmpty_iff.mp he
          have hnn : cmpD .ne (.list []) (.list []) = some false := rfl
          simp [hnn, he', m1, m2, hone]
        | false =>
          have he' : ¬ ws1 = [] := fun e => by rw [e] at he; exact Bool.noConfusion he
          simp [ne_SL, he, he']
      · intro y hy
        refine ⟨_, .bool (decide (seedV z y.2 / 7 % 3 = 0)), rfl, ?_, rfl, fun _ => ?_⟩
        · simp [run_seed, bin_mod _ 3 (by decide : (0 : Int) < 3), bin_fdiv _ 7 (by decide : (0 : Int) < 7) (by decide)]
        · simp
    · rintro zs a env ha hz ⟨s3, rfl⟩
      refine ⟨[.val (wd w h t), .val (.int z), .val (.list (((zs ++ [a]).flatMap (colS h)).map stp)), .val (.int a), .emp, .emp, .emp, .emp], ?_, _, rfl⟩
      have hcat := bin_cat ((zs.flatMap (colS h)).map stp) ((colS h a).map stp) (by
        rw [List.length_map, List.length_map, hcol, flat_len fun x _ => hcol x]
        have := W.h2
        have : zs.length * (cellsL h).length ≤ 3 * 2 := Nat.mul_le_mul (by omega) (by omega)
        unfold lim
        omega)
      simp
      rw [ev_map .int (fun b => stp (a, b)) (cellsL h) (by rfl) (by simp [hrh])]
      · rw [show ((cellsL h).map fun b => stp (a, b)) = (colS h a).map stp from by unfold colS; rw [List.map_map]; rfl]
        simp [hcat]
      · intro b hb
        refine ⟨_, rfl, ?_⟩
        simp [stp]
  refine ⟨_, fun g => ?_, run⟩
  by_cases he : ws1 = []
  · rw [if_pos he]
    exact ⟨by simp, fun s hs => by rw [List.mem_singleton.mp hs]; exact sa _ (List.getElem_mem _), List.pairwise_singleton _ _⟩
  · rw [if_neg he]
    exact ⟨he, fun s hs => sa s (hsub.subset hs), sp.sublist hsub⟩
end M
end
section
/-! Plain mathematics: deeds of a script. -/
namespace M
open PySem PI PG
variable {w h t : Int}
theorem cut_take (xs : List D) (k : Nat) : cutL xs none (some (k : Int)) = xs.take k := by
  unfold cutL
  rw [HT.sIx_nat, HT.sIx_none, List.drop_zero, Nat.sub_zero]
  by_cases hk : k ≤ xs.length
  · rw [Nat.min_eq_left hk]
  · rw [Nat.min_eq_right (by omega), List.take_length, List.take_of_length_le (by omega)]
theorem cells_pw (n : Int) : (cellsL n).Pairwise (· < ·) := by
  unfold cellsL
  exact List.pairwise_map.mpr (List.pairwise_lt_range.imp fun h => by omega)
theorem run_deed (W : WOk w h t) (z : Int) : ∃ d, DdOk w h d ∧ F__law_deed [wd w h t, .int z] = .ok (encD d) := by
  have hp := pick_in z (m := 9) (by decide)
  have rp := run_pick z (m := 9) (by decide)
  generalize pickV z 9 = n at hp rp
  have b0 : z / 7 % 2 = 0 ∨ z / 7 % 2 = 1 := by omega
  have c0 : z / 7 % 3 = 0 ∨ z / 7 % 3 = 1 ∨ z / 7 % 3 = 2 := by omega
  have f7 := bin_fdiv z 7 (by decide) (by decide)
  have f11 := bin_fdiv z 11 (by decide) (by decide)
  have mm2 := bin_mod (z / 7) 2 (by decide)
  have mm3 := bin_mod (z / 7) 3 (by decide)
  have sw := bin_mod (z / 7) w (by have := W.w1; omega)
  have sh := bin_mod (z / 11) h (by have := W.h1; omega)
  have hn : n = 0 ∨ n = 1 ∨ (n = 2 ∨ n = 3) ∨ (n = 4 ∨ n = 5 ∨ n = 6) ∨ (n = 7 ∨ n = 8) := by omega
  have m2 : binD .mul (.int w) (.int h) = some (.int (w * h)) := bin_mul _ _ (.inl (smallI_of (by have := W.w1; omega) (by have := W.w3; omega)))
  have hwh := wh_le W
  have hr : rangeD (.int (w * h)) = some ((cellsL (w * h)).map .int) := rng_cells (by omega) (by omega)
  rcases hn with rfl | rfl | hn | hn | hn
  · exact ⟨.turn, trivial, fn_run rfl (by simp [B__law_deed, startE, rp]; rfl)⟩
  · rcases b0 with b0 | b0
    · rw [b0] at mm2
      exact ⟨.flip true, trivial, fn_run rfl (by simp [B__law_deed, startE, rp, f7, mm2]; rfl)⟩
    · rw [b0] at mm2
      exact ⟨.flip false, trivial, fn_run rfl (by simp [B__law_deed, startE, rp, f7, mm2]; rfl)⟩
  · refine ⟨.shift (z / 7 % w) (z / 11 % h), ?_, ?_⟩
    · have a1 := Int.emod_nonneg (z / 7) (b := w) (by have := W.w1; omega)
      have a2 := Int.emod_lt_of_pos (z / 7) (b := w) (by have := W.w1; omega)
      have a3 := Int.emod_nonneg (z / 11) (b := h) (by have := W.h1; omega)
      have a4 := Int.emod_lt_of_pos (z / 11) (b := h) (by have := W.h1; omega)
      exact ⟨⟨a1, by show z / 7 % w ≤ w - 1; omega⟩, ⟨a3, by show z / 11 % h ≤ h - 1; omega⟩⟩
    · rcases hn with rfl | rfl <;> exact fn_run rfl (by simp [B__law_deed, startE, rp, f7, f11, sw, sh]; rfl)
  · obtain ⟨ws, hws, rw_⟩ := run_window W (seedV z 3)
    rcases b0 with b0 | b0
    · rw [b0] at mm2
      refine ⟨.ext true ws, hws _, ?_⟩
      rcases hn with rfl | rfl | rfl <;> exact fn_run rfl (by simp [B__law_deed, startE, rp, f7, mm2, run_seed, rw_]; rfl)
    · rw [b0] at mm2
      refine ⟨.ext false ws, hws _, ?_⟩
      rcases hn with rfl | rfl | rfl <;> exact fn_run rfl (by simp [B__law_deed, startE, rp, f7, mm2, run_seed, rw_]; rfl)
  · have lc : ∀ s4 s2, evE (.lc (.var 4) (.nm 4) (.rng (.bin .mul (.idx (.bor 0) (.con (.int 0))) (.idx (.bor 0) (.con (.int 1))))) (.cmp .gt (.bin .mod (.bin .fdiv (.call "_law_seed" F__law_seed (.cons (.var 1) (.cons (.var 4) .nil))) (.con (.int 5))) (.con (.int 3))) (.con (.int 0))) [4]) [.val (wd w h t), .val (.int z), s2, s4, .emp] = .ok (.list (((cellsL (w * h)).filter fun c => decide (0 < seedV z c / 5 % 3)).map .int)) := fun s4 s2 => by
      rw [ev_filter .int .int (fun c => decide (0 < seedV z c / 5 % 3)) (cellsL (w * h)) (by rfl) (by simp [m2, hr])]
      intro c hc
      refine ⟨_, .bool (decide (0 < seedV z c / 5 % 3)), rfl, ?_, rfl, fun _ => by simp⟩
      simp [run_seed, bin_mod _ 3 (by decide : (0 : Int) < 3), bin_fdiv _ 5 (by decide : (0 : Int) < 5) (by decide)]
    have hsub : ((cellsL (w * h)).filter fun c => decide (0 < seedV z c / 5 % 3)).Sublist (cellsL (w * h)) := List.filter_sublist
    generalize ((cellsL (w * h)).filter fun c => decide (0 < seedV z c / 5 % 3)) = cs at lc hsub
    have ok : ∀ {l : Bool} {ds : List Int}, ds.Sublist cs → DdOk w h (.cells l ds) := fun {l ds} s => ⟨fun c hc => by have := mem_cells.mp ((s.trans hsub).subset hc); omega, (cells_pw _).sublist (s.trans hsub)⟩
    rcases hn with rfl | rfl
    · exact ⟨.cells false cs, ok (List.Sublist.refl _), fn_run rfl (by simp [B__law_deed, startE, rp, lc]; rfl)⟩
    · have ct : ∀ k : Nat, ∃ ds : List Int, ds.Sublist cs ∧ sliceD (.list (cs.map .int)) none (some (k : Int)) = some (.list (ds.map .int)) := fun k => ⟨cs.take k, List.take_sublist _ _, by show some (PyData.list (cutL _ _ _)) = _; rw [cut_take, List.map_take]⟩
      have ix2 : idxD (.list [.int 9, .int 1, .int 2]) (.int 2) = some (.int 2) := rfl
      rcases c0 with c0 | c0 | c0
      · obtain ⟨ds, hs, e⟩ := ct 9
        rw [c0] at mm3
        exact ⟨.cells true ds, ok hs, fn_run rfl (by simp at e; simp [B__law_deed, startE, rp, lc, f7, mm3, e]; rfl)⟩
      · obtain ⟨ds, hs, e⟩ := ct 1
        rw [c0] at mm3
        exact ⟨.cells true ds, ok hs, fn_run rfl (by simp at e; simp [B__law_deed, startE, rp, lc, f7, mm3, e]; rfl)⟩
      · obtain ⟨ds, hs, e⟩ := ct 2
        rw [c0] at mm3
        exact ⟨.cells true ds, ok hs, fn_run rfl (by simp at e; simp [B__law_deed, startE, rp, lc, f7, mm3, ix2, e]; rfl)⟩
end M
end
section
/-! Plain mathematics: all pictures. -/
namespace M
open PySem PI PG
variable {w h t : Int}
def rowX (t : Int) (r : List Int) : List (List Int) := (cellsL (t + 1)).map fun x => r ++ [x]
def everyS (t : Int) : Nat → List (List Int)
  | 0 => [[]]
  | k + 1 => (everyS t k).flatMap (rowX t)
theorem rowX_len (r : List Int) : (rowX t r).length = (cellsL (t + 1)).length := by unfold rowX; rw [List.length_map]
theorem every_len (ht : 1 ≤ t) (h3 : t ≤ 3) : ∀ k, (everyS t k).length = (t + 1).toNat ^ k
  | 0 => rfl
  | k + 1 => by
    have := cells_len (n := t + 1) (by omega)
    rw [everyS, flat_len fun x _ => rowX_len x, every_len ht h3 k, Nat.pow_succ]
    congr 1
    omega
theorem every_le (ht : 1 ≤ t) (h3 : t ≤ 3) {k : Nat} (hk : k ≤ 6) : (everyS t k).length ≤ 4096 := by
  rw [every_len ht h3]
  calc (t + 1).toNat ^ k ≤ 4 ^ k := Nat.pow_le_pow_left (by omega) _
    _ ≤ 4 ^ 6 := Nat.pow_le_pow_right (by decide) hk
    _ = 4096 := rfl
theorem every_mem (ht : 1 ≤ t) : ∀ {k : Nat} {r : List Int}, r ∈ everyS t k ↔ r.length = k ∧ ∀ x ∈ r, 0 ≤ x ∧ x ≤ t
  | 0, r => by
    rw [everyS, List.mem_singleton]
    constructor
    · rintro rfl; exact ⟨rfl, fun x hx => nomatch hx⟩
    · rintro ⟨h, _⟩; exact List.length_eq_zero_iff.mp h
  | k + 1, r => by
    rw [everyS, List.mem_flatMap]
    constructor
    · rintro ⟨q, hq, hr⟩
      obtain ⟨x, hx, rfl⟩ := List.mem_map.mp hr
      obtain ⟨h1, h2⟩ := (every_mem ht).mp hq
      have := mem_cells.mp hx
      refine ⟨by simp [h1], fun y hy => ?_⟩
      rcases List.mem_append.mp hy with h' | h'
      · exact h2 y h'
      · rw [List.mem_singleton.mp h']; omega
    · rintro ⟨h1, h2⟩
      have hn : r ≠ [] := fun e => by rw [e] at h1; cases h1
      refine ⟨r.dropLast, (every_mem ht).mpr ⟨by rw [List.length_dropLast, h1]; rfl, fun x hx => h2 x (List.dropLast_subset _ hx)⟩, List.mem_map.mpr ⟨r.getLast hn, mem_cells.mpr ?_, List.dropLast_concat_getLast hn⟩⟩
      have := h2 _ (List.getLast_mem hn)
      omega
def picsS (w h t : Int) : List (List Int) := everyS t (w * h).toNat
theorem pics_mem (W : WOk w h t) {p : List Int} : p ∈ picsS w h t ↔ POk w h t p := by
  unfold picsS
  have := wh_le W
  rw [every_mem W.t1]
  constructor
  · rintro ⟨h1, h2⟩; exact ⟨by omega, h2⟩
  · intro P; exact ⟨by have := P.len; omega, P.all⟩
end M
end
section
/-! Plain mathematics: the least picture that parts two rows. -/
namespace M
open PySem PI PG
variable {w h t : Int}
/-- the least picture that parts two rows -/
def partS (w h t : Int) (a b : List Dd) : Option (List Int) := (picsS w h t).find? fun p => !decide (afterS w h t p a = afterS w h t p b)
def optE : Option (List Int) → D
  | some p => pic p
  | none => .none
theorem eq_pic (a b : List Int) : cmpD .eq (pic a) (pic b) = some (decide (a = b)) := (show cmpD .eq (pic a) (pic b) = eqD (pic a) (pic b) from rfl).trans (eq_T a b)
def RowOk (w h : Int) (ds : List Dd) : Prop := ∀ d ∈ ds, DdOk w h d
end M
end
section
/-! Plain mathematics: slices, needless deeds. -/
namespace M
open PySem PI PG
variable {w h t : Int}
theorem cat_row {a b : List Dd} (h : a.length + b.length ≤ 1000) : binD .add (rowE a) (rowE b) = some (rowE (a ++ b)) := by
  have := bin_catT (a.map encD) (b.map encD) (by rw [List.length_map, List.length_map]; unfold lim; omega)
  rw [this, ← List.map_append]
def dropAt (ds : List Dd) (k : Int) : List Dd := ds.take k.toNat ++ ds.drop (k + 1).toNat
def needS (w h t : Int) (ds : List Dd) : List Int := (cellsL ds.length).filter fun k => (partS w h t ds (dropAt ds k)).isNone
end M
end
section
/-! Plain mathematics: shortest. -/
namespace M
open PySem PI PG
variable {w h t : Int}
def shortF (w h t : Int) : Nat → List Dd → List Dd
  | 0, ds => ds
  | n + 1, ds => match (needS w h t ds).getLast? with
    | none => ds
    | some k => shortF w h t n (dropAt ds k)
end M
end
section
/-! Plain mathematics: law k05, once. -/
namespace M
open PySem PI PG
variable {w h t : Int}
def mixV (a m n : Int) : Int := (a * 48271 % m) ^ 3 % m % n
theorem run_mix (a : Int) {m n : Int} (hm : 0 < m) (hm2 : m < 1000000000) (hn : 0 < n) : F__law_mix [.int a, .int m, .int n] = .ok (.int (mixV a m n)) := by
  refine fn_run rfl ?_
  have m1 := bin_mul a 48271 (.inr (smallI_of (by decide) (by decide)))
  have d1 := fun z => bin_mod z m hm
  have d2 := fun z => bin_mod z n hn
  have h1 := Int.emod_nonneg (a * 48271) (b := m) (by omega)
  have h2 := Int.emod_lt_of_pos (a * 48271) hm
  have p : binD .pow (.int (a * 48271 % m)) (.int 3) = some (.int ((a * 48271 % m) ^ 3)) := by
    show gd (decide ((0 : Int) ≤ 3 ∧ (3 : Int) ≤ 1000000 ∧ (a * 48271 % m).natAbs < 2 ^ 64)) _ = _
    rw [decide_eq_true ⟨by decide, by decide, by omega⟩]
    rfl
  unfold mixV
  simp only [B__law_mix, startE]
  simp [m1, d1, d2, p]
end M
/-! Plain mathematics: rows held against each other. -/
namespace M
open PySem PI PG
variable {w h t : Int}
theorem so_turn : PyData.strOk (Str.ofString "turn") = true := by decide +kernel
theorem so_flip : PyData.strOk (Str.ofString "flip") = true := by decide +kernel
theorem so_shift : PyData.strOk (Str.ofString "shift") = true := by decide +kernel
theorem so_greatest : PyData.strOk (Str.ofString "greatest") = true := by decide +kernel
theorem so_least : PyData.strOk (Str.ofString "least") = true := by decide +kernel
theorem so_mask : PyData.strOk (Str.ofString "mask") = true := by decide +kernel
theorem so_lift : PyData.strOk (Str.ofString "lift") = true := by decide +kernel
theorem so_across : PyData.strOk (Str.ofString "across") = true := by decide +kernel
theorem so_down : PyData.strOk (Str.ofString "down") = true := by decide +kernel
theorem lay_enc (d : Dd) : (encD d).canLay0 = true ∧ (encD d).depth ≤ 4 := by
  cases d with
  | turn => simp [encD, PyData.canLay0, PyData.canLayAll0, PyData.depth, PyData.depthAll, so_turn, so_flip, so_shift, so_greatest, so_least, so_mask, so_lift, so_across, so_down]
  | flip a => cases a <;> simp [encD, PyData.canLay0, PyData.canLayAll0, PyData.depth, PyData.depthAll, so_turn, so_flip, so_shift, so_greatest, so_least, so_mask, so_lift, so_across, so_down]
  | shift a b => simp [encD, PyData.canLay0, PyData.canLayAll0, PyData.depth, PyData.depthAll, so_turn, so_flip, so_shift, so_greatest, so_least, so_mask, so_lift, so_across, so_down]
  | ext g ws =>
    obtain ⟨h1, h2⟩ := canLay_stp ws
    cases g
    all_goals
      refine ⟨by simp [encD, PyData.canLay0, PyData.canLayAll0, h1, so_turn, so_flip, so_shift, so_greatest, so_least, so_mask, so_lift, so_across, so_down], ?_⟩
      simp only [encD, PyData.depth, PyData.depthAll]
      omega
  | cells l cs =>
    have h1 := W.canLayAll0_ints cs
    have h2 := W.depthAll_ints cs
    cases l
    all_goals
      refine ⟨by simp [encD, PyData.canLay0, PyData.canLayAll0, h1, so_turn, so_flip, so_shift, so_greatest, so_least, so_mask, so_lift, so_across, so_down], ?_⟩
      simp only [encD, PyData.depth, PyData.depthAll]
      omega
theorem lay_row : ∀ ds : List Dd, PyData.canLayAll0 (ds.map encD) = true ∧ PyData.depthAll (ds.map encD) ≤ 4
  | [] => by simp [PyData.canLayAll0, PyData.depthAll]
  | d :: r => by
    obtain ⟨h1, h2⟩ := lay_enc d
    obtain ⟨h3, h4⟩ := lay_row r
    refine ⟨by simp [PyData.canLayAll0, h1, h3], ?_⟩
    simp only [List.map_cons, PyData.depthAll]
    omega
theorem shaped_of {d : D} (h1 : d.canLay0 = true) (h2 : d.depth ≤ 64) : SeqAt.shaped d = true := by
  show (d.canLay0 && decide (d.depth ≤ 64)) = true
  rw [h1, decide_eq_true h2]; rfl
theorem shaped_enc (d : Dd) : SeqAt.shaped (encD d) = true := shaped_of (lay_enc d).1 (by have := (lay_enc d).2; omega)
theorem shaped_row (ds : List Dd) : SeqAt.shaped (rowE ds) = true := shaped_of (by simp only [PyData.canLay0]; exact (lay_row ds).1) (by have := (lay_row ds).2; simp only [PyData.depth]; omega)
theorem eqv_stps : ∀ a b : List (Int × Int), PyData.eqvAll (a.map stp) (b.map stp) = decide (a = b)
  | [], [] => by simp [PyData.eqvAll]
  | [], _ :: _ => by simp [PyData.eqvAll]
  | _ :: _, [] => by simp [PyData.eqvAll]
  | x :: a, y :: b => by
    obtain ⟨x1, x2⟩ := x
    obtain ⟨y1, y2⟩ := y
    simp only [List.map_cons, PyData.eqvAll, eqv_stps a b, stp, PyData.eqv, Bool.and_true]
    by_cases h1 : x1 = y1 <;> by_cases h2 : x2 = y2 <;> simp [h1, h2]
theorem eqv_enc (a b : Dd) : PyData.eqv (encD a) (encD b) = decide (a = b) := by
  cases a with
  | turn => cases b with
    | turn => simp [encD, PyData.eqv, PyData.eqvAll]
    | flip x => cases x <;> simp [encD, PyData.eqv, PyData.eqvAll]
    | shift x y => simp [encD, PyData.eqv, PyData.eqvAll]
    | ext g ws => cases g <;> simp [encD, PyData.eqv, PyData.eqvAll]
    | cells l cs => cases l <;> simp [encD, PyData.eqv, PyData.eqvAll]
  | flip z => cases b with
    | turn => cases z <;> simp [encD, PyData.eqv, PyData.eqvAll]
    | flip x => cases z <;> cases x <;> simp [encD, PyData.eqv, PyData.eqvAll]
    | shift x y => cases z <;> simp [encD, PyData.eqv, PyData.eqvAll]
    | ext g ws => cases z <;> cases g <;> simp [encD, PyData.eqv, PyData.eqvAll]
    | cells l cs => cases z <;> cases l <;> simp [encD, PyData.eqv, PyData.eqvAll]
  | shift p q => cases b with
    | turn => simp [encD, PyData.eqv, PyData.eqvAll]
    | flip x => cases x <;> simp [encD, PyData.eqv, PyData.eqvAll]
    | shift x y =>
      simp only [encD, PyData.eqv, PyData.eqvAll]
      by_cases h1 : p = x <;> by_cases h2 : q = y <;> simp [h1, h2]
    | ext g ws => cases g <;> simp [encD, PyData.eqv, PyData.eqvAll]
    | cells l cs => cases l <;> simp [encD, PyData.eqv, PyData.eqvAll]
  | ext f us => cases b with
    | turn => cases f <;> simp [encD, PyData.eqv, PyData.eqvAll]
    | flip x => cases f <;> cases x <;> simp [encD, PyData.eqv, PyData.eqvAll]
    | shift x y => cases f <;> simp [encD, PyData.eqv, PyData.eqvAll]
    | ext g ws => cases f <;> cases g <;> simp [encD, PyData.eqv, PyData.eqvAll, eqv_stps]
    | cells l cs => cases f <;> cases l <;> simp [encD, PyData.eqv, PyData.eqvAll]
  | cells f us => cases b with
    | turn => cases f <;> simp [encD, PyData.eqv, PyData.eqvAll]
    | flip x => cases f <;> cases x <;> simp [encD, PyData.eqv, PyData.eqvAll]
    | shift x y => cases f <;> simp [encD, PyData.eqv, PyData.eqvAll]
    | ext g ws => cases f <;> cases g <;> simp [encD, PyData.eqv, PyData.eqvAll]
    | cells l cs => cases f <;> cases l <;> simp [encD, PyData.eqv, PyData.eqvAll, eqvAll_ints]
theorem eqv_rows : ∀ a b : List Dd, PyData.eqvAll (a.map encD) (b.map encD) = decide (a = b)
  | [], [] => by simp [PyData.eqvAll]
  | [], _ :: _ => by simp [PyData.eqvAll]
  | _ :: _, [] => by simp [PyData.eqvAll]
  | x :: a, y :: b => by
    simp only [List.map_cons, PyData.eqvAll, eqv_rows a b, eqv_enc]
    by_cases h1 : x = y <;> by_cases h2 : a = b <;> simp [h1, h2]
theorem eq_row (a b : List Dd) : cmpD .eq (rowE a) (rowE b) = some (decide (a = b)) := by
  show gd (SeqAt.shaped (rowE a) && SeqAt.shaped (rowE b)) (PyData.eqv (rowE a) (rowE b)) = _
  rw [shaped_row, shaped_row]
  show some (PyData.eqv (.tuple (a.map encD)) (.tuple (b.map encD))) = _
  simp only [PyData.eqv]
  rw [eqv_rows]
end M
end
section
/-! Plain mathematics: deeds past one another. -/
namespace M
open PySem PI PG
variable {w h t : Int}
/-! ### sorted steps -/
def leS (a b : Int × Int) : Bool := decide (a.1 < b.1 ∨ a.1 = b.1 ∧ a.2 ≤ b.2)
def sortSt (ws : List (Int × Int)) : List (Int × Int) := ws.mergeSort leS
/-! ### extremes of like rows -/
/-! ### past -/
def restS (w h : Int) (cs : List Int) : List Int := (cellsL (w * h)).filter fun c => !decide (c ∈ cs)
def ledC (w h : Int) (f : Dd) (cs : List Int) : List Int := (cellsL (w * h)).filter fun c => decide (dstS w h f c ∈ cs)
def ledS (w h : Int) (a : Bool) (s : Int × Int) : Int × Int := if a = true then (-s.1 % w, s.2) else (s.1, -s.2 % h)
def turnD (w h : Int) : Dd → Dd
  | .ext g ws => .ext (!g) ws
  | .cells l cs => .cells (!l) (restS w h cs)
  | d => d
def pastS (w h : Int) (f d : Dd) : Dd := match f with
  | .turn => turnD w h d
  | .flip a => match d with
    | .cells l cs => .cells l (ledC w h (.flip a) cs)
    | .ext g ws => .ext g (sortSt (ws.map (ledS w h a)))
    | d => d
  | .shift x y => match d with
    | .cells l cs => .cells l (ledC w h (.shift x y) cs)
    | d => d
  | _ => d
def isBnd : Dd → Bool
  | .ext .. => true
  | .cells .. => true
  | _ => false
theorem at_done {p : List Int} {d : Dd} {c : Int} (hc : 0 ≤ c ∧ c < w * h) : atP (doneS w h t p d) c = cellS w h t p d c := by
  unfold atP doneS cellsL
  have h1 : c.toNat < (w * h).toNat := by omega
  rw [List.getD_eq_getElem?_getD, List.getElem?_map, List.getElem?_map, List.getElem?_range h1]
  show cellS w h t p d (c.toNat : Int) = _
  rw [show (c.toNat : Int) = c by omega]
def posS (w h c : Int) (s : Int × Int) : Int := (c / w + s.2) % h * w + (c % w + s.1) % w
/-! ### the program's -/
end M
end
section
/-! Plain mathematics: free deeds as few ones. -/
namespace M
open PySem PI PG
variable {w h t : Int}
structure FSt where
  fa : Bool
  fd : Bool
  ax : Int
  dy : Int
  tn : Bool
def FSt.nil : FSt := ⟨false, false, 0, 0, false⟩
def stepF (st : FSt) : Dd → FSt
  | .turn => { st with tn := !st.tn }
  | .shift x y => { st with ax := st.ax + x, dy := st.dy + y }
  | .flip true => { st with fa := !st.fa, ax := -st.ax }
  | .flip false => { st with fd := !st.fd, dy := -st.dy }
  | _ => st
def formF (w h : Int) (st : FSt) : List Dd :=
  (if st.fa = true then [.flip true] else []) ++ ((if st.fd = true then [.flip false] else []) ++ ((if st.dy % h * w + st.ax % w = 0 then [] else [.shift (st.ax % w) (st.dy % h)]) ++ (if st.tn = true then [.turn] else [])))
def freeF (w h : Int) (ds : List Dd) : List Dd := formF w h (ds.foldl stepF .nil)
/-! lengths -/
def bn (b : Bool) : Nat := cond b 1 0
def zn (a b : Int) : Nat := if a = 0 ∧ b = 0 then 0 else 1
def FSt.wt (st : FSt) : Nat := bn st.fa + bn st.fd + zn st.ax st.dy + bn st.tn
/-! what they make -/
def srcG (w h : Int) (st : FSt) (c : Int) : Int := (if st.fd = true then h - 1 - (c / w - st.dy) % h else (c / w - st.dy) % h) * w + (if st.fa = true then w - 1 - (c % w - st.ax) % w else (c % w - st.ax) % w)
def valG (w h t : Int) (st : FSt) (p : List Int) (c : Int) : Int := if st.tn = true then t - atP p (srcG w h st c) else atP p (srcG w h st c)
/-! ### the program's -/
def b01 (b : Bool) : Int := if b = true then 1 else 0
abbrev flD (a d : Int) : D := .dict [(.str (("across" : String) : Str), .int a), (.str (("down" : String) : Str), .int d)]
@[simp] theorem ev_dct (n : Bool) (ps : Es) (env : En) : evE (.dct n ps) env = R.bind (evEs ps env) fun ds => R.bind (lift (dctP ds (cond n [(.none, .none)] []))) fun kvs => .ok (.dict kvs) := rfl
def InvF (w h t : Int) (ds : List Dd) (zs : List Dd) (env : En) : Prop := ∃ s6, env = [.val (wd w h t), .val (.list (ds.map encD)), .own (flD (b01 (zs.foldl stepF .nil).fa) (b01 (zs.foldl stepF .nil).fd)), .val (.int (zs.foldl stepF .nil).ax), .val (.int (zs.foldl stepF .nil).dy), .val (.int (b01 (zs.foldl stepF .nil).tn)), s6, .emp, .emp]
abbrev ffBody : Ss := match B_free_form with | .cons _ (.cons _ (.cons _ (.cons _ (.cons (.for _ _ ss) _)))) => ss | _ => .nil
end M
end
section
/-! Plain mathematics: words among three, deeds held against one another, passed. -/
namespace M
open PySem PI PG
variable {w h t : Int}
@[simp] theorem inw3_0 : inD (.str (("turn" : String) : Str)) (.tuple [.str (("shift" : String) : Str), .str (("flip" : String) : Str), .str (("turn" : String) : Str)]) = some true := by kernel_rfl
@[simp] theorem inw3_1 : inD (.str (("flip" : String) : Str)) (.tuple [.str (("shift" : String) : Str), .str (("flip" : String) : Str), .str (("turn" : String) : Str)]) = some true := by kernel_rfl
@[simp] theorem inw3_2 : inD (.str (("shift" : String) : Str)) (.tuple [.str (("shift" : String) : Str), .str (("flip" : String) : Str), .str (("turn" : String) : Str)]) = some true := by kernel_rfl
@[simp] theorem inw3_3 : inD (.str (("greatest" : String) : Str)) (.tuple [.str (("shift" : String) : Str), .str (("flip" : String) : Str), .str (("turn" : String) : Str)]) = some false := by kernel_rfl
@[simp] theorem inw3_4 : inD (.str (("least" : String) : Str)) (.tuple [.str (("shift" : String) : Str), .str (("flip" : String) : Str), .str (("turn" : String) : Str)]) = some false := by kernel_rfl
@[simp] theorem inw3_5 : inD (.str (("mask" : String) : Str)) (.tuple [.str (("shift" : String) : Str), .str (("flip" : String) : Str), .str (("turn" : String) : Str)]) = some false := by kernel_rfl
@[simp] theorem inw3_6 : inD (.str (("lift" : String) : Str)) (.tuple [.str (("shift" : String) : Str), .str (("flip" : String) : Str), .str (("turn" : String) : Str)]) = some false := by kernel_rfl
end M
end
section
/-! Plain mathematics: two deeds as one. -/
namespace M
open PySem PI PG
variable {w h t : Int}
/-! ### sums of steps -/
def addU (ks : List (Int × Int)) (s : Int × Int) : List (Int × Int) := if s ∈ ks then ks else ks ++ [s]
def sumSt (w h : Int) (a b : Int × Int) : Int × Int := ((a.1 + b.1) % w, (a.2 + b.2) % h)
def rowSum (w h : Int) (vs : List (Int × Int)) (K : List (Int × Int)) (a : Int × Int) : List (Int × Int) := vs.foldl (fun K b => addU K (sumSt w h a b)) K
def sumK (w h : Int) (ws vs : List (Int × Int)) : List (Int × Int) := ws.foldl (rowSum w h vs) []
def sumsS (w h : Int) (ws vs : List (Int × Int)) : List (Int × Int) := sortSt (sumK w h ws vs)
theorem len_sub {α : Type} [DecidableEq α] {xs ys : List α} (hx : xs.Nodup) (hy : ys.Nodup) (h : ∀ x ∈ xs, x ∈ ys) : xs.Perm (ys.filter fun y => decide (y ∈ xs)) := by
  refine (List.perm_ext_iff_of_nodup hx (hy.sublist List.filter_sublist)).mpr fun x => ?_
  rw [List.mem_filter, decide_eq_true_eq]
  exact ⟨fun z => ⟨h x z, z⟩, fun z => z.2⟩
abbrev kvT (s : Int × Int) : D × D := (stp s, .bool true)
abbrev dicK (K : List (Int × Int)) : D := .dict ((.none, .none) :: K.map kvT)
/-! ### the pure ones -/
def mergS (w h : Int) (a b : Dd) : List Dd := match a, b with
  | .ext g ws, .ext g' vs => if g = g' then [.ext g (sumsS w h ws vs)] else [.ext g ws, .ext g' vs]
  | .cells false cs, .cells false es => [.cells false (cs.filter fun c => decide (c ∈ es))]
  | .cells true cs, .cells true es => [.cells true (sortU (cs ++ es))]
  | .cells true cs, .cells false es => [.cells false es, .cells true (cs.filter fun c => decide (c ∈ es))]
  | a, b => [a, b]
def idleS (w h : Int) : Dd → Bool
  | .ext _ ws => decide (ws = [(0, 0)])
  | .cells false cs => decide ((cs.length : Int) = w * h)
  | .cells true cs => decide (cs = [])
  | _ => false
/-! what they make -/
end M
end
section
/-! Plain mathematics: rows settled. -/
namespace M
open PySem PI PG
variable {w h t : Int}
/-! ### settled -/
def scanS (w h : Int) : List Dd → Option (List Dd)
  | a :: b :: r => if mergS w h a b = [a, b] then (scanS w h (b :: r)).map (a :: ·) else some (mergS w h a b ++ r)
  | _ => none
def settF (w h : Int) : Nat → List Dd → Option (List Dd)
  | 0, _ => none
  | n + 1, row => match scanS w h (row.filter fun d => !idleS w h d) with
    | none => some (row.filter fun d => !idleS w h d)
    | some r => settF w h n r
/-! it ends -/
def cL : List Dd → Nat
  | [] => 0
  | .cells true _ :: r => cL r + 1
  | _ :: r => cL r
def cM : List Dd → Nat
  | [] => 0
  | .cells false _ :: r => cM r + 1
  | _ :: r => cM r
def inv : List Dd → Nat
  | [] => 0
  | .cells true _ :: r => cM r + inv r
  | _ :: r => inv r
def mu (row : List Dd) : Nat := row.length + inv row
/-! ### the program's -/
theorem shaped_rowL (ds : List Dd) : SeqAt.shaped (.list (ds.map encD)) = true := shaped_of (by simp only [PyData.canLay0]; exact (lay_row ds).1) (by have := (lay_row ds).2; simp only [PyData.depth]; omega)
theorem eq_rowL (a b : List Dd) : cmpD .eq (.list (a.map encD)) (.list (b.map encD)) = some (decide (a = b)) := by
  show gd (SeqAt.shaped _ && SeqAt.shaped _) (PyData.eqv (.list (a.map encD)) (.list (b.map encD))) = _
  rw [shaped_rowL, shaped_rowL]
  simp only [PyData.eqv]
  rw [eqv_rows]
  rfl
abbrev sBody (g : List D → R D) : Ss := match B_settled g with | .cons _ (.cons (.for _ _ ss) _) => ss | _ => .nil
end M
end
section
/-! Plain mathematics: forms. -/
namespace M
open PySem PI PG
variable {w h t : Int}
def pastAll (w h : Int) (fr : List Dd) (d : Dd) : Dd := fr.reverse.foldl (fun d f => pastS w h f d) d
def stepB (w h : Int) (s : List Dd × List Dd) (d : Dd) : List Dd × List Dd := if isBnd d = true then (s.1, s.2 ++ [pastAll w h s.1 d]) else (s.1 ++ [d], s.2)
def splitS (w h : Int) (row : List Dd) : List Dd × List Dd := row.foldl (stepB w h) ([], [])
def setS (w h : Int) (row : List Dd) : List Dd := (settF w h 40 row).getD []
def formS (w h : Int) (row : List Dd) : List Dd := setS w h (splitS w h row).2 ++ freeF w h (splitS w h row).1
structure SplitOk (w h : Int) (s : List Dd × List Dd) : Prop where
  f1 : RowOk w h s.1
  f2 : ∀ d ∈ s.1, isBnd d = false
  b1 : RowOk w h s.2
  b2 : ∀ d ∈ s.2, isBnd d = true
/-! ### the program's -/
end M
end
section
/-! Plain mathematics: may_change; truths. -/
namespace M
open PySem PI PG
variable {w h t : Int}
@[simp] theorem eq_bool (a b : Bool) : cmpD .eq (.bool a) (.bool b) = some (decide (a = b)) := by cases a <;> cases b <;> rfl
@[simp] theorem ne_bool (a b : Bool) : cmpD .ne (.bool a) (.bool b) = some (!decide (a = b)) := by cases a <;> cases b <;> rfl
@[simp] theorem isB_t (b : Bool) (c : D) : cmpD (.isB true) (.bool b) c = some b := by cases b <;> rfl
@[simp] theorem isB_f (b : Bool) (c : D) : cmpD (.isB false) (.bool b) c = some (!b) := by cases b <;> rfl
@[simp] theorem notB_t (b : Bool) (c : D) : cmpD (.notB true) (.bool b) c = some (!b) := by cases b <;> rfl
@[simp] theorem notB_f (b : Bool) (c : D) : cmpD (.notB false) (.bool b) c = some b := by cases b <;> rfl
@[simp] theorem is_boolB (b : Bool) : isIn .bool (.bool b) = true := rfl
@[simp] theorem ev_rev (a : E) (env : En) : evE (.rev a) env = R.bind (evE a env) fun x => lift (revD x) := rfl
@[simp] theorem rev_L (xs : List D) : revD (.list xs) = some (.list xs.reverse) := rfl
@[simp] theorem rev_T (xs : List D) : revD (.tuple xs) = some (.tuple xs.reverse) := rfl
theorem rowOk_app {a b : List Dd} (ha : RowOk w h a) (hb : RowOk w h b) : RowOk w h (a ++ b) := fun d hd => (List.mem_append.mp hd).elim (ha d) (hb d)
theorem rowOk_one {a : Dd} (ha : DdOk w h a) : RowOk w h [a] := fun d hd => by rw [List.mem_singleton.mp hd]; exact ha
/-- one of a list -/
theorem pick_one {α : Type} (enc : α → D) (L : List α) {j : Int} (h0 : 0 ≤ j) (h1 : j < L.length) : ∃ a ∈ L, idxD (.list (L.map enc)) (.int j) = some (enc a) := by
  obtain ⟨n, rfl⟩ : ∃ n : Nat, j = n := ⟨j.toNat, by omega⟩
  have hn : n < L.length := by omega
  exact ⟨L[n], List.getElem_mem hn, ix_list _ _ (by rw [List.getElem?_map, List.getElem?_eq_getElem hn]; rfl)⟩
end M
end
section
/-! Plain mathematics: what rows make of all pictures. -/
namespace M
open PySem PI PG
variable {w h t : Int}
/-! ### dicts that are only asked for their keys -/
def addA {α : Type} [DecidableEq α] (K : List α) (s : α) : List α := if s ∈ K then K else K ++ [s]
section
variable {α : Type} [DecidableEq α]
/-- things that can be keys -/
structure KeyE (enc : α → D) : Prop where
  eqv : ∀ a b, PyData.eqv (enc a) (enc b) = decide (a = b)
  tup : ∀ a, tupK (enc a) = true
variable {enc : α → D}
abbrev dicA (enc : α → D) (K : List α) : D := .dict ((.none, .none) :: K.map fun s => (enc s, .bool true))
end
theorem pic_key : KeyE pic := ⟨fun a b => by show PyData.eqvAll _ _ = _; rw [eqvAll_ints], fun a => tupK_row a⟩
/-! ### sorted rows -/
theorem alike_ints : ∀ a b : List Int, _root_.PySem.W.alikeAll (a.map PyData.int) (b.map PyData.int) = true
  | [], b => by simp [_root_.PySem.W.alikeAll]
  | _ :: _, [] => by simp [_root_.PySem.W.alikeAll]
  | x :: a, y :: b => by
    rw [List.map_cons, List.map_cons, _root_.PySem.W.alikeAll, alike_ints a b]
    rfl
theorem sortOk_rows {K : List (List Int)} (h : ∀ p ∈ K, p ≠ []) : sortOk (K.map pic) = true := by
  have a : ∀ f : D → Bool, (∀ p ∈ K, f (pic p) = true) → (K.map pic).all f = true := fun f h => by
    rw [List.all_map, List.all_eq_true]
    intro i hi
    exact h i hi
  unfold sortOk
  rw [a _ fun i _ => a _ fun j _ => (by show _root_.PySem.W.alikeAll _ _ = true; exact alike_ints i j), a tupB fun i hi => (by
    cases i with
    | nil => exact absurd rfl (h [] hi)
    | cons _ _ => rfl), a SeqAt.shaped fun i _ => shaped_T i, Bool.true_or]
  rfl
theorem sort_rows {K as : List (List Int)} (hn : ∀ p ∈ K, p ≠ []) (hp : K.Perm (firstsE as)) : sortD (K.map pic) = some (.list ((sortR as).map pic)) := by
  show gd (sortOk (K.map pic)) (PyData.list ((K.map rowD).mergeSort (_root_.PySem.W.dataLe false id))) = _
  rw [sortOk_rows hn, sortR_of hp]
  rfl
theorem pok_ne (W : WOk w h t) {p : List Int} (P : POk w h t p) : p ≠ [] := fun e => by
  have := wh_le W
  have := P.1
  rw [e] at this
  simp at this
  omega
theorem sortR_mem {as : List (List Int)} {x : List Int} : x ∈ sortR as ↔ x ∈ as := ((List.mergeSort_perm _ _).mem_iff).trans firstsE_mem
theorem firstsE_len {α : Type} [DecidableEq α] {as : List α} (h : as.Nodup) : (firstsE as).length = as.length := (firstsE_perm h fun _ => Iff.rfl).length_eq.symm
/-! ### made -/
def leadS (w h t : Int) (ds : List Dd) : List (List Int) := (picsS w h t).map fun p => afterS w h t p ds
def madeS (w h t : Int) (ds : List Dd) : List (List Int) := sortR (leadS w h t ds)
theorem pics_len (W : WOk w h t) : (picsS w h t).length ≤ 4096 := every_le W.t1 W.t3 (by have := wh_le W; omega)
def settles (w h t : Int) (ds : List Dd) : Bool := (picsS w h t).all fun p => decide (afterS w h t (afterS w h t p ds) ds = afterS w h t p ds)
/-! ### free rows can be undone -/
theorem at_ext {p q : List Int} {n : Int} (hp : (p.length : Int) = n) (hq : (q.length : Int) = n) (e : ∀ c, 0 ≤ c ∧ c < n → atP p c = atP q c) : p = q := by
  rw [← pic_cells hp, ← pic_cells hq]
  exact List.map_congr_left fun c hc => e c (mem_cells.mp hc)
theorem free_inj (W : WOk w h t) {d : Dd} (hd : DdOk w h d) (hb : isBnd d = false) {p q : List Int} (hp : (p.length : Int) = w * h) (hq : (q.length : Int) = w * h) (e : doneS w h t p d = doneS w h t q d) : p = q := by
  have e2 : ∀ c, 0 ≤ c ∧ c < w * h → cellS w h t p d c = cellS w h t q d c := fun c hc => by rw [← at_done hc, ← at_done hc, e]
  have free : ∀ (hf : isFree d = true), p = q := fun hf => by
    have ec : ∀ q c, cellS w h t q d c = atP q (srcS w h d c) := fun q c => by cases d <;> first | rfl | cases hf
    refine at_ext hp hq fun c hc => ?_
    have hi := free_inv W hf hd hc
    have dst : 0 ≤ dstS w h d c ∧ dstS w h d c < w * h := by
      have hw := W.w1
      have hh := W.h1
      cases d with
      | flip a => cases a <;> exact box W.w1 W.w3 ⟨Int.emod_nonneg _ (by omega), Int.emod_lt_of_pos _ (by omega)⟩ ⟨Int.emod_nonneg _ (by omega), Int.emod_lt_of_pos _ (by omega)⟩
      | shift x y => exact box W.w1 W.w3 ⟨Int.emod_nonneg _ (by omega), Int.emod_lt_of_pos _ (by omega)⟩ ⟨Int.emod_nonneg _ (by omega), Int.emod_lt_of_pos _ (by omega)⟩
      | _ => cases hf
    have := e2 _ dst
    rw [ec, ec, hi.2.2] at this
    exact this
  cases d with
  | turn =>
    refine at_ext hp hq fun c hc => ?_
    have := e2 c hc
    simp only [cellS] at this
    omega
  | flip a => exact free rfl
  | shift x y => exact free rfl
  | _ => cases hb
theorem pics_nodup (W : WOk w h t) : (picsS w h t).Nodup := by
  unfold picsS
  generalize (w * h).toNat = k
  induction k with
  | zero => simp [everyS]
  | succ k ih =>
    show ((everyS t k).flatMap (rowX t)).Nodup
    have key : ∀ {l : List (List Int)}, l.Nodup → (l.flatMap (rowX t)).Nodup := by
      intro l
      induction l with
      | nil => intro _; exact List.nodup_nil
      | cons r l ih2 =>
        intro n
        obtain ⟨n1, n2⟩ := List.nodup_cons.mp n
        rw [List.flatMap_cons, List.nodup_append]
        refine ⟨List.pairwise_map.mpr ((cells_nodup (t + 1)).imp fun {a b} ne e => ne ?_), ih2 n2, fun a ha b hb e => ?_⟩
        · obtain ⟨x, _, rfl⟩ := List.mem_map.mp ha
          obtain ⟨s, hs, hb⟩ := List.mem_flatMap.mp hb
          obtain ⟨y, _, rfl⟩ := List.mem_map.mp hb
          have e : r ++ [x] = s ++ [y] := e
          have := (List.append_inj' e rfl).1
          exact n1 (this ▸ hs)
        · have e : r ++ [a] = r ++ [b] := e
          have := (List.append_inj' e rfl).2
          injection this
    exact key ih
end M
end
section
/-! Plain mathematics: dicts of pictures, orbits. -/
namespace M
open PySem PI PG
variable {w h t : Int}
theorem eqv_pics : ∀ a b : List (List Int), PyData.eqvAll (a.map pic) (b.map pic) = decide (a = b)
  | [], [] => by simp [PyData.eqvAll]
  | [], _ :: _ => by simp [PyData.eqvAll]
  | _ :: _, [] => by simp [PyData.eqvAll]
  | x :: a, y :: b => by
    simp only [List.map_cons, PyData.eqvAll, eqv_pics a b, pic, PyData.eqv, eqvAll_ints]
    by_cases h1 : x = y <;> by_cases h2 : a = b <;> simp [h1, h2]
theorem lay_pics : ∀ a : List (List Int), PyData.canLayAll0 (a.map pic) = true ∧ PyData.depthAll (a.map pic) ≤ 3
  | [] => by simp [PyData.canLayAll0, PyData.depthAll]
  | x :: a => by
    obtain ⟨h1, h2⟩ := lay_pics a
    have h3 := W.canLayAll0_ints x
    have h4 := W.depthAll_ints x
    refine ⟨by simp [PyData.canLayAll0, PyData.canLay0, h1, h3], ?_⟩
    simp only [List.map_cons, PyData.depthAll, PyData.depth]
    omega
theorem shaped_picsL (a : List (List Int)) : SeqAt.shaped (.list (a.map pic)) = true := shaped_of (by simp only [PyData.canLay0]; exact (lay_pics a).1) (by have := (lay_pics a).2; simp only [PyData.depth]; omega)
theorem eq_picsL (a b : List (List Int)) : cmpD .eq (.list (a.map pic)) (.list (b.map pic)) = some (decide (a = b)) := by
  show gd (SeqAt.shaped _ && SeqAt.shaped _) (PyData.eqvAll (a.map pic) (b.map pic)) = _
  rw [shaped_picsL, shaped_picsL, eqv_pics]
  rfl
theorem eqv_pic (a b : List Int) : PyData.eqv (pic a) (pic b) = decide (a = b) := pic_key.eqv a b
theorem any_pics (c : List Int) : ∀ P : List (List Int), ((P.map pic).any fun z => PyData.eqv z (pic c)) = decide (c ∈ P)
  | [] => by simp
  | p :: P => by
    rw [List.map_cons, List.any_cons, any_pics c P, eqv_pic]
    by_cases z : p = c
    · simp [z]
    · have z' : ¬ c = p := fun e => z e.symm
      simp [z, z']
theorem in_picsL (c : List Int) (P : List (List Int)) : inD (pic c) (.list (P.map pic)) = some (decide (c ∈ P)) := by
  show gd (SeqAt.shaped (pic c) && SeqAt.shaped (.list (P.map pic))) _ = _
  rw [shaped_T, shaped_picsL, any_pics]
  rfl
/-! ### a dict of pictures -/
abbrev dicV (v : List Int → D) (K : List (List Int)) : D := .dict ((.none, .none) :: K.map fun p => (pic p, v p))
theorem pics_256 (W : WOk w h t) : (picsS w h t).length ≤ 256 := by
  unfold picsS
  rw [every_len W.t1 W.t3]
  have := W.few
  have e : (((t + 1).toNat ^ (w * h).toNat : Nat) : Int) = (t + 1) ^ (w * h).toNat := by
    rw [Int.natCast_pow, Int.toNat_of_nonneg (by have := W.t1; omega)]
  omega
/-! ### orbits -/
def orbL (F : List Int → List Int) : Nat → List (List Int) → List Int → List (List Int) × List Int
  | 0, P, c => (P, c)
  | n + 1, P, c => if c ∈ P then (P, c) else orbL F n (P ++ [c]) (F c)
def idxN (c : List Int) : Nat → List (List Int) → Option Nat
  | _, [] => none
  | k, y :: r => if y = c then some k else idxN c (k + 1) r
abbrev kvI (z : List Int × Nat) : D × D := (pic z.1, .int (z.2 : Int))
abbrev dicI (P : List (List Int)) : D := .dict ((.none, .none) :: P.zipIdx.map kvI)
theorem sub_len {P U : List (List Int)} (np : P.Nodup) (hu : U.Nodup) (sp : ∀ p ∈ P, p ∈ U) : P.length ≤ U.length := by
  rw [(len_sub np hu sp).length_eq]
  exact List.length_filter_le _ _
abbrev aTest : E := match B_again with | .cons _ (.cons _ (.cons _ (.cons _ (.cons (.whl c _) _)))) => c | _ => .bad
abbrev aBody : Ss := match B_again with | .cons _ (.cons _ (.cons _ (.cons _ (.cons (.whl _ ss) _)))) => ss | _ => .nil
end M
end
section
/-! Plain mathematics: choices, rows of a choice, rows that fit. -/
namespace M
open PySem PI PG
variable {w h t : Int}
/-! ### deeds among deeds, as keys -/
theorem any_enc (d : Dd) : ∀ ds : List Dd, ((ds.map encD).any fun z => PyData.eqv z (encD d)) = decide (d ∈ ds)
  | [] => by simp
  | e :: ds => by
    rw [List.map_cons, List.any_cons, any_enc d ds, eqv_enc]
    by_cases z : e = d
    · simp [z]
    · have z' : ¬ d = e := fun q => z q.symm
      simp [z, z']
theorem in_encL (d : Dd) (ds : List Dd) : inD (encD d) (.list (ds.map encD)) = some (decide (d ∈ ds)) := by
  show gd (SeqAt.shaped (encD d) && SeqAt.shaped (.list (ds.map encD))) _ = _
  rw [shaped_enc, shaped_rowL, any_enc]
  rfl
theorem keys_stp : ∀ ws : List (Int × Int), keysN (ws.map stp) = some (ws.map fun s => NestedKey.tup [.num s.1, .num s.2])
  | [] => rfl
  | s :: ws => by rw [List.map_cons, keysN, keys_stp ws]; rfl
theorem keys_ints : ∀ cs : List Int, keysN (cs.map PyData.int) = some (cs.map NestedKey.num)
  | [] => rfl
  | c :: cs => by rw [List.map_cons, keysN, keys_ints cs]; rfl
theorem depth_stps : ∀ ws : List (Int × Int), NestedKey.depthAll (ws.map fun s => NestedKey.tup [.num s.1, .num s.2]) ≤ 1
  | [] => by simp [NestedKey.depthAll]
  | s :: ws => by
    have := depth_stps ws
    simp only [List.map_cons, NestedKey.depthAll, NestedKey.depth]
    omega
theorem tupK_enc (d : Dd) : tupK (encD d) = true := by
  have key : ∀ (x : Str) (ds : List D) (ks : List NestedKey), keysN ds = some ks → NestedKey.depthAll ks ≤ 1 → tupK (.tuple [.str x, .tuple ds]) = true := fun x ds ks h1 h2 => by
    have e : keyN (.tuple [.str x, .tuple ds]) = some (.tup [.text x, .tup ks]) := by
      simp only [keyN, keysN, h1]
      rfl
    unfold tupK
    simp only
    rw [e]
    refine decide_eq_true ?_
    simp only [NestedKey.depth, NestedKey.depthAll]
    omega
  cases d with
  | turn => rfl
  | flip a => cases a <;> rfl
  | shift x y => rfl
  | ext g ws => cases g <;> exact key _ _ _ (keys_stp ws) (depth_stps ws)
  | cells l cs => cases l <;> exact key _ _ _ (keys_ints cs) (by rw [depth_nums]; omega)
theorem deed_key : KeyE encD := ⟨eqv_enc, tupK_enc⟩
theorem firsts_map {α : Type} [DecidableEq α] {enc : α → D} (E : KeyE enc) : ∀ ds : List α, firsts (ds.map enc) = (firstsE ds).map enc
  | [] => rfl
  | d :: ds => by
    rw [List.map_cons, firsts, firsts_map E ds, firstsE, List.map_cons, List.filter_map]
    congr 2
    refine List.filter_congr fun e _ => ?_
    show (!PyData.eqv (enc d) (enc e)) = decide (e ≠ d)
    rw [E.eqv]
    by_cases z : d = e
    · simp [z]
    · have z' : ¬ e = d := fun q => z q.symm
      simp [z, z']
theorem setLen_of {α : Type} [DecidableEq α] {enc : α → D} (E : KeyE enc) {ds : List α} (hl : ds.length ≤ 305) : biD .setLen [.list (ds.map enc)] = some (.int ((firstsE ds).length : Int)) := by
  show gd (setOk (ds.map enc)) (PyData.int ((firsts (ds.map enc)).length : Int)) = _
  have : setOk (ds.map enc) = true := by
    unfold setOk
    rw [decide_eq_true (by rw [List.length_map]; exact hl), show (ds.map enc).all tupK = true by rw [List.all_map, List.all_eq_true]; exact fun d _ => E.tup d, Bool.or_true]
    rfl
  rw [this, firsts_map E, List.length_map]
  rfl
/-! ### a choice -/
structure ChOk (w h : Int) (cs : List Dd) : Prop where
  ok : RowOk w h cs
  nd : cs.Nodup
  pos : 1 ≤ cs.length
  few : cs.length ≤ 5
theorem run_look_choice (W : WOk w h t) {cs : List Dd} (C : ChOk w h cs) : F_look_choice [wd w h t, .list (cs.map encD)] = .ok .none := by
  refine fn_run rfl ?_
  have c1 := run_look W
  have s1 := setLen_of deed_key (ds := cs) (by have := C.few; omega)
  rw [firstsE_len C.nd] at s1
  have p1 := C.pos
  have p2 := C.few
  have lc : evE (.lc (.var 2) (.nm 2) (.val (.var 1)) (.not (.call "is_deed" F_is_deed (.cons (.var 0) (.cons (.var 2) .nil)))) [2]) [.val (wd w h t), .val (.list (cs.map encD)), .emp] = .ok (.list []) := by
    rw [ev_none encD cs (by rfl) (by simp)]
    intro d hd
    have := run_is_deed W (C.ok d hd)
    exact ⟨_, .bool false, rfl, by simp [this], rfl⟩
  have z1 : decide ((1 : Int) ≤ (cs.length : Int)) = true := decide_eq_true (by omega)
  have z2 : decide ((cs.length : Int) ≤ 5) = true := decide_eq_true (by omega)
  simp [B_look_choice, startE, c1, lc, s1, z1, z2]
def ChL (w h : Int) (most : Int) (zs : Nat) (cs : List Dd) : Prop := RowOk w h cs ∧ cs.Nodup ∧ cs.length ≤ zs ∧ (0 < zs → 0 < cs.length)
theorem run_law_choice (W : WOk w h t) (ns : List Int) {at_ most : Int} (ha : 0 ≤ at_) (hm : 1 ≤ most ∧ most ≤ 5) : ∃ cs : List Dd, ChOk w h cs ∧ (cs.length : Int) ≤ most ∧ F__law_choice [wd w h t, scr ns, .int at_, .int most] = .ok (.list (cs.map encD)) := by
  have rc0 := run_cell_ ns ha
  have rc1 := run_cell_ ns (k := at_ + 1) (by omega)
  have d1 := bin_mod (cellI ns at_) most (by omega)
  have e0 := Int.emod_nonneg (cellI ns at_) (b := most) (by omega)
  have e1 := Int.emod_lt_of_pos (cellI ns at_) (b := most) (by omega)
  have hr : rangeD (.int (1 + cellI ns at_ % most)) = some ((cellsL (1 + cellI ns at_ % most)).map .int) := rng_cells (by omega) (by omega)
  have loop := for_inv (f := fun x env => Rs.lf (patSet (.nm 5) x env) fun env' => evSs 400 (match B__law_choice with | .cons _ (.cons (.for _ _ ss) _) => ss | _ => .nil) env') (enc := PyData.int)
    (fun zs env => ∃ cs s5 s6, ChL w h most zs.length cs ∧ env = [.val (wd w h t), .val (scr ns), .val (.int at_), .val (.int most), .own (.list (cs.map encD)), s5, s6]) (cellsL (1 + cellI ns at_ % most)).length (ys := cellsL (1 + cellI ns at_ % most)) (zs := [])
    (env := [.val (wd w h t), .val (scr ns), .val (.int at_), .val (.int most), .own (.list []), .emp, .emp]) (by simp) ⟨[], _, _, ⟨(fun _ h => nomatch h), List.nodup_nil, Nat.le_refl _, fun h => h⟩, rfl⟩ ?_
  · obtain ⟨env', x1, cs, s5, s6, ⟨q1, q2, q3, q4⟩, rfl⟩ := loop
    rw [List.nil_append] at q3 q4
    have ll := cells_len (n := 1 + cellI ns at_ % most) (by omega)
    refine ⟨cs, ⟨q1, q2, q4 (by omega), by omega⟩, by omega, fn_run rfl ?_⟩
    simp [B__law_choice] at x1
    simp [B__law_choice, startE, rc0, d1, es_for, hr]
    rw [x1]
    simp
  · rintro zs k env hk hz ⟨cs, s5, s6, ⟨q1, q2, q3, q4⟩, rfl⟩
    have ll := cells_len (n := 1 + cellI ns at_ % most) (by omega)
    have m1 := bin_mul 41 k (.inl (smallI_of (by decide) (by decide)))
    have b1 := run_seed (cellI ns (at_ + 1) + 41 * k) k
    obtain ⟨d, hd, rd⟩ := run_deed W (seedV (cellI ns (at_ + 1) + 41 * k) k)
    have i1 := in_encL d cs
    have a1 := app_of (cs.map encD) (encD d) (by rw [List.length_map]; unfold lim; omega)
    by_cases z : d ∈ cs
    · rw [decide_eq_true z] at i1
      refine ⟨_, ?_, cs, .val (.int k), .val (encD d), ⟨q1, q2, by rw [List.length_append, List.length_singleton]; omega, fun _ => List.length_pos_of_mem z⟩, rfl⟩
      simp [B__law_choice, rc1, m1, b1, rd, i1]
    · rw [decide_eq_false z] at i1
      refine ⟨_, ?_, cs ++ [d], .val (.int k), .val (encD d), ⟨rowOk_app q1 (rowOk_one hd), List.nodup_append.mpr ⟨q2, by simp, fun a ha b hb e => z (by rw [List.mem_singleton.mp hb] at e; rw [← e]; exact ha)⟩, by simp only [List.length_append, List.length_singleton]; omega, fun _ => by simp⟩, rfl⟩
      rw [List.map_append]
      simp [B__law_choice, rc1, m1, b1, rd, i1, a1]
/-! ### rows of a choice -/
def ext1 (cs : List Dd) (r : List Dd) : List (List Dd) := cs.map fun d => r ++ [d]
def lvlS (cs : List Dd) : Nat → List (List Dd)
  | 0 => [[]]
  | k + 1 => (lvlS cs k).flatMap (ext1 cs)
def rowsS (cs : List Dd) : Nat → List (List Dd)
  | 0 => [[]]
  | k + 1 => rowsS cs k ++ lvlS cs (k + 1)
theorem lvl_mem {cs : List Dd} : ∀ {k : Nat} {r : List Dd}, r ∈ lvlS cs k → r.length = k ∧ ∀ d ∈ r, d ∈ cs
  | 0, r, hr => by
    rw [List.mem_singleton.mp hr]
    exact ⟨rfl, fun _ h => nomatch h⟩
  | k + 1, r, hr => by
    obtain ⟨q, hq, hr⟩ := List.mem_flatMap.mp hr
    obtain ⟨d, hd, rfl⟩ := List.mem_map.mp hr
    obtain ⟨h1, h2⟩ := lvl_mem hq
    refine ⟨by rw [List.length_append, List.length_singleton, h1], fun e he => ?_⟩
    rcases List.mem_append.mp he with z | z
    · exact h2 e z
    · rw [List.mem_singleton.mp z]; exact hd
theorem rows_mem {cs : List Dd} : ∀ {k : Nat} {r : List Dd}, r ∈ rowsS cs k → r.length ≤ k ∧ ∀ d ∈ r, d ∈ cs
  | 0, r, hr => by
    rw [List.mem_singleton.mp hr]
    exact ⟨Nat.le_refl _, fun _ h => nomatch h⟩
  | k + 1, r, hr => by
    rcases List.mem_append.mp hr with z | z
    · obtain ⟨h1, h2⟩ := rows_mem z
      exact ⟨by omega, h2⟩
    · obtain ⟨h1, h2⟩ := lvl_mem z
      exact ⟨by omega, h2⟩
/-! ### rows that fit -/
abbrev prE (z : List Int × List Int) : D := .tuple [pic z.1, pic z.2]
def PairsOk (w h t : Int) (ps : List (List Int × List Int)) : Prop := ∀ z ∈ ps, POk w h t z.1 ∧ POk w h t z.2
def fitS (w h t : Int) (ps : List (List Int × List Int)) (r : List Dd) : Bool := ps.all fun z => decide (afterS w h t z.1 r = z.2)
def fittingS (w h t : Int) (cs : List Dd) (ps : List (List Int × List Int)) (n : Nat) : List (List Dd) := (rowsS cs n).filter (fitS w h t ps)
def optR : Option (List Dd) → D
  | some r => rowE r
  | none => .none
end M
end
section
/-! Plain mathematics: lists of rows, of pairs; some picture. -/
namespace M
open PySem PI PG
variable {w h t : Int}
/-! lists of rows, of pairs -/
theorem run_some_picture (W : WOk w h t) (z : Int) : ∃ p, POk w h t p ∧ F__law_some_picture [wd w h t, .int z] = .ok (pic p) := by
  have hwh := wh_le W
  have hr : rangeD (.int (w * h)) = some ((cellsL (w * h)).map .int) := rng_cells (by omega) (by omega)
  have m2 : binD .mul (.int w) (.int h) = some (.int (w * h)) := bin_mul _ _ (.inl (smallI_of (by have := W.w1; omega) (by have := W.w3; omega)))
  have ht := W.t1
  refine ⟨(cellsL (w * h)).map fun c => pickV (seedV z c) (t + 1), ⟨by rw [List.length_map]; exact cells_len (by omega), fun x hx => ?_⟩, fn_run rfl ?_⟩
  · obtain ⟨c, _, rfl⟩ := List.mem_map.mp hx
    have := pick_in (seedV z c) (m := t + 1) (by omega)
    omega
  · simp [B__law_some_picture, startE]
    rw [ev_map .int (fun c => .int (pickV (seedV z c) (t + 1))) (cellsL (w * h)) (by rfl) (by simp [m2, hr])]
    · simp
    · intro c _
      have c1 := run_seed z c
      have c2 := run_pick (seedV z c) (m := t + 1) (by omega)
      exact ⟨_, rfl, by simp [c1, c2]⟩
end M
end
section
/-! Plain mathematics: pictures that come by deeds of a choice, level by level. -/
namespace M
open PySem PI PG
variable {w h t : Int}
section
variable (w h t : Int) (p0 : List Int) (cs : List Dd)
def addR (acc : List (List Int × List Dd)) (r : List Dd) : List (List Int × List Dd) := if afterS w h t p0 r ∈ acc.map (·.1) then acc else acc ++ [(afterS w h t p0 r, r)]
def fdS (k : Nat) : List (List Int × List Dd) := (rowsS cs k).foldl (addR w h t p0) []
def expR (acc : List (List Int × List Dd)) (r : List Dd) : List (List Int × List Dd) := cs.foldl (fun acc d => addR w h t p0 acc (r ++ [d])) acc
def keptL (D : List (List Int × List Dd)) (L : List (List Dd)) : List (List Dd) := ((L.foldl (addR w h t p0) D).drop D.length).map (·.2)
def hereS : Nat → List (List Dd)
  | 0 => [[]]
  | k + 1 => keptL w h t p0 (fdS w h t p0 cs k) (lvlS cs (k + 1))
end
variable {p0 : List Int} {cs : List Dd}
abbrev kys (acc : List (List Int × List Dd)) : List (List Int) := acc.map (·.1)
theorem after_snoc (p : List Int) (r : List Dd) (d : Dd) : afterS w h t p (r ++ [d]) = doneS w h t (afterS w h t p r) d := by unfold afterS; rw [List.foldl_append]; rfl
theorem addR_pre (acc : List (List Int × List Dd)) (r : List Dd) : ∃ X, addR w h t p0 acc r = acc ++ X := by
  unfold addR
  split
  · exact ⟨[], by simp⟩
  · exact ⟨_, rfl⟩
theorem fold_pre : ∀ (L : List (List Dd)) (acc : List (List Int × List Dd)), ∃ X, L.foldl (addR w h t p0) acc = acc ++ X
  | [], acc => ⟨[], by simp⟩
  | r :: L, acc => by
    obtain ⟨X, e⟩ := addR_pre (w := w) (h := h) (t := t) (p0 := p0) acc r
    obtain ⟨Y, e2⟩ := fold_pre L (addR w h t p0 acc r)
    exact ⟨X ++ Y, by rw [List.foldl_cons, e2, e, List.append_assoc]⟩
theorem addR_has (acc : List (List Int × List Dd)) (r : List Dd) : afterS w h t p0 r ∈ kys (addR w h t p0 acc r) := by
  unfold addR
  split
  · assumption
  · simp [kys]
theorem pre_kys {A B X : List (List Int × List Dd)} (e : B = A ++ X) {q : List Int} (hq : q ∈ kys A) : q ∈ kys B := by
  rw [e]
  unfold kys
  rw [List.map_append]
  exact List.mem_append_left _ hq
theorem fold_has : ∀ {L : List (List Dd)} {acc : List (List Int × List Dd)} {r : List Dd}, r ∈ L → afterS w h t p0 r ∈ kys (L.foldl (addR w h t p0) acc)
  | s :: L, acc, r, hr => by
    rw [List.foldl_cons]
    rcases List.mem_cons.mp hr with rfl | hr
    · obtain ⟨X, e⟩ := fold_pre (w := w) (h := h) (t := t) (p0 := p0) L (addR w h t p0 acc r)
      exact pre_kys e (addR_has acc r)
    · exact fold_has hr
structure Good (w h t : Int) (p0 : List Int) (R : List Dd → Prop) (acc : List (List Int × List Dd)) : Prop where
  nd : (kys acc).Nodup
  el : ∀ z ∈ acc, z.1 = afterS w h t p0 z.2 ∧ R z.2
theorem addR_good {R : List Dd → Prop} {acc : List (List Int × List Dd)} {r : List Dd} (G : Good w h t p0 R acc) (hr : R r) : Good w h t p0 R (addR w h t p0 acc r) := by
  unfold addR
  split
  · exact G
  · rename_i z
    refine ⟨?_, fun y hy => ?_⟩
    · unfold kys
      rw [List.map_append]
      exact List.nodup_append.mpr ⟨G.nd, by simp, fun a ha b hb e => z (by
        rw [List.map_cons, List.map_nil] at hb
        rw [List.mem_singleton.mp hb] at e
        have e : a = afterS w h t p0 r := e
        rw [← e]; exact ha)⟩
    · rcases List.mem_append.mp hy with y1 | y1
      · exact G.el y y1
      · rw [List.mem_singleton.mp y1]; exact ⟨rfl, hr⟩
theorem fold_good {R : List Dd → Prop} : ∀ {L : List (List Dd)} {acc : List (List Int × List Dd)}, Good w h t p0 R acc → (∀ r ∈ L, R r) → Good w h t p0 R (L.foldl (addR w h t p0) acc)
  | [], _, G, _ => G
  | r :: L, acc, G, hr => fold_good (L := L) (addR_good G (hr r List.mem_cons_self)) fun q hq => hr q (List.mem_cons_of_mem _ hq)
theorem fd_good (k : Nat) : Good w h t p0 (fun r => r ∈ rowsS cs k) (fdS w h t p0 cs k) := fold_good ⟨List.nodup_nil, (fun _ h => nomatch h)⟩ fun _ h => h
theorem fd_has {k : Nat} {r : List Dd} (hr : r ∈ rowsS cs k) : afterS w h t p0 r ∈ kys (fdS w h t p0 cs k) := fold_has hr
theorem fd_succ (k : Nat) : fdS w h t p0 cs (k + 1) = (lvlS cs (k + 1)).foldl (addR w h t p0) (fdS w h t p0 cs k) := by
  unfold fdS
  show (rowsS cs k ++ lvlS cs (k + 1)).foldl _ _ = _
  rw [List.foldl_append]
theorem lvl_fold (k : Nat) (acc : List (List Int × List Dd)) : (lvlS cs (k + 1)).foldl (addR w h t p0) acc = (lvlS cs k).foldl (expR w h t p0 cs) acc := by
  show ((lvlS cs k).flatMap (ext1 cs)).foldl _ _ = _
  have go : ∀ (L : List (List Dd)) (acc : List (List Int × List Dd)), (L.flatMap (ext1 cs)).foldl (addR w h t p0) acc = L.foldl (expR w h t p0 cs) acc := by
    intro L
    induction L with
    | nil => intro acc; rfl
    | cons r L ih =>
      intro acc
      rw [List.flatMap_cons, List.foldl_append, ih, List.foldl_cons]
      congr 1
      unfold ext1 expR
      rw [List.foldl_map]
  exact go _ _
theorem exp_pre (acc : List (List Int × List Dd)) (r : List Dd) : ∃ X, expR w h t p0 cs acc r = acc ++ X := by
  have : expR w h t p0 cs acc r = (ext1 cs r).foldl (addR w h t p0) acc := by unfold ext1 expR; rw [List.foldl_map]
  rw [this]
  exact fold_pre _ _
theorem exp_has {acc : List (List Int × List Dd)} {r : List Dd} {d : Dd} (hd : d ∈ cs) : doneS w h t (afterS w h t p0 r) d ∈ kys (expR w h t p0 cs acc r) := by
  have : expR w h t p0 cs acc r = (ext1 cs r).foldl (addR w h t p0) acc := by unfold ext1 expR; rw [List.foldl_map]
  rw [this, ← after_snoc]
  exact fold_has (List.mem_map.mpr ⟨d, hd, rfl⟩)
theorem exp_none {acc : List (List Int × List Dd)} {r : List Dd} (hc : ∀ d ∈ cs, doneS w h t (afterS w h t p0 r) d ∈ kys acc) : expR w h t p0 cs acc r = acc := by
  unfold expR
  induction cs with
  | nil => rfl
  | cons d ds ih =>
    rw [List.foldl_cons]
    have e : addR w h t p0 acc (r ++ [d]) = acc := by
      unfold addR
      rw [after_snoc, if_pos (hc d List.mem_cons_self)]
    rw [e]
    exact ih fun e he => hc e (List.mem_cons_of_mem _ he)
theorem kept_fold : ∀ (L : List (List Dd)) (D acc : List (List Int × List Dd)), (∀ q ∈ kys D, ∀ d ∈ cs, doneS w h t q d ∈ kys acc) → L.foldl (expR w h t p0 cs) acc = (keptL w h t p0 D L).foldl (expR w h t p0 cs) acc
  | [], D, acc, _ => by simp [keptL]
  | r :: L, D, acc, hc => by
    by_cases z : afterS w h t p0 r ∈ kys D
    · have e1 : addR w h t p0 D r = D := by unfold addR; rw [if_pos z]
      have e2 : keptL w h t p0 D (r :: L) = keptL w h t p0 D L := by unfold keptL; rw [List.foldl_cons, e1]
      rw [e2, List.foldl_cons, exp_none (hc _ z)]
      exact kept_fold L D acc hc
    · have e1 : addR w h t p0 D r = D ++ [(afterS w h t p0 r, r)] := by unfold addR; rw [if_neg z]
      have e2 : keptL w h t p0 D (r :: L) = r :: keptL w h t p0 (D ++ [(afterS w h t p0 r, r)]) L := by
        unfold keptL
        rw [List.foldl_cons, e1]
        obtain ⟨X, e⟩ := fold_pre (w := w) (h := h) (t := t) (p0 := p0) L (D ++ [(afterS w h t p0 r, r)])
        rw [e, List.drop_left, List.append_assoc, List.drop_left]
        rfl
      rw [e2, List.foldl_cons, List.foldl_cons]
      obtain ⟨X, e⟩ := exp_pre (w := w) (h := h) (t := t) (p0 := p0) (cs := cs) acc r
      refine kept_fold L _ _ fun q hq d hd => ?_
      unfold kys at hq
      rw [List.map_append] at hq
      rcases List.mem_append.mp hq with q1 | q1
      · exact pre_kys e (hc q q1 d hd)
      · rw [List.map_cons, List.map_nil] at q1
        rw [List.mem_singleton.mp q1]
        exact exp_has hd
theorem snoc_lvl {r : List Dd} {d : Dd} (hd : d ∈ cs) {k : Nat} (hr : r ∈ lvlS cs k) : r ++ [d] ∈ lvlS cs (k + 1) := List.mem_flatMap.mpr ⟨r, hr, List.mem_map.mpr ⟨d, hd, rfl⟩⟩
theorem snoc_rows {r : List Dd} {d : Dd} (hd : d ∈ cs) : ∀ {k : Nat}, r ∈ rowsS cs k → r ++ [d] ∈ rowsS cs (k + 1)
  | 0, hr => List.mem_append_right _ (snoc_lvl hd hr)
  | k + 1, hr => by
    rcases List.mem_append.mp hr with z | z
    · exact List.mem_append_left _ (snoc_rows hd z)
    · exact List.mem_append_right _ (snoc_lvl hd z)
theorem fd_closed {k : Nat} {q : List Int} (hq : q ∈ kys (fdS w h t p0 cs k)) {d : Dd} (hd : d ∈ cs) : doneS w h t q d ∈ kys (fdS w h t p0 cs (k + 1)) := by
  obtain ⟨z, hz, rfl⟩ := List.mem_map.mp hq
  obtain ⟨e, hr⟩ := (fd_good k).el z hz
  rw [e, ← after_snoc]
  exact fd_has (snoc_rows hd hr)
/-- a level is made of the one ahead's kept rows -/
theorem fd_step (k : Nat) : fdS w h t p0 cs (k + 1) = (hereS w h t p0 cs k).foldl (expR w h t p0 cs) (fdS w h t p0 cs k) := by
  rw [fd_succ, lvl_fold]
  cases k with
  | zero => rfl
  | succ k => exact kept_fold (lvlS cs (k + 1)) (fdS w h t p0 cs k) _ fun q hq d hd => fd_closed hq hd
theorem here_succ (k : Nat) : hereS w h t p0 cs (k + 1) = ((fdS w h t p0 cs (k + 1)).drop (fdS w h t p0 cs k).length).map (·.2) := by
  show keptL w h t p0 _ _ = _
  unfold keptL
  rw [← fd_succ]
theorem here_in {k : Nat} {r : List Dd} (hr : r ∈ hereS w h t p0 cs k) : (afterS w h t p0 r, r) ∈ fdS w h t p0 cs k := by
  cases k with
  | zero =>
    rw [List.mem_singleton.mp hr]
    show _ ∈ [[]].foldl (addR w h t p0) []
    simp [addR, afterS]
  | succ k =>
    rw [here_succ] at hr
    obtain ⟨z, hz, rfl⟩ := List.mem_map.mp hr
    have hz := List.mem_of_mem_drop hz
    have := ((fd_good (k + 1)).el z hz).1
    rw [← this]
    exact hz
/-- nothing new: nothing more -/
theorem fd_end {k : Nat} (e : hereS w h t p0 cs k = []) : ∀ m, fdS w h t p0 cs (k + m) = fdS w h t p0 cs k
  | 0 => rfl
  | m + 1 => by
    have ih := fd_end e m
    -- closed
    have cl : ∀ q ∈ kys (fdS w h t p0 cs k), ∀ d ∈ cs, doneS w h t q d ∈ kys (fdS w h t p0 cs k) := fun q hq d hd => by
      have := fd_closed hq hd
      rw [fd_step, e] at this
      exact this
    show fdS w h t p0 cs (k + m + 1) = _
    rw [fd_succ, ih]
    have go : ∀ (L : List (List Dd)), (∀ r ∈ L, afterS w h t p0 r ∈ kys (fdS w h t p0 cs k)) → L.foldl (addR w h t p0) (fdS w h t p0 cs k) = fdS w h t p0 cs k := by
      intro L
      induction L with
      | nil => intro _; rfl
      | cons r L ih =>
        intro hL
        rw [List.foldl_cons]
        have : addR w h t p0 (fdS w h t p0 cs k) r = fdS w h t p0 cs k := by unfold addR; rw [if_pos (hL r List.mem_cons_self)]
        rw [this]
        exact ih fun q hq => hL q (List.mem_cons_of_mem _ hq)
    refine go _ fun r hr => ?_
    obtain ⟨q, hq, hr⟩ := List.mem_flatMap.mp hr
    obtain ⟨d, hd, rfl⟩ := List.mem_map.mp hr
    rw [after_snoc]
    have h2 : afterS w h t p0 q ∈ kys (fdS w h t p0 cs (k + m)) := by
      have hm : ∀ {j : Nat} {r : List Dd}, r ∈ lvlS cs j → r ∈ rowsS cs j := fun {j r} hr => by
        cases j with
        | zero => exact hr
        | succ j => exact List.mem_append_right _ hr
      exact fd_has (hm hq)
    rw [ih] at h2
    exact cl _ h2 d hd
theorem fd_prefix (k m : Nat) : ∃ X, fdS w h t p0 cs (k + m) = fdS w h t p0 cs k ++ X := by
  induction m with
  | zero => exact ⟨[], by simp⟩
  | succ m ih =>
    obtain ⟨X, e⟩ := ih
    show ∃ X, fdS w h t p0 cs (k + m + 1) = _
    rw [fd_succ, e]
    obtain ⟨Y, e2⟩ := fold_pre (w := w) (h := h) (t := t) (p0 := p0) (lvlS cs (k + m + 1)) (fdS w h t p0 cs k ++ X)
    exact ⟨X ++ Y, by rw [e2, List.append_assoc]⟩
/-! ### the dict -/
abbrev dicR (acc : List (List Int × List Dd)) : D := .dict ((.none, .none) :: acc.map fun z => (pic z.1, rowE z.2))
def lookR (acc : List (List Int × List Dd)) (q : List Int) : Option (List Dd) := (acc.find? fun z => decide (z.1 = q)).map (·.2)
theorem look_R (q : List Int) : ∀ acc : List (List Int × List Dd), lookD (acc.map fun z => (pic z.1, rowE z.2)) (pic q) = (lookR acc q).map rowE
  | [] => rfl
  | z :: acc => by
    show cond (PyData.eqv (pic z.1) (pic q)) (some (rowE z.2)) (lookD (acc.map fun z => (pic z.1, rowE z.2)) (pic q)) = _
    rw [eqv_pic, look_R q acc]
    unfold lookR
    by_cases y : z.1 = q
    · rw [decide_eq_true y, List.find?_cons_of_pos (by simp [y])]; rfl
    · rw [decide_eq_false y, List.find?_cons_of_neg (by simp [y])]; rfl
theorem lookR_of {acc : List (List Int × List Dd)} (nd : (kys acc).Nodup) {q : List Int} {r : List Dd} (hz : (q, r) ∈ acc) : lookR acc q = some r := by
  induction acc with
  | nil => cases hz
  | cons z acc ih =>
    unfold lookR
    obtain ⟨n1, n2⟩ := List.nodup_cons.mp (show (z.1 :: kys acc).Nodup from nd)
    rcases List.mem_cons.mp hz with e | e
    · rw [← e, List.find?_cons_of_pos (by simp)]; rfl
    · have : ¬ z.1 = q := fun y => n1 (by rw [y]; exact List.mem_map.mpr ⟨_, e, rfl⟩)
      rw [List.find?_cons_of_neg (by simp [this])]
      exact ih n2 e
theorem lookR_some {acc : List (List Int × List Dd)} {q : List Int} : (lookR acc q).isSome = decide (q ∈ kys acc) := by
  unfold lookR
  rw [Option.isSome_map, Bool.eq_iff_iff, List.find?_isSome, decide_eq_true_eq, List.mem_map]
  simp
theorem in_R (q : List Int) (acc : List (List Int × List Dd)) : inD (pic q) (dicR acc) = some (decide (q ∈ kys acc)) := by
  show (cond (tupK (pic q)) (some (lookD (acc.map fun z => (pic z.1, rowE z.2)) (pic q))) none).map (·.isSome) = _
  rw [pic_key.tup, look_R, ← lookR_some]
  show some ((lookR acc q).map rowE).isSome = _
  rw [Option.isSome_map]
theorem idx_R {q : List Int} {r : List Dd} {acc : List (List Int × List Dd)} (e : lookR acc q = some r) : idxD (dicR acc) (pic q) = some (rowE r) := by
  show ((cond (tupK (pic q)) (some (lookD (acc.map fun z => (pic z.1, rowE z.2)) (pic q))) none).bind id) = _
  rw [pic_key.tup, look_R, e]
  rfl
theorem get_R (q : List Int) (acc : List (List Int × List Dd)) : mtD .get1 (dicR acc) [pic q] = some (optR (lookR acc q)) := by
  show (cond (tupK (pic q)) (some (lookD (acc.map fun z => (pic z.1, rowE z.2)) (pic q))) none).map (fun o => o.getD .none) = _
  rw [pic_key.tup, look_R]
  cases lookR acc q <;> rfl
theorem any_R (q : List Int) : ∀ acc : List (List Int × List Dd), q ∉ kys acc → ((acc.map fun z => (pic z.1, rowE z.2)).any fun kv => PyData.eqv kv.1 (pic q)) = false
  | [], _ => rfl
  | z :: acc, hq => by
    rw [List.map_cons, List.any_cons, any_R q acc fun y => hq (List.mem_cons_of_mem _ y)]
    show (PyData.eqv (pic z.1) (pic q) || false) = false
    rw [eqv_pic, decide_eq_false fun e => hq (by rw [← e]; exact List.mem_cons_self)]
    rfl
theorem stk_R {q : List Int} {acc : List (List Int × List Dd)} (hl : acc.length ≤ 100000) (hq : q ∉ kys acc) (r : List Dd) : stkS (.own (dicR acc)) (pic q) (rowE r) = some (.own (dicR (acc ++ [(q, r)]))) := by
  show cond (decide (((PyData.none, PyData.none) :: acc.map fun z => (pic z.1, rowE z.2)).length < lim)) ((gd (tupK (pic q)) ((PyData.none, PyData.none) :: storeD (acc.map fun z => (pic z.1, rowE z.2)) (pic q) (rowE r))).map fun r => PI.Slot.own (.dict r)) none = _
  rw [decide_eq_true (by rw [List.length_cons, List.length_map]; unfold lim; omega), pic_key.tup]
  unfold storeD
  rw [any_R q acc hq, show dicR (acc ++ [(q, r)]) = .dict ((.none, .none) :: ((acc.map fun z => (pic z.1, rowE z.2)) ++ [(pic q, rowE r)])) from by unfold dicR; rw [List.map_append]; rfl]
  rfl
end M
end
section
/-! Plain mathematics: rows_from, way_to. -/
namespace M
open PySem PI PG
variable {w h t : Int}
variable {p0 : List Int} {cs : List Dd}
theorem kys_in (W : WOk w h t) (P : POk w h t p0) {acc : List (List Int × List Dd)} (G : Good w h t p0 (RowOk w h) acc) : ∀ q ∈ kys acc, q ∈ picsS w h t := fun q hq => by
  obtain ⟨z, hz, rfl⟩ := List.mem_map.mp hq
  obtain ⟨e, hr⟩ := G.el z hz
  rw [e]
  exact (pics_mem W).mpr (after_ok W P hr)
theorem good_len (W : WOk w h t) (P : POk w h t p0) {acc : List (List Int × List Dd)} (G : Good w h t p0 (RowOk w h) acc) : acc.length ≤ (picsS w h t).length := by
  have := sub_len G.nd (pics_nodup W) (kys_in W P G)
  unfold kys at this
  rw [List.length_map] at this
  exact this
theorem rows_ok (C : ChOk w h cs) {k : Nat} {r : List Dd} (hr : r ∈ rowsS cs k) : RowOk w h r := fun d hd => C.ok d ((rows_mem hr).2 d hd)
theorem fd_goodR (C : ChOk w h cs) (k : Nat) : Good w h t p0 (RowOk w h) (fdS w h t p0 cs k) := ⟨(fd_good k).nd, fun z hz => ⟨((fd_good k).el z hz).1, rows_ok C ((fd_good k).el z hz).2⟩⟩
theorem exp_good {acc : List (List Int × List Dd)} {r : List Dd} (G : Good w h t p0 (RowOk w h) acc) (hr : RowOk w h r) (hc : RowOk w h cs) : Good w h t p0 (RowOk w h) (expR w h t p0 cs acc r) := by
  have : expR w h t p0 cs acc r = (ext1 cs r).foldl (addR w h t p0) acc := by unfold ext1 expR; rw [List.foldl_map]
  rw [this]
  refine fold_good G fun q hq => ?_
  obtain ⟨d, hd, rfl⟩ := List.mem_map.mp hq
  exact rowOk_app hr (rowOk_one (hc d hd))
abbrev frBody : Ss := match B_rows_from with | .cons _ (.cons _ (.cons (.whl _ ss) _)) => ss | _ => .nil
abbrev frFor : Ss := match frBody with | .cons _ (.cons (.for _ _ ss) _) => ss | _ => .nil
abbrev frIn : Ss := match frFor with | .cons (.for _ _ ss) _ => ss | _ => .nil
abbrev newL (n0 : Nat) (acc : List (List Int × List Dd)) : D := .list ((acc.drop n0).map fun z => pic z.1)
theorem in_loop (W : WOk w h t) (P : POk w h t p0) (s1 s2 s4 : PI.Slot) {r : List Dd} (hr : RowOk w h r) (hl : r.length ≤ 300) (n0 : Nat) : ∀ (ds : List Dd) (acc : List (List Int × List Dd)) (s7 s8 : PI.Slot), RowOk w h ds → Good w h t p0 (RowOk w h) acc → (afterS w h t p0 r, r) ∈ acc → n0 ≤ acc.length →
    ∃ s7' s8', forGo (fun x env => Rs.lf (patSet (.nm 7) x env) fun env' => evSs 400 frIn env') (ds.map encD) [.val (wd w h t), s1, s2, .own (dicR acc), s4, .own (newL n0 acc), .val (pic (afterS w h t p0 r)), s7, s8] =
      .nx [.val (wd w h t), s1, s2, .own (dicR (expR w h t p0 ds acc r)), s4, .own (newL n0 (expR w h t p0 ds acc r)), .val (pic (afterS w h t p0 r)), s7', s8']
  | [], acc, s7, s8, _, _, _, _ => ⟨s7, s8, rfl⟩
  | d :: ds, acc, s7, s8, hd, G, hm, hn => by
    have hdd := hd d List.mem_cons_self
    have G2 := addR_good G (rowOk_app hr (rowOk_one hdd))
    obtain ⟨X, eX⟩ := addR_pre (w := w) (h := h) (t := t) (p0 := p0) acc (r ++ [d])
    obtain ⟨s7', s8', e⟩ := in_loop W P s1 s2 s4 hr hl n0 ds (addR w h t p0 acc (r ++ [d])) (.val (encD d)) (.val (pic (doneS w h t (afterS w h t p0 r) d))) (fun e he => hd e (List.mem_cons_of_mem _ he)) G2 (by rw [eX]; exact List.mem_append_left _ hm) (by rw [eX, List.length_append]; omega)
    refine ⟨s7', s8', ?_⟩
    rw [show expR w h t p0 (d :: ds) acc r = expR w h t p0 ds (addR w h t p0 acc (r ++ [d])) r from rfl, List.map_cons, forGo, ← e]
    have Pa := after_ok W P hr
    have c1 := run_done W Pa.len hdd
    have i1 := in_R (doneS w h t (afterS w h t p0 r) d) acc
    have i2 := idx_R (lookR_of G.nd hm)
    have c2 := cat_row (a := r) (b := [d]) (by rw [List.length_singleton]; omega)
    have e1 : rowE [d] = .tuple [encD d] := rfl
    rw [e1] at c2
    have ln := good_len W P G
    have lp := pics_len W
    unfold addR
    rw [after_snoc]
    by_cases z : doneS w h t (afterS w h t p0 r) d ∈ kys acc
    · rw [if_pos z]
      rw [decide_eq_true z] at i1
      generalize newL n0 acc = NL at *
      generalize dicR acc = DA at *
      generalize pic (doneS w h t (afterS w h t p0 r) d) = x1 at *
      generalize pic (afterS w h t p0 r) = x2 at *
      simp [frIn, frFor, frBody, B_rows_from, c1, i1]
    · rw [if_neg z]
      rw [decide_eq_false z] at i1
      have s1 := stk_R (q := doneS w h t (afterS w h t p0 r) d) (acc := acc) (by omega) z (r ++ [d])
      have a1 := app_of ((acc.drop n0).map fun z => pic z.1) (pic (doneS w h t (afterS w h t p0 r) d)) (by rw [List.length_map, List.length_drop]; unfold lim; omega)
      have e2 : newL n0 (acc ++ [(doneS w h t (afterS w h t p0 r) d, r ++ [d])]) = .list (((acc.drop n0).map fun z => pic z.1) ++ [pic (doneS w h t (afterS w h t p0 r) d)]) := by
        unfold newL
        rw [List.drop_append_of_le_length hn, List.map_append]
        rfl
      rw [e2]
      have ow : ownL (.own (newL n0 acc)) = true := rfl
      generalize hN : ((acc.drop n0).map fun z => pic z.1) = NL at *
      rw [show newL n0 acc = .list NL from by unfold newL; rw [hN]]
      generalize dicR (acc ++ [(doneS w h t (afterS w h t p0 r) d, r ++ [d])]) = DB at *
      generalize dicR acc = DA at *
      generalize pic (doneS w h t (afterS w h t p0 r) d) = x1 at *
      generalize pic (afterS w h t p0 r) = x2 at *
      generalize rowE (r ++ [d]) = x3 at *
      generalize rowE r = x4 at *
      simp [frIn, frFor, frBody, B_rows_from, c1, i1, i2, c2, s1, a1]
theorem out_loop (W : WOk w h t) (P : POk w h t p0) (C : ChOk w h cs) (s2 s4 : PI.Slot) (n0 : Nat) : ∀ (rs : List (List Dd)) (acc : List (List Int × List Dd)) (s6 s7 s8 : PI.Slot), (∀ r ∈ rs, RowOk w h r ∧ r.length ≤ 300 ∧ (afterS w h t p0 r, r) ∈ acc) → Good w h t p0 (RowOk w h) acc → n0 ≤ acc.length →
    ∃ s6' s7' s8', forGo (fun x env => Rs.lf (patSet (.nm 6) x env) fun env' => evSs 400 frFor env') (rs.map fun r => pic (afterS w h t p0 r)) [.val (wd w h t), .val (.list (cs.map encD)), s2, .own (dicR acc), s4, .own (newL n0 acc), s6, s7, s8] =
      .nx [.val (wd w h t), .val (.list (cs.map encD)), s2, .own (dicR (rs.foldl (expR w h t p0 cs) acc)), s4, .own (newL n0 (rs.foldl (expR w h t p0 cs) acc)), s6', s7', s8']
  | [], acc, s6, s7, s8, _, _, _ => ⟨s6, s7, s8, rfl⟩
  | r :: rs, acc, s6, s7, s8, hr, G, hn => by
    obtain ⟨h1, h2, h3⟩ := hr r List.mem_cons_self
    obtain ⟨X, eX⟩ := exp_pre (w := w) (h := h) (t := t) (p0 := p0) (cs := cs) acc r
    obtain ⟨s7', s8', e⟩ := in_loop W P (.val (.list (cs.map encD))) s2 s4 h1 h2 n0 cs acc s7 s8 C.ok G h3 hn
    obtain ⟨s6'', s7'', s8'', e2⟩ := out_loop W P C s2 s4 n0 rs (expR w h t p0 cs acc r) (.val (pic (afterS w h t p0 r))) s7' s8' (fun q hq => by
      obtain ⟨a1, a2, a3⟩ := hr q (List.mem_cons_of_mem _ hq)
      exact ⟨a1, a2, by rw [eX]; exact List.mem_append_left _ a3⟩) (exp_good G h1 C.ok) (by rw [eX, List.length_append]; omega)
    refine ⟨s6'', s7'', s8'', ?_⟩
    rw [List.map_cons, forGo, List.foldl_cons, ← e2]
    generalize newL n0 acc = N1 at *
    generalize newL n0 (expR w h t p0 cs acc r) = N2 at *
    generalize dicR (expR w h t p0 cs acc r) = DB at *
    generalize dicR acc = DA at *
    generalize pic (afterS w h t p0 r) = x2 at *
    simp [frIn, frFor, frBody, B_rows_from] at e
    simp [frFor, frBody, B_rows_from, es_for]
    rw [e]
    simp
theorem here_map (k : Nat) : newL (fdS w h t p0 cs k).length (fdS w h t p0 cs (k + 1)) = .list ((hereS w h t p0 cs (k + 1)).map fun r => pic (afterS w h t p0 r)) := by
  unfold newL
  rw [here_succ, List.map_map]
  congr 1
  refine List.map_congr_left fun z hz => ?_
  have := ((fd_good (k + 1)).el z (List.mem_of_mem_drop hz)).1
  show pic z.1 = pic (afterS w h t p0 z.2)
  rw [this]
theorem here_len {k : Nat} (hn : hereS w h t p0 cs (k + 1) ≠ []) : (fdS w h t p0 cs k).length < (fdS w h t p0 cs (k + 1)).length := by
  have e : (hereS w h t p0 cs (k + 1)).length = (fdS w h t p0 cs (k + 1)).length - (fdS w h t p0 cs k).length := by rw [here_succ, List.length_map, List.length_drop]
  have := List.length_pos_iff.mpr hn
  omega
theorem from_loop (W : WOk w h t) (P : POk w h t p0) (C : ChOk w h cs) (s2 : PI.Slot) : ∀ (n k f : Nat) (s5 s6 s7 s8 : PI.Slot), (picsS w h t).length < n + (fdS w h t p0 cs k).length → k + n ≤ 299 → n + 1 < f →
    ∃ s5' s6' s7' s8', whlGo (evE (.var 4)) (evSs 400 frBody) f [.val (wd w h t), .val (.list (cs.map encD)), s2, .own (dicR (fdS w h t p0 cs k)), .val (.list ((hereS w h t p0 cs k).map fun r => pic (afterS w h t p0 r))), s5, s6, s7, s8] =
      .nx [.val (wd w h t), .val (.list (cs.map encD)), s2, .own (dicR (fdS w h t p0 cs 300)), .val (.list []), s5', s6', s7', s8']
  | 0, k, f, s5, s6, s7, s8, hl, _, _ => by
    have := good_len W P (fd_goodR (w := w) (h := h) (t := t) (p0 := p0) C k)
    omega
  | n + 1, k, f, s5, s6, s7, s8, hl, hk, hf => by
    have stop : ∀ (k f : Nat) (s5 s6 s7 s8 : PI.Slot), k ≤ 300 → hereS w h t p0 cs k = [] → whlGo (evE (.var 4)) (evSs 400 frBody) (f + 1) [.val (wd w h t), .val (.list (cs.map encD)), s2, .own (dicR (fdS w h t p0 cs k)), .val (.list ((hereS w h t p0 cs k).map fun r => pic (afterS w h t p0 r))), s5, s6, s7, s8] =
        .nx [.val (wd w h t), .val (.list (cs.map encD)), s2, .own (dicR (fdS w h t p0 cs 300)), .val (.list []), s5, s6, s7, s8] := fun k f s5 s6 s7 s8 hk e => by
      have := fd_end e (300 - k)
      rw [show k + (300 - k) = 300 by omega] at this
      rw [whlGo, e, this]
      simp
    obtain ⟨g, rfl⟩ : ∃ g, f = g + 1 + 1 := ⟨f - 2, by omega⟩
    by_cases z : hereS w h t p0 cs k = []
    · exact ⟨s5, s6, s7, s8, stop k _ s5 s6 s7 s8 (by omega) z⟩
    · obtain ⟨s6', s7', s8', e⟩ := out_loop W P C s2 (.val (.list ((hereS w h t p0 cs k).map fun r => pic (afterS w h t p0 r)))) (fdS w h t p0 cs k).length (hereS w h t p0 cs k) (fdS w h t p0 cs k) s6 s7 s8 (fun r hr => by
        have m := here_in hr
        have g := (fd_good k).el _ m
        exact ⟨rows_ok C g.2, by have : r.length ≤ k := (rows_mem g.2).1; omega, m⟩) (fd_goodR C k) (Nat.le_refl _)
      rw [← fd_step, here_map] at e
      have nl : newL (fdS w h t p0 cs k).length (fdS w h t p0 cs k) = .list [] := by unfold newL; rw [List.drop_length]; rfl
      rw [nl] at e
      have hne : ((hereS w h t p0 cs k).map fun r => pic (afterS w h t p0 r)).isEmpty = false := by
        cases hh : hereS w h t p0 cs k with
        | nil => exact absurd hh z
        | cons _ _ => rfl
      have st : ∀ f', whlGo (evE (.var 4)) (evSs 400 frBody) (f' + 1) [.val (wd w h t), .val (.list (cs.map encD)), s2, .own (dicR (fdS w h t p0 cs k)), .val (.list ((hereS w h t p0 cs k).map fun r => pic (afterS w h t p0 r))), s5, s6, s7, s8] =
          whlGo (evE (.var 4)) (evSs 400 frBody) f' [.val (wd w h t), .val (.list (cs.map encD)), s2, .own (dicR (fdS w h t p0 cs (k + 1))), .val (.list ((hereS w h t p0 cs (k + 1)).map fun r => pic (afterS w h t p0 r))), .val (.list ((hereS w h t p0 cs (k + 1)).map fun r => pic (afterS w h t p0 r))), s6', s7', s8'] := fun f' => by
        rw [whlGo]
        generalize (hereS w h t p0 cs (k + 1)).map (fun r => pic (afterS w h t p0 r)) = H2 at *
        generalize (hereS w h t p0 cs k).map (fun r => pic (afterS w h t p0 r)) = H1 at *
        generalize dicR (fdS w h t p0 cs (k + 1)) = D2 at *
        generalize dicR (fdS w h t p0 cs k) = D1 at *
        simp [frFor, frBody, B_rows_from, es_for] at e
        simp [frBody, B_rows_from, hne, es_for]
        rw [e]
        simp
      rw [st]
      by_cases z2 : hereS w h t p0 cs (k + 1) = []
      · exact ⟨_, _, _, _, stop (k + 1) g _ _ _ _ (by omega) z2⟩
      · have := here_len z2
        exact from_loop W P C s2 n (k + 1) (g + 1) _ _ _ _ (by omega) (by omega) (by omega)
theorem run_rows_from (W : WOk w h t) (P : POk w h t p0) (C : ChOk w h cs) : F_rows_from [wd w h t, .list (cs.map encD), pic p0] = .ok (dicR (fdS w h t p0 cs 300)) := by
  refine fn_run rfl ?_
  have e0 : fdS w h t p0 cs 0 = [(p0, [])] := by
    show [[]].foldl (addR w h t p0) [] = _
    simp [addR, afterS]
  have l256 := pics_256 W
  obtain ⟨s5, s6, s7, s8, e⟩ := from_loop W P C (.val (pic p0)) 257 0 400 .emp .emp .emp .emp (by rw [e0]; simp; omega) (by decide) (by decide)
  rw [show (hereS w h t p0 cs 0).map (fun r => pic (afterS w h t p0 r)) = [pic p0] from rfl, e0, show dicR [(p0, [])] = .dict [(.none, .none), (pic p0, .tuple [])] from rfl] at e
  have d0 : dctP [pic p0, .tuple []] [(.none, .none)] = some [(.none, .none), (pic p0, .tuple [])] := by
    show (gd (tupK (pic p0)) ((PyData.none, PyData.none) :: storeD [] (pic p0) (.tuple []))).bind (dctP []) = _
    rw [pic_key.tup]
    rfl
  generalize dicR (fdS w h t p0 cs 300) = DD at *
  generalize pic p0 = x1 at *
  simp [frBody, B_rows_from, es_for] at e
  simp [B_rows_from, startE, d0, es_whl]
  rw [e]
  simp
def wayS (w h t : Int) (p0 : List Int) (cs : List Dd) (q : List Int) : Option (List Dd) := lookR (fdS w h t p0 cs 300) q
theorem run_way_to (W : WOk w h t) (P : POk w h t p0) (C : ChOk w h cs) {q : List Int} (Q : POk w h t q) : F_way_to [wd w h t, .list (cs.map encD), pic p0, pic q] = .ok (optR (wayS w h t p0 cs q)) := by
  refine fn_run rfl ?_
  have c1 := run_look_choice W C
  have c2 := run_look_picture W P
  have c3 := run_look_picture W Q
  have c4 := run_rows_from W P C
  have c5 := get_R q (fdS w h t p0 cs 300)
  have c6 : mtFits .get1 (dicR (fdS w h t p0 cs 300)) = true := rfl
  rw [show lookR (fdS w h t p0 cs 300) q = wayS w h t p0 cs q from rfl] at c5
  generalize dicR (fdS w h t p0 cs 300) = DD at *
  simp only [pic] at c2 c3 c4 c5
  simp [B_way_to, startE, c1, c2, c3, c4, c5, c6]
theorem look_fold (q : List Int) : ∀ (L : List (List Dd)) (acc : List (List Int × List Dd)), lookR (L.foldl (addR w h t p0) acc) q = (lookR acc q).or (L.find? fun r => decide (afterS w h t p0 r = q))
  | [], acc => by simp
  | r :: L, acc => by
    rw [List.foldl_cons, look_fold q L]
    have ap : ∀ A B : List (List Int × List Dd), lookR (A ++ B) q = (lookR A q).or (lookR B q) := fun A B => by
      unfold lookR
      rw [List.find?_append]
      cases A.find? fun z => decide (z.1 = q) <;> rfl
    unfold addR
    by_cases z : afterS w h t p0 r ∈ acc.map (·.1)
    · rw [if_pos z]
      by_cases y : afterS w h t p0 r = q
      · have : (lookR acc q).isSome = true := by rw [lookR_some]; exact decide_eq_true (y ▸ z)
        obtain ⟨x, hx⟩ := Option.isSome_iff_exists.mp this
        rw [hx]
        rfl
      · rw [List.find?_cons_of_neg (by simp [y])]
    · rw [if_neg z, ap]
      by_cases y : afterS w h t p0 r = q
      · rw [List.find?_cons_of_pos (by simp [y])]
        have : lookR [(afterS w h t p0 r, r)] q = some r := by unfold lookR; rw [List.find?_cons_of_pos (by simp [y])]; rfl
        rw [this]
        cases lookR acc q <;> rfl
      · rw [List.find?_cons_of_neg (by simp [y])]
        have : lookR [(afterS w h t p0 r, r)] q = none := by unfold lookR; rw [List.find?_cons_of_neg (by simp [y])]; rfl
        rw [this]
        cases lookR acc q <;> rfl
theorem look_fd (q : List Int) (k : Nat) : lookR (fdS w h t p0 cs k) q = (rowsS cs k).find? fun r => decide (afterS w h t p0 r = q) := by
  unfold fdS
  rw [look_fold]
  rfl
/-- the first row within three deeds is the way -/
theorem way_first {q : List Int} {k : Nat} (hk : k ≤ 300) {r : List Dd} (e : (rowsS cs k).find? (fun r => decide (afterS w h t p0 r = q)) = some r) : wayS w h t p0 cs q = some r := by
  obtain ⟨X, eX⟩ := fd_prefix (w := w) (h := h) (t := t) (p0 := p0) (cs := cs) k (300 - k)
  rw [show k + (300 - k) = 300 by omega] at eX
  unfold wayS
  have e2 := look_fd (w := w) (h := h) (t := t) (p0 := p0) (cs := cs) q k
  rw [e] at e2
  rw [eX]
  unfold lookR at e2 ⊢
  rw [List.find?_append]
  cases hf : (fdS w h t p0 cs k).find? fun z => decide (z.1 = q) with
  | none => rw [hf] at e2; cases e2
  | some y => rw [hf] at e2; exact e2
end M
end
section
/-! Plain mathematics: picks; rows among rows. -/
namespace M
open PySem PI PG
variable {w h t : Int}
def pickG (cs : List Dd) (j : Int) : Dd := cs.getD j.toNat .turn
theorem mem_lvl {cs : List Dd} : ∀ {k : Nat} {r : List Dd}, r.length = k → (∀ d ∈ r, d ∈ cs) → r ∈ lvlS cs k
  | 0, r, hl, _ => by
    have := List.length_eq_zero_iff.mp hl
    subst this
    exact List.mem_singleton_self _
  | k + 1, r, hl, hc => by
    have hne : r ≠ [] := fun e => by rw [e] at hl; cases hl
    have e := List.dropLast_concat_getLast hne
    rw [← e]
    have hd : r.dropLast.length = k := by rw [List.length_dropLast, hl]; rfl
    exact snoc_lvl (hc _ (List.getLast_mem hne)) (mem_lvl hd fun d hd => hc d (List.dropLast_subset r hd))
theorem lvl_rows {cs : List Dd} {j : Nat} : ∀ {k : Nat}, j ≤ k → ∀ {r : List Dd}, r ∈ lvlS cs j → r ∈ rowsS cs k
  | 0, hj, r, hr => by
    have : j = 0 := by omega
    subst this
    exact hr
  | k + 1, hj, r, hr => by
    by_cases z : j = k + 1
    · subst z; exact List.mem_append_right _ hr
    · exact List.mem_append_left _ (lvl_rows (by omega) hr)
theorem mem_rows {cs : List Dd} {k : Nat} {r : List Dd} (hl : r.length ≤ k) (hc : ∀ d ∈ r, d ∈ cs) : r ∈ rowsS cs k := lvl_rows hl (mem_lvl rfl hc)
end M
end
section
/-! Plain mathematics: windows' algebra. -/
namespace M
open PySem PI PG
variable {w h t : Int}
/-! pictures, cell by cell -/
def leP (w h : Int) (p q : List Int) : Prop := ∀ c, 0 ≤ c ∧ c < w * h → atP p c ≤ atP q c
/-! the other way about -/
def backW (w h : Int) (s : Int × Int) : Int × Int := ((w - s.1) % w, (h - s.2) % h)
def backS (w h : Int) (ws : List (Int × Int)) : List (Int × Int) := sortSt (ws.map (backW w h))
abbrev openR (w h : Int) (ws : List (Int × Int)) : List Dd := [.ext false ws, .ext true (backS w h ws)]
abbrev closeR (w h : Int) (ws : List (Int × Int)) : List Dd := [.ext true ws, .ext false (backS w h ws)]
end M
end
section
/-! Plain mathematics: the law's sums of windows. -/
namespace M
open PySem PI PG
variable {w h t : Int}
def row2 (s : Int × Int) : List Int := [s.1, s.2]
def allSums (w h : Int) (ws vs : List (Int × Int)) : List (Int × Int) := ws.flatMap fun a => vs.map (sumSt w h a)
end M
end
section
/-! Tools: an evaluation that goes no further than it must (by names of its own for simp). -/
namespace M
open PySem PI PG
variable {w h t : Int}
def re (e : E) (env : En) : R D := evE e env
def rl (es : Es) (env : En) : R (List D) := evEs es env
def ro (o : Eo) (env : En) : R (Option Int) := evEo o env
def ri (it : It) (env : En) : R (List D) := evIt it env
def ru (n : Nat) (ss : Ss) (env : En) : Rs := evSs n ss env
def rs (n : Nat) (s : S) (env : En) : Rs := evS n s env
def thn (r : Rs) (n : Nat) (ss : Ss) : Rs := Rs.bind r fun env' => evSs n ss env'
def ifS (r : Option Bool) (n : Nat) (ss tt : Ss) (env : En) : Rs := Rs.lf r fun b => cond b (evSs n ss env) (evSs n tt env)
def ifR (r : R D) (n : Nat) (ss tt : Ss) (env : En) : Rs := Rs.of r env fun x => ifS (truthD x) n ss tt env
def fo (p : Pat) (n : Nat) (ss : Ss) (xs : List D) (env : En) : Rs := forGo (fun x env => Rs.lf (patSet p x env) fun env' => evSs n ss env') xs env
def foR (r : R (List D)) (p : Pat) (n : Nat) (ss : Ss) (env : En) : Rs := Rs.of r env fun xs => fo p n ss xs env
def foB (o : Option En) (n : Nat) (ss : Ss) : Rs := Rs.lf o fun env' => evSs n ss env'
def foT (r : Rs) (p : Pat) (n : Nat) (ss : Ss) (xs : List D) : Rs := Rs.bind r fun env' => fo p n ss xs env'
def wh (f : Nat) (c : E) (n : Nat) (ss : Ss) (env : En) : Rs := whlGo (evE c) (evSs n ss) f env
def whR (r : R D) (f : Nat) (c : E) (n : Nat) (ss : Ss) (env : En) : Rs := Rs.of r env fun x => Rs.lf (truthD x) fun b => cond b (Rs.bind (evSs n ss env) fun env' => whlGo (evE c) (evSs n ss) f env') (.nx env)
def whT (r : Rs) (f : Nat) (c : E) (n : Nat) (ss : Ss) : Rs := Rs.bind r fun env' => whlGo (evE c) (evSs n ss) f env'
def anB (o : Option Bool) (x : D) (b : E) (env : En) : R D := R.bind (lift o) fun t => cond t (evE b env) (.ok x)
def anR (r : R D) (b : E) (env : En) : R D := R.bind r fun x => anB (truthD x) x b env
def orB (o : Option Bool) (x : D) (b : E) (env : En) : R D := R.bind (lift o) fun t => cond t (.ok x) (evE b env)
def orR (r : R D) (b : E) (env : En) : R D := R.bind r fun x => orB (truthD x) x b env
def itB (o : Option Bool) (a b : E) (env : En) : R D := R.bind (lift o) fun t => cond t (evE a env) (evE b env)
def itR (r : R D) (a b : E) (env : En) : R D := R.bind r fun x => itB (truthD x) a b env
section
variable (env : En) (a b c : E) (es ks vs : Es) (n f i : Nat) (s : S) (ss tt : Ss) (p : Pat) (it : It) (d x : D) (xs : List D)
@[simp] theorem re_var : re (.var i) env = lift (valOf (PI.slotAt env i)) := rfl
@[simp] theorem re_bor : re (.bor i) env = lift (borOf (PI.slotAt env i)) := rfl
@[simp] theorem re_con : re (.con d) env = .ok d := rfl
@[simp] theorem re_glb (y : Str) : re (.glb y d) env = .ok d := rfl
@[simp] theorem re_bin (o : BOp) : re (.bin o a b) env = R.bind (re a env) fun x => R.bind (re b env) fun y => lift (binD o x y) := rfl
@[simp] theorem re_neg : re (.neg a) env = R.bind (re a env) fun x => lift (negD x) := rfl
@[simp] theorem re_not : re (.not a) env = R.bind (re a env) fun x => R.bind (lift (truthD x)) fun t => .ok (.bool (!t)) := rfl
@[simp] theorem re_and : re (.and a b) env = anR (re a env) b env := rfl
@[simp] theorem re_or : re (.or a b) env = orR (re a env) b env := rfl
@[simp] theorem re_cmp (o : COp) : re (.cmp o a b) env = R.bind (re a env) fun x => R.bind (re b env) fun y => R.bind (lift (cmpD o x y)) fun r => .ok (.bool r) := rfl
@[simp] theorem re_chain (o o' : COp) : re (.chain o o' a b c) env = R.bind (re a env) fun x => R.bind (re b env) fun y => R.bind (lift (cmpD o x y)) fun r => cond r (R.bind (re c env) fun z => R.bind (lift (cmpD o' y z)) fun r' => .ok (.bool r')) (.ok (.bool false)) := rfl
@[simp] theorem re_ite : re (.ite c a b) env = itR (re c env) a b env := rfl
@[simp] theorem re_tup : re (.tup es) env = R.bind (rl es env) fun ds => .ok (.tuple ds) := rfl
@[simp] theorem re_lst : re (.lst es) env = R.bind (rl es env) fun ds => .ok (.list ds) := rfl
@[simp] theorem re_dct (k : Bool) : re (.dct k es) env = R.bind (rl es env) fun ds => R.bind (lift (dctP ds (cond k [(.none, .none)] []))) fun kvs => .ok (.dict kvs) := rfl
@[simp] theorem re_idx : re (.idx a b) env = R.bind (re a env) fun x => R.bind (re b env) fun y => lift (idxD x y) := rfl
@[simp] theorem re_slc (lo hi : Eo) : re (.slc a lo hi) env = R.bind (re a env) fun x => R.bind (ro lo env) fun l => R.bind (ro hi env) fun h => lift (sliceD x l h) := rfl
@[simp] theorem re_rev : re (.rev a) env = R.bind (re a env) fun x => lift (revD x) := rfl
@[simp] theorem re_call (y : Str) (g : List D → R D) : re (.call y g es) env = R.bind (rl es env) g := rfl
@[simp] theorem re_bi (t : Bi) : re (.bi t es) env = R.bind (rl es env) fun ds => lift (biD t ds) := rfl
@[simp] theorem re_mt (m : Mt) : re (.mt m a es) env = R.bind (re a env) fun x => cond (mtFits m x) (R.bind (rl es env) fun ds => lift (mtD m x ds)) .stuck := rfl
@[simp] theorem re_isI (t : Ty) : re (.isI a t) env = R.bind (re a env) fun x => .ok (.bool (isIn t x)) := rfl
@[simp] theorem re_bad : re .bad env = .stuck := rfl
@[simp] theorem ro_non : ro .non env = .ok none := rfl
@[simp] theorem ro_som : ro (.som a) env = R.bind (re a env) fun x => lift (partD x) := rfl
@[simp] theorem rl_nil : rl .nil env = .ok [] := rfl
@[simp] theorem rl_cons : rl (.cons a es) env = R.bind (re a env) fun x => R.bind (rl es env) fun xs => .ok (x :: xs) := rfl
@[simp] theorem ri_val : ri (.val a) env = R.bind (re a env) fun x => lift (itemsD x) := rfl
@[simp] theorem ri_rng : ri (.rng a) env = R.bind (re a env) fun x => lift (rangeD x) := rfl
@[simp] theorem ri_enm : ri (.enm a) env = R.bind (re a env) fun x => lift (enmD x) := rfl
@[simp] theorem ri_zip : ri (.zip a b) env = R.bind (re a env) fun x => R.bind (re b env) fun y => lift (zipD x y) := rfl
@[simp] theorem ri_zip3 : ri (.zip3 a b c) env = R.bind (re a env) fun x => R.bind (re b env) fun y => R.bind (re c env) fun z => lift (zip3D x y z) := rfl
@[simp] theorem ri_vls : ri (.vls a) env = R.bind (re a env) fun x => lift (valsD x) := rfl
@[simp] theorem rs_own2 (j : Nat) : rs n (.own2 i j a b) env = .of (re a env) env fun x => .of (re b env) env fun y => .nx (setAt (setAt env i (.own x)) j (.val y)) := rfl
@[simp] theorem rs_set : rs n (.set i a) env = .of (re a env) env fun d => .nx (setAt env i (.val d)) := rfl
@[simp] theorem rs_own : rs n (.own i a) env = .of (re a env) env fun d => .nx (setAt env i (.own d)) := rfl
@[simp] theorem rs_unp (is : List Nat) : rs n (.unp is a) env = .of (re a env) env fun d => .lf (patSet (.tp is) d env) .nx := rfl
@[simp] theorem rs_aug (o : BOp) : rs n (.aug i o a) env = .lf (valOf (PI.slotAt env i)) fun x => .of (re a env) env fun y => .lf (augD o x y) fun z => .nx (setAt env i (.val z)) := rfl
@[simp] theorem rs_app : rs n (.app i a) env = cond (ownL (PI.slotAt env i)) (.of (re a env) env fun d => .lf (appS (PI.slotAt env i) d) fun s => .nx (setAt env i s)) .bad := rfl
@[simp] theorem rs_ext : rs n (.ext i a) env = cond (ownL (PI.slotAt env i)) (.of (re a env) env fun d => .lf (extS (PI.slotAt env i) d) fun s => .nx (setAt env i s)) .bad := rfl
@[simp] theorem rs_stk : rs n (.stk i a b) env = cond (isOwn (PI.slotAt env i)) (.of (re b env) env fun y => .of (re a env) env fun x => .lf (stkS (PI.slotAt env i) x y) fun s => .nx (setAt env i s)) .bad := rfl
@[simp] theorem rs_sdf : rs n (.sdf i a b) env = cond (isOwn (PI.slotAt env i)) (.of (re a env) env fun x => .of (re b env) env fun y => .lf (sdfS (PI.slotAt env i) x y) fun s => .nx (setAt env i s)) .bad := rfl
@[simp] theorem rs_exp : rs n (.exp a) env = .of (re a env) env fun _ => .nx env := rfl
@[simp] theorem rs_ret : rs n (.ret a) env = .of (re a env) env .rt := rfl
@[simp] theorem rs_ret0 : rs n .ret0 env = .rt .none := rfl
@[simp] theorem rs_ite : rs n (.ite c ss tt) env = ifR (re c env) n ss tt env := rfl
@[simp] theorem rs_for : rs n (.for p it ss) env = foR (ri it env) p n ss env := rfl
@[simp] theorem rs_whl : rs n (.whl c ss) env = wh n c n ss env := rfl
@[simp] theorem rs_rse (k : Nat) : rs n (.rse k) env = .ex k env := rfl
@[simp] theorem rs_try (hs : List (Nat × Nat × D)) : rs n (.try ss hs) env = (ru n ss env).catch hs := rfl
@[simp] theorem rs_frz : rs n (.frz i) env = .nx (setAt env i (frzS (PI.slotAt env i))) := rfl
@[simp] theorem rs_pas : rs n .pas env = .nx env := rfl
@[simp] theorem ru_nil : ru n .nil env = .nx env := rfl
@[simp] theorem ru_cons : ru n (.cons s ss) env = thn (rs n s env) n ss := rfl
@[simp] theorem thn_nx : thn (.nx env) n ss = ru n ss env := rfl
@[simp] theorem thn_rt : thn (.rt d) n ss = .rt d := rfl
@[simp] theorem thn_ex (k : Nat) : thn (.ex k env) n ss = .ex k env := rfl
@[simp] theorem ifR_ok : ifR (.ok d) n ss tt env = ifS (truthD d) n ss tt env := rfl
@[simp] theorem ifR_exc (k : Nat) : ifR (.exc k) n ss tt env = .ex k env := rfl
@[simp] theorem ifS_t : ifS (some true) n ss tt env = ru n ss env := rfl
@[simp] theorem ifS_f : ifS (some false) n ss tt env = ru n tt env := rfl
@[simp] theorem foR_ok : foR (.ok xs) p n ss env = fo p n ss xs env := rfl
@[simp] theorem foR_exc (k : Nat) : foR (.exc k) p n ss env = .ex k env := rfl
@[simp] theorem foB_some : foB (some env) n ss = ru n ss env := rfl
@[simp] theorem foT_nx : foT (.nx env) p n ss xs = fo p n ss xs env := rfl
@[simp] theorem foT_rt : foT (.rt d) p n ss xs = .rt d := rfl
@[simp] theorem foT_ex (k : Nat) : foT (.ex k env) p n ss xs = .ex k env := rfl
@[simp] theorem whT_nx : whT (.nx env) f c n ss = wh f c n ss env := rfl
@[simp] theorem anR_ok : anR (.ok d) b env = anB (truthD d) d b env := rfl
@[simp] theorem anR_exc (k : Nat) : anR (.exc k) b env = .exc k := rfl
@[simp] theorem anB_t : anB (some true) d b env = re b env := rfl
@[simp] theorem anB_f : anB (some false) d b env = .ok d := rfl
@[simp] theorem orR_ok : orR (.ok d) b env = orB (truthD d) d b env := rfl
@[simp] theorem orR_exc (k : Nat) : orR (.exc k) b env = .exc k := rfl
@[simp] theorem orB_t : orB (some true) d b env = .ok d := rfl
@[simp] theorem orB_f : orB (some false) d b env = re b env := rfl
@[simp] theorem itR_ok : itR (.ok d) a b env = itB (truthD d) a b env := rfl
@[simp] theorem itR_exc (k : Nat) : itR (.exc k) a b env = .exc k := rfl
@[simp] theorem itB_t : itB (some true) a b env = re a env := rfl
@[simp] theorem itB_f : itB (some false) a b env = re b env := rfl
@[simp] theorem ct_nx (hs : List (Nat × Nat × D)) : (Rs.nx env).catch hs = .nx env := rfl
@[simp] theorem ct_rt (hs : List (Nat × Nat × D)) : (Rs.rt d).catch hs = .rt d := rfl
@[simp] theorem ct_ex (k : Nat) (hs : List (Nat × Nat × D)) : (Rs.ex k env).catch hs = catchGo k env hs := rfl
@[simp] theorem cg_nil (k : Nat) : catchGo k env [] = .ex k env := rfl
@[simp] theorem cg_cons (k k' j : Nat) (hs : List (Nat × Nat × D)) : catchGo k env ((k', j, d) :: hs) = cond (k' == k) (.nx (setAt env j (.val d))) (catchGo k env hs) := rfl
end
theorem fn_ru {n ps k : Nat} {b : Ss} {args : List D} {r : R D} (h : args.length = ps) (e : fin (ru n b (startE k args)) = r) : fnD n ps k b args = r := fn_run h e
section
variable {env : En} {e c : E} {p : Pat} {it : It} {own : List Nat} {α : Type} {enc g : α → D} {ys : List α}
theorem re_map (enc g : α → D) (ys : List α) (ho : (own.all fun i => noOwn (PI.slotAt env i)) = true) (hi : ri it env = .ok (ys.map enc))
    (he : ∀ y ∈ ys, ∃ env', patSet p (enc y) (wipeE env own) = some env' ∧ re e env' = .ok (g y)) : re (.lc e p it (.con (.bool true)) own) env = .ok (.list (ys.map g)) := ev_map enc g ys ho hi he
theorem re_filter (enc g : α → D) (q : α → Bool) (ys : List α) (ho : (own.all fun i => noOwn (PI.slotAt env i)) = true) (hi : ri it env = .ok (ys.map enc))
    (he : ∀ y ∈ ys, ∃ env' d, patSet p (enc y) (wipeE env own) = some env' ∧ re c env' = .ok d ∧ truthD d = some (q y) ∧ (q y = true → re e env' = .ok (g y))) : re (.lc e p it c own) env = .ok (.list ((ys.filter q).map g)) := ev_filter enc g q ys ho hi he
theorem re_none (enc : α → D) (ys : List α) (ho : (own.all fun i => noOwn (PI.slotAt env i)) = true) (hi : ri it env = .ok (ys.map enc))
    (he : ∀ y ∈ ys, ∃ env' d, patSet p (enc y) (wipeE env own) = some env' ∧ re c env' = .ok d ∧ truthD d = some false) : re (.lc e p it c own) env = .ok (.list []) := ev_none enc ys ho hi he
end
/-- a loop with an invariant -/
theorem fo_inv {α : Type} {p : Pat} {n : Nat} {ss : Ss} {enc : α → D} (P : List α → En → Prop) (N : Nat) {ys : List α} {env : En} (hl : ys.length ≤ N) (h0 : P [] env)
    (st : ∀ zs y env, y ∈ ys → zs.length < N → P zs env → ∃ env1 env', patSet p (enc y) env = some env1 ∧ ru n ss env1 = .nx env' ∧ P (zs ++ [y]) env') : ∃ env', fo p n ss (ys.map enc) env = .nx env' ∧ P ys env' := by
  have := for_inv (f := fun x env => Rs.lf (patSet p x env) fun env' => evSs n ss env') (enc := enc) P N (ys := ys) (zs := []) (env := env) (by simpa using hl) h0 fun zs y env hy hz hp => by
    obtain ⟨env1, env', h1, h2, h3⟩ := st zs y env hy hz hp
    exact ⟨env', by rw [h1]; exact h2, h3⟩
  rw [List.nil_append] at this
  exact this
/-! zips of pictures -/
end M
end
section
/-! Plain mathematics: checks of things of any kind. -/
namespace M
open PySem PI PG
variable {w h t : Int}
/-- a truth is told: whether P -/
def Says (r : R D) (P : Prop) : Prop := ∃ b, r = .ok (.bool b) ∧ (b = true ↔ P)
theorem Says.imp {r : R D} {P Q : Prop} (s : Says r P) (i : P ↔ Q) : Says r Q := let ⟨b, e, j⟩ := s; ⟨b, e, j.trans i⟩
theorem Says.no {r : R D} {P : Prop} (s : Says r P) (p : ¬ P) : r = .ok (.bool false) := by
  obtain ⟨b, e, j⟩ := s
  cases b with
  | false => exact e
  | true => exact absurd (j.mp rfl) p
/-! whole numbers within bounds -/
def InP (lo hi : Int) (d : D) : Prop := ∃ x, d = .int x ∧ lo ≤ x ∧ x ≤ hi
/-! steps -/
/-! rising -/
end M
end
section
/-! Plain mathematics: deeds, rows, pictures, worlds of any kind. -/
namespace M
open PySem PI PG
variable {w h t : Int}
abbrev good (w h : Int) (d : D) : Prop := ∃ dd, d = encD dd ∧ DdOk w h dd
/-- a text is one that can be -/
def okS (x : Str) : Prop := PyData.strOk x = true
/-- the texts within at the first place, and at the second -/
def OkD : D → Prop
  | .tuple (.str x :: .str y :: _) => okS x ∧ okS y
  | .tuple (.str x :: _) => okS x
  | _ => True
theorem Says.tt {r : R D} {P : Prop} (e : r = .ok (.bool true)) (n : P) : Says r P := ⟨true, e, fun _ => n, fun _ => rfl⟩
/-! rows -/
abbrev goodR (w h : Int) (d : D) : Prop := ∃ ds : List Dd, d = rowE ds ∧ RowOk w h ds ∧ ds.length ≤ 6
def OkR : D → Prop
  | .tuple xs => ∀ x ∈ xs, OkD x
  | _ => True
/-! pictures -/
abbrev goodP (w h t : Int) (d : D) : Prop := ∃ p, d = pic p ∧ POk w h t p
end M
end
section
/-! Plain mathematics: things that can be laid; the law's own checks of things of any kind. -/
namespace M
open PySem PI PG
variable {w h t : Int}
/-- a thing that can be held against others -/
def Lay (n : Nat) (d : D) : Prop := d.canLay0 = true ∧ d.depth ≤ n
theorem Lay.mono {n m : Nat} {d : D} (l : Lay n d) (h : n ≤ m) : Lay m d := ⟨l.1, Nat.le_trans l.2 h⟩
theorem Lay.shaped {n : Nat} {d : D} (l : Lay n d) (h : n ≤ 64) : SeqAt.shaped d = true := shaped_of l.1 (Nat.le_trans l.2 h)
theorem lay_all : ∀ {xs : List D}, PyData.canLayAll0 xs = true → ∀ x ∈ xs, x.canLay0 = true
  | [], _, _, h => nomatch h
  | x :: xs, l, y, hy => by
    simp only [PyData.canLayAll0, Bool.and_eq_true] at l
    rcases List.mem_cons.mp hy with e | e
    · rw [e]; exact l.1
    · exact lay_all l.2 y e
theorem dep_all : ∀ {xs : List D} {x : D}, x ∈ xs → x.depth ≤ PyData.depthAll xs
  | [], _, h => nomatch h
  | x :: xs, y, hy => by
    simp only [PyData.depthAll]
    rcases List.mem_cons.mp hy with e | e
    · rw [e]; omega
    · have := dep_all e; omega
theorem Lay.tup {n : Nat} {xs : List D} (l : Lay (n + 1) (.tuple xs)) : ∀ x ∈ xs, Lay n x := fun x hx => by
  obtain ⟨a, b⟩ := l
  simp only [PyData.canLay0] at a
  simp only [PyData.depth] at b
  have := dep_all hx
  exact ⟨lay_all a x hx, by omega⟩
end M
end
section
/-! Plain mathematics: deeds written. -/
namespace M
open PySem PI PG
variable {w h t : Int}
/-- a figure -/
def dgS (i : Int) : Str := ((toString i : String) : Str)
def sideS (a : Bool) : Str := if a = true then "across" else "down"
def extW (g : Bool) : Str := if g = true then "greatest" else "least"
def celW (l : Bool) : Str := if l = true then "lift" else "mask"
def stpS (s : Int × Int) : Str := dgS s.1 ++ dgS s.2
/-- a deed written -/
def writS : Dd → Str
  | .turn => "turn"
  | .flip a => (("flip " : String) : Str) ++ sideS a
  | .shift x y => (("shift " : String) : Str) ++ dgS x ++ dgS y
  | .ext g ws => extW g ++ ((" " : String) : Str) ++ PySem.Txt.join (("," : String) : Str) (ws.map stpS)
  | .cells l cs => celW l ++ ((" " : String) : Str) ++ PySem.Txt.join (("" : String) : Str) (cs.map dgS)
theorem mt_join (x : Str) : mtFits .join (.str x) = true := rfl
/-- a row written -/
def shownS (ds : List Dd) : Str := PySem.Txt.join (("\n" : String) : Str) (ds.map writS)
end M
end
section
/-! Plain mathematics: worlds of any kind; all pictures of a world that may have too many. -/
namespace M
open PySem PI PG
variable {w h t : Int}
/-! worlds -/
structure WR (w h t : Int) : Prop where
  w : 1 ≤ w ∧ w ≤ 3
  h : 1 ≤ h ∧ h ≤ 2
  t : 1 ≤ t ∧ t ≤ 3
theorem WR.wh {w h t : Int} (W : WR w h t) : 1 ≤ w * h ∧ w * h ≤ 6 := by
  obtain ⟨⟨a, b⟩, ⟨c, d⟩, _⟩ := W
  have : w = 1 ∨ w = 2 ∨ w = 3 := by omega
  rcases this with rfl | rfl | rfl <;> omega
theorem WR.ok {w h t : Int} (W : WR w h t) (few : (t + 1) ^ (w * h).toNat ≤ 256) : WOk w h t := ⟨W.w.1, W.w.2, W.h.1, W.h.2, W.t.1, W.t.2, few⟩
abbrev goodW (d : D) : Prop := ∃ w h t, d = wd w h t ∧ WOk w h t
end M
end
section
/-! Plain mathematics: the words of refusals (law k08). -/
namespace M
open PySem PI PG
variable {w h t : Int}
/-- what a call ends in, as a word -/
def wordE (a b c d : D) : En := [.val a, .val b, .val c, .val d, .val (.str (("" : String) : Str))]
end M
end
section
/-! Plain mathematics: what is reached. -/
namespace M
open PySem PI PG
variable {w h t : Int} {p0 : List Int} {cs : List Dd}
def reachS (w h t : Int) (p0 : List Int) (cs : List Dd) : List (List Int) := kys (fdS w h t p0 cs 300)
theorem fd_fix (W : WOk w h t) (P : POk w h t p0) (C : ChOk w h cs) : ∃ k, k ≤ 299 ∧ hereS w h t p0 cs k = [] := by
  by_cases hx : ∃ k, k ≤ 299 ∧ hereS w h t p0 cs k = []
  · exact hx
  · have hn : ∀ k, k ≤ 299 → hereS w h t p0 cs k ≠ [] := fun k hk e => hx ⟨k, hk, e⟩
    have go : ∀ k, k ≤ 299 → k + 1 ≤ (fdS w h t p0 cs k).length := by
      intro k
      induction k with
      | zero =>
        intro _
        have e0 : fdS w h t p0 cs 0 = [(p0, [])] := by
          show [[]].foldl (addR w h t p0) [] = _
          simp [addR, afterS]
        rw [e0]; exact Nat.le_refl _
      | succ k ih =>
        intro hk
        have := ih (by omega)
        have := here_len (hn (k + 1) hk)
        omega
    have h1 := go 299 (Nat.le_refl _)
    have h2 := good_len W P (fd_goodR (w := w) (h := h) (t := t) (p0 := p0) C 299)
    have h3 := pics_256 W
    omega
theorem fd_300 (W : WOk w h t) (P : POk w h t p0) (C : ChOk w h cs) (m : Nat) : fdS w h t p0 cs (300 + m) = fdS w h t p0 cs 300 := by
  obtain ⟨k, hk, e⟩ := fd_fix W P C
  have h1 := fd_end e (300 + m - k)
  have h2 := fd_end e (300 - k)
  rw [show k + (300 + m - k) = 300 + m by omega] at h1
  rw [show k + (300 - k) = 300 by omega] at h2
  rw [h1, h2]
theorem reach_closed (W : WOk w h t) (P : POk w h t p0) (C : ChOk w h cs) {q : List Int} (hq : q ∈ reachS w h t p0 cs) {d : Dd} (hd : d ∈ cs) : doneS w h t q d ∈ reachS w h t p0 cs := by
  have := fd_closed hq hd
  rw [fd_300 W P C 1] at this
  exact this
theorem reach_self : p0 ∈ reachS w h t p0 cs := fd_has (r := []) (mem_rows (by simp) (by simp))
theorem reach_rows (W : WOk w h t) (P : POk w h t p0) (C : ChOk w h cs) : ∀ {r : List Dd} {q : List Int}, q ∈ reachS w h t p0 cs → (∀ d ∈ r, d ∈ cs) → afterS w h t q r ∈ reachS w h t p0 cs
  | [], q, hq, _ => hq
  | d :: r, q, hq, hr => reach_rows W P C (r := r) (reach_closed W P C hq (hr d List.mem_cons_self)) fun e he => hr e (List.mem_cons_of_mem _ he)
theorem reach_of {q : List Int} (hq : q ∈ reachS w h t p0 cs) : ∃ r, (q, r) ∈ fdS w h t p0 cs 300 ∧ wayS w h t p0 cs q = some r ∧ afterS w h t p0 r = q ∧ (∀ d ∈ r, d ∈ cs) ∧ r.length ≤ 300 := by
  obtain ⟨z, hz, rfl⟩ := List.mem_map.mp hq
  have G := fd_good (w := w) (h := h) (t := t) (p0 := p0) (cs := cs) 300
  obtain ⟨e, hr⟩ := G.el z hz
  obtain ⟨r1, r2⟩ := rows_mem hr
  exact ⟨z.2, hz, lookR_of G.nd hz, e.symm, r2, r1⟩
theorem way_reach {q : List Int} {r : List Dd} (e : wayS w h t p0 cs q = some r) : q ∈ reachS w h t p0 cs := by
  have : (lookR (fdS w h t p0 cs 300) q).isSome = true := by rw [show lookR (fdS w h t p0 cs 300) q = some r from e]; rfl
  rw [lookR_some] at this
  exact of_decide_eq_true this
/-- the way is a shortest -/
theorem way_short {q : List Int} {r s : List Dd} (e : wayS w h t p0 cs q = some r) (hs : ∀ d ∈ s, d ∈ cs) (ha : afterS w h t p0 s = q) : r.length ≤ s.length := by
  obtain ⟨r', _, e', _, _, hl⟩ := reach_of (way_reach e)
  rw [e] at e'
  cases e'
  by_cases z : s.length ≤ 300
  · have hm := mem_rows (Nat.le_refl s.length) hs
    have : ((rowsS cs s.length).find? fun r => decide (afterS w h t p0 r = q)).isSome = true := List.find?_isSome.mpr ⟨s, hm, decide_eq_true ha⟩
    obtain ⟨u, hu⟩ := Option.isSome_iff_exists.mp this
    have := way_first z hu
    rw [e] at this
    cases this
    exact (rows_mem (List.mem_of_find?_eq_some hu)).1
  · omega
theorem way_self : wayS w h t p0 cs p0 = some [] := by
  refine way_first (k := 0) (by decide) ?_
  show List.find? _ [[]] = _
  simp [afterS]
theorem addR_mem {acc : List (List Int × List Dd)} {r : List Dd} {z : List Int × List Dd} (h1 : z ∈ addR w h t p0 acc r) : z ∈ acc ∨ z.2 = r := by
  unfold addR at h1
  split at h1
  · exact .inl h1
  · rcases List.mem_append.mp h1 with h1 | h1
    · exact .inl h1
    · rw [List.mem_singleton.mp h1]; exact .inr rfl
theorem expR_mem (r : List Dd) {z : List Int × List Dd} : ∀ {ds : List Dd} {acc : List (List Int × List Dd)}, z ∈ ds.foldl (fun acc d => addR w h t p0 acc (r ++ [d])) acc → z ∈ acc ∨ ∃ d ∈ ds, z.2 = r ++ [d]
  | [], acc, h1 => .inl h1
  | d :: ds, acc, h1 => by
    rw [List.foldl_cons] at h1
    rcases expR_mem r h1 with h2 | ⟨e, he, q⟩
    · rcases addR_mem h2 with h3 | h3
      · exact .inl h3
      · exact .inr ⟨d, List.mem_cons_self, h3⟩
    · exact .inr ⟨e, List.mem_cons_of_mem _ he, q⟩
theorem exps_mem {z : List Int × List Dd} : ∀ {L : List (List Dd)} {acc : List (List Int × List Dd)}, z ∈ L.foldl (expR w h t p0 cs) acc → z ∈ acc ∨ ∃ r ∈ L, ∃ d, z.2 = r ++ [d]
  | [], acc, h1 => .inl h1
  | r :: L, acc, h1 => by
    rw [List.foldl_cons] at h1
    rcases exps_mem h1 with h2 | ⟨s, hs, q⟩
    · rcases expR_mem r h2 with h3 | ⟨d, _, h3⟩
      · exact .inl h3
      · exact .inr ⟨r, List.mem_cons_self, d, h3⟩
    · exact .inr ⟨s, List.mem_cons_of_mem _ hs, q⟩
theorem fd_pre {z : List Int × List Dd} {r : List Dd} {d : Dd} (e : z.2 = r ++ [d]) : ∀ {k : Nat}, z ∈ fdS w h t p0 cs k → (afterS w h t p0 r, r) ∈ fdS w h t p0 cs k
  | 0, hz => by
    have e0 : fdS w h t p0 cs 0 = [(p0, [])] := by
      show [[]].foldl (addR w h t p0) [] = _
      simp [addR, afterS]
    rw [e0] at hz
    rw [List.mem_singleton.mp hz] at e
    simp at e
  | k + 1, hz => by
    obtain ⟨X, eX⟩ := fd_prefix (w := w) (h := h) (t := t) (p0 := p0) (cs := cs) k 1
    rw [fd_step] at hz
    rcases exps_mem hz with h1 | ⟨s, hs, d', h1⟩
    · rw [eX]; exact List.mem_append_left _ (fd_pre e h1)
    · rw [e] at h1
      have := (List.append_inj' h1 rfl).1
      subst this
      rw [eX]; exact List.mem_append_left _ (here_in hs)
/-- a way's head is a way -/
theorem way_head {q : List Int} {r : List Dd} (e : wayS w h t p0 cs q = some r) (hr : r ≠ []) : wayS w h t p0 cs (afterS w h t p0 r.dropLast) = some r.dropLast := by
  obtain ⟨r', hm, e', _⟩ := reach_of (way_reach e)
  rw [e] at e'
  cases e'
  exact lookR_of (fd_good 300).nd (fd_pre (z := (q, r)) (List.dropLast_concat_getLast hr).symm hm)
/-! ### two starts -/
theorem sub_reach (W : WOk w h t) (P : POk w h t p0) (C : ChOk w h cs) {q : List Int} (hq : q ∈ reachS w h t p0 cs) {x : List Int} (hx : x ∈ reachS w h t q cs) : x ∈ reachS w h t p0 cs := by
  obtain ⟨r, _, _, e, hr, _⟩ := reach_of hx
  rw [← e]
  exact reach_rows W P C hq hr
theorem wide_reach (W : WOk w h t) (P : POk w h t p0) {ds : List Dd} (D : ChOk w h ds) (hs : ∀ d ∈ cs, d ∈ ds) {q : List Int} (hq : q ∈ reachS w h t p0 cs) : q ∈ reachS w h t p0 ds := by
  obtain ⟨r, _, _, e, hr, _⟩ := reach_of hq
  rw [← e]
  exact reach_rows W P D reach_self fun d hd => hs d (hr d hd)
theorem reach_pic (W : WOk w h t) (P : POk w h t p0) (C : ChOk w h cs) {q : List Int} (hq : q ∈ reachS w h t p0 cs) : POk w h t q := (pics_mem W).mp (kys_in W P (fd_goodR C 300) q hq)
theorem reach_nd : (reachS w h t p0 cs).Nodup := by
  have := (fd_good (w := w) (h := h) (t := t) (p0 := p0) (cs := cs) 300).nd
  exact this
/-- a one-to-one map of a list into itself reaches all -/
theorem onto_of {α : Type} [DecidableEq α] {S : List α} {f : α → α} (nd : S.Nodup) (hf : ∀ x ∈ S, f x ∈ S) (inj : ∀ x ∈ S, ∀ y ∈ S, f x = f y → x = y) {y : α} (hy : y ∈ S) : ∃ x ∈ S, f x = y := by
  have n2 : (S.map f).Nodup := by
    refine List.pairwise_map.mpr ?_
    refine nd.imp_of_mem fun {a b} ha hb ne e => ne (inj a ha b hb e)
  have hp := len_sub n2 nd fun x hx => by
    obtain ⟨z, hz, rfl⟩ := List.mem_map.mp hx
    exact hf z hz
  have hl := hp.length_eq
  rw [List.length_map] at hl
  have hall : S.filter (fun y => decide (y ∈ S.map f)) = S := List.filter_eq_self.mpr (by
    have := List.length_filter_eq_length_iff (l := S) (p := fun y => decide (y ∈ S.map f))
    exact this.mp hl.symm)
  have : y ∈ S.filter (fun y => decide (y ∈ S.map f)) := by rw [hall]; exact hy
  have := of_decide_eq_true (List.mem_filter.mp this).2
  obtain ⟨x, hx, e⟩ := List.mem_map.mp this
  exact ⟨x, hx, e⟩
theorem back_free (W : WOk w h t) {q : List Int} (Q : POk w h t q) (C : ChOk w h cs) (hb : ∀ d ∈ cs, isBnd d = false) : ∀ {r : List Dd} {p : List Int}, POk w h t p → (∀ d ∈ r, d ∈ cs) → afterS w h t p r ∈ reachS w h t q cs → p ∈ reachS w h t q cs
  | [], p, _, _, hx => hx
  | d :: r, p, P, hr, hx => by
    have hd := hr d List.mem_cons_self
    have h1 := back_free W Q C hb (r := r) (p := doneS w h t p d) (after_ok W P (ds := [d]) fun e he => by rw [List.mem_singleton.mp he]; exact C.ok d hd) (fun e he => hr e (List.mem_cons_of_mem _ he)) hx
    have len : ∀ x ∈ reachS w h t q cs, (x.length : Int) = w * h := fun x hx => (reach_pic W Q C hx).len
    obtain ⟨x, h2, e⟩ := onto_of reach_nd (fun x hx => reach_closed W Q C hx hd) (fun x hx y hy e => free_inj W (C.ok d hd) (hb d hd) (len x hx) (len y hy) e) h1
    rw [← free_inj W (C.ok d hd) (hb d hd) (len x h2) P.len e]
    exact h2
theorem reach_back (W : WOk w h t) (P : POk w h t p0) (C : ChOk w h cs) (hb : ∀ d ∈ cs, isBnd d = false) {q : List Int} (hq : q ∈ reachS w h t p0 cs) (x : List Int) : x ∈ reachS w h t q cs ↔ x ∈ reachS w h t p0 cs := by
  have Q := reach_pic W P C hq
  refine ⟨fun hx => sub_reach W P C hq hx, fun hx => ?_⟩
  obtain ⟨r, _, _, e, hr, _⟩ := reach_of hq
  have hp : p0 ∈ reachS w h t q cs := back_free W Q C hb (r := r) P hr (by rw [e]; exact reach_self)
  exact sub_reach W Q C hp hx
/-! ### sorted -/
theorem pic_inj {a b : List Int} (e : pic a = pic b) : a = b := by
  have := pic_key.eqv a b
  rw [e, pic_key.eqv b b, decide_eq_true rfl] at this
  exact of_decide_eq_true this.symm
theorem sortR_like {A B : List (List Int)} (hA : A.Nodup) (h : ∀ x, x ∈ A ↔ x ∈ B) : sortR A = sortR B := by
  have h1 := sortR_of (firstsE_perm hA fun _ => Iff.rfl)
  have h2 := sortR_of (as := B) (firstsE_perm hA h)
  rw [h1] at h2
  exact (List.map_inj_right fun x y e => pic_inj e).mp h2
theorem sort_R {acc : List (List Int × List Dd)} (nd : (kys acc).Nodup) (hn : ∀ p ∈ kys acc, p ≠ []) : biD .sorted [dicR acc] = some (.list ((sortR (kys acc)).map pic)) := by
  show sortD ((acc.map fun z => (pic z.1, rowE z.2)).map (·.1)) = _
  rw [List.map_map, show (List.map ((fun z : D × D => z.1) ∘ fun z : List Int × List Dd => (pic z.1, rowE z.2)) acc) = (kys acc).map pic by unfold kys; rw [List.map_map]; rfl]
  exact sort_rows hn (firstsE_perm nd fun _ => Iff.rfl)
end M
end
section
/-! Plain mathematics: runs of what reaches. -/
namespace M
open PySem PI PG
variable {w h t : Int} {p0 : List Int} {cs : List Dd}
abbrev flBody : Ss := match B__law_flood with | .cons _ (.cons (.whl _ ss) _) => ss | _ => .nil
abbrev flFor : Ss := match flBody with | .cons _ (.cons (.for _ _ ss) _) => ss | _ => .nil
abbrev flIn : Ss := match flFor with | .cons (.for _ _ ss) _ => ss | _ => .nil
theorem run_reached (W : WOk w h t) (P : POk w h t p0) (C : ChOk w h cs) : F_reached [wd w h t, .list (cs.map encD), pic p0] = .ok (.list ((sortR (reachS w h t p0 cs)).map pic)) := by
  refine fn_ru rfl ?_
  have c1 := run_look_choice W C
  have c2 := run_look_picture W P
  have c4 := run_rows_from W P C
  have c5 := sort_R (fd_good (w := w) (h := h) (t := t) (p0 := p0) (cs := cs) 300).nd (fun q hq => pok_ne W (reach_pic W P C hq))
  generalize dicR (fdS w h t p0 cs 300) = DD at *
  rw [show kys (fdS w h t p0 cs 300) = reachS w h t p0 cs from rfl] at c5
  generalize (sortR (reachS w h t p0 cs)).map pic = LL at *
  generalize pic p0 = x1 at *
  simp [B_reached, startE, c1, c2, c4, c5]
def lensS (acc : List (List Int × List Dd)) : List Int := acc.map fun z => (z.2.length : Int)
def farL (acc : List (List Int × List Dd)) : List (List Int) := (acc.filter fun z => decide ((z.2.length : Int) = mxI (lensS acc))).map (·.1)
theorem lens_ne (h1 : p0 ∈ reachS w h t p0 cs) : lensS (fdS w h t p0 cs 300) ≠ [] := fun e => by
  unfold lensS at e
  have := List.map_eq_nil_iff.mp e
  unfold reachS at h1
  rw [this] at h1
  cases h1
theorem far_ne {acc : List (List Int × List Dd)} (hn : lensS acc ≠ []) : farL acc ≠ [] := fun e => by
  obtain ⟨z, hz, e2⟩ := List.mem_map.mp (mxI_mem hn)
  have := List.filter_eq_nil_iff.mp (List.map_eq_nil_iff.mp e) z hz
  exact this (decide_eq_true e2)
theorem minD_mem : ∀ (xs : List D) (x : D), _root_.PySem.W.minD x xs ∈ x :: xs
  | [], x => by show x ∈ [x]; exact List.mem_singleton_self _
  | y :: xs, x => by
    show _root_.PySem.W.minD (if _root_.PySem.W.dataLt y x then y else x) xs ∈ _
    have := minD_mem xs (if _root_.PySem.W.dataLt y x then y else x)
    rcases List.mem_cons.mp this with e | e
    · rw [e]
      by_cases z : _root_.PySem.W.dataLt y x = true
      · rw [if_pos z]; simp
      · rw [if_neg z]; simp
    · exact List.mem_cons_of_mem _ (List.mem_cons_of_mem _ e)
theorem min_pics {K : List (List Int)} (hne : K ≠ []) (hn : ∀ p ∈ K, p ≠ []) : ∃ q ∈ K, biD .min [.list (K.map pic)] = some (pic q) := by
  cases K with
  | nil => exact absurd rfl hne
  | cons k K =>
    have e : biD .min [.list ((k :: K).map pic)] = some (_root_.PySem.W.minD (pic k) (K.map pic)) := by
      show gd (sortOk ((k :: K).map pic)) (_root_.PySem.W.minD (pic k) (K.map pic)) = _
      rw [sortOk_rows hn]
      rfl
    have := minD_mem (K.map pic) (pic k)
    rw [← List.map_cons] at this
    obtain ⟨q, hq, e2⟩ := List.mem_map.mp this
    exact ⟨q, hq, by rw [e, e2]⟩
theorem vals_R (acc : List (List Int × List Dd)) : valsD (dicR acc) = some (acc.map fun z => rowE z.2) := by
  show some ((acc.map fun z => (pic z.1, rowE z.2)).map (·.2)) = _
  rw [List.map_map]
  rfl
theorem keys_R (acc : List (List Int × List Dd)) : itemsD (dicR acc) = some (acc.map fun z => pic z.1) := by
  show some ((acc.map fun z => (pic z.1, rowE z.2)).map (·.1)) = _
  rw [List.map_map]
  rfl
theorem len_R (r : List Dd) : lenD (rowE r) = some (.int (r.length : Int)) := by
  show some (PyData.int ((r.map encD).length : Int)) = _
  rw [List.length_map]
/-- the farthest: how many deeds, and which -/
theorem run_farthest (W : WOk w h t) (P : POk w h t p0) (C : ChOk w h cs) : ∃ q ∈ farL (fdS w h t p0 cs 300), biD .min [.list ((farL (fdS w h t p0 cs 300)).map pic)] = some (pic q) ∧
    F_farthest [wd w h t, .list (cs.map encD), pic p0] = .ok (.tuple [.int (mxI (lensS (fdS w h t p0 cs 300))), pic q]) := by
  have G := fd_goodR (w := w) (h := h) (t := t) (p0 := p0) C 300
  have lne := lens_ne (reach_self (w := w) (h := h) (t := t) (p0 := p0) (cs := cs))
  have nn : ∀ q ∈ kys (fdS w h t p0 cs 300), q ≠ [] := fun q hq => pok_ne W (reach_pic W P C hq)
  obtain ⟨q, hq, hm⟩ := min_pics (far_ne lne) (fun p hp => by
    obtain ⟨z, hz, rfl⟩ := List.mem_map.mp hp
    exact nn _ (List.mem_map.mpr ⟨z, (List.mem_filter.mp hz).1, rfl⟩))
  refine ⟨q, hq, hm, fn_ru rfl ?_⟩
  have c1 := run_look_choice W C
  have c2 := run_look_picture W P
  have c4 := run_rows_from W P C
  have mx := max_of lne
  have vr := vals_R (fdS w h t p0 cs 300)
  have kr := keys_R (fdS w h t p0 cs 300)
  have ir : ∀ z ∈ fdS w h t p0 cs 300, idxD (dicR (fdS w h t p0 cs 300)) (pic z.1) = some (rowE z.2) := fun z hz => idx_R (lookR_of G.nd hz)
  generalize hacc : fdS w h t p0 cs 300 = acc at *
  generalize dicR acc = DD at *
  generalize hx1 : pic p0 = x1 at *
  generalize hx2 : PyData.list (cs.map encD) = x2 at *
  have l1 : re farthest_c2 [.val (wd w h t), .val x2, .val x1, .val DD, .emp, .emp, .emp] = .ok (.list ((lensS acc).map .int)) := by
    rw [show farthest_c2 = .lc (.bi .len (.cons (.bor 5) .nil)) (.nm 5) (.vls (.var 3)) (.con (.bool true)) [5] from rfl, re_map (fun z : List Int × List Dd => rowE z.2) (fun z => .int (z.2.length : Int)) acc (by rfl) (by simp [vr]) fun z _ => ⟨_, rfl, by
      have := len_R z.2
      generalize rowE z.2 = y at *
      simp [biD, this]⟩]
    unfold lensS
    rw [List.map_map]
    rfl
  have l2 : re farthest_c1 [.val (wd w h t), .val x2, .val x1, .val DD, .val (.int (mxI (lensS acc))), .emp, .emp] = .ok (.list ((farL acc).map pic)) := by
    rw [show farthest_c1 = .lc (.var 6) (.nm 6) (.val (.var 3)) (.cmp .eq (.bi .len (.cons (.idx (.bor 3) (.var 6)) .nil)) (.var 4)) [6] from rfl,
      re_filter (fun z : List Int × List Dd => pic z.1) (fun z => pic z.1) (fun z => decide ((z.2.length : Int) = mxI (lensS acc))) acc (by rfl) (by simp [kr]) fun z hz => ⟨_, .bool (decide ((z.2.length : Int) = mxI (lensS acc))), rfl, by
        have i1 := ir z hz
        have i2 := len_R z.2
        generalize pic z.1 = y1 at *
        generalize rowE z.2 = y at *
        simp [biD, i1, i2], rfl, fun _ => by
        generalize pic z.1 = y1 at *
        simp⟩]
    unfold farL
    rw [List.map_map]
    rfl
  simp [n_farthest, startE, c1, c2, c4, l1, l2, mx, hm]
end M
end
section
/-! Law k15: the mirror says true. -/
namespace K15
open PySem PI PG M
variable {w h t : Int} {p : List Int} {cs : List Dd}
theorem bl (xs : List D) : biD .list [.list xs] = some (.list xs) := rfl
theorem cut_init (xs : List D) : cutL xs none (some (-1)) = xs.dropLast := by
  unfold cutL
  rw [HT.sIx_none, List.drop_zero, Nat.sub_zero]
  have : HT.sIx xs.length xs.length (some (-1)) = xs.length - 1 := by
    show (if (-1 : Int) < 0 then ((-1 : Int) + (xs.length : Int)).toNat else min (-1 : Int).toNat xs.length) = _
    rw [if_pos (by decide)]
    omega
  rw [this, List.dropLast_eq_take]
theorem sl_init (r : List Dd) : sliceD (rowE r) none (some (-1)) = some (rowE r.dropLast) := by
  show some (PyData.tuple (cutL (r.map encD) none (some (-1)))) = _
  rw [cut_init, ← List.map_dropLast]
theorem sl_take4 (L : List (List Int)) : sliceD (.list (L.map pic)) none (some 4) = some (.list ((L.take 4).map pic)) := by
  show some (PyData.list (cutL (L.map pic) none (some ((4 : Nat) : Int)))) = _
  rw [cut_take, ← List.map_take]
theorem ne_self {d : D} (h : cmpD .eq d d = some true) : cmpD .ne d d = some false := by
  show (cmpD .eq d d).map (!·) = _
  rw [h]; rfl
theorem eq_pic (q : List Int) : cmpD .eq (pic q) (pic q) = some true := by
  have := pic_key.eqv q q
  rw [decide_eq_true rfl] at this
  show gd (SeqAt.shaped (pic q) && SeqAt.shaped (pic q)) (PyData.eqv (pic q) (pic q)) = _
  rw [shaped_T, this]
  rfl
theorem ne_nil0 : cmpD .ne (.list []) (.list []) = some false := rfl
theorem ne_rowNil (r : List Dd) : cmpD .ne (rowE r) (.tuple []) = some (!decide (r = [])) := by
  show (cmpD .eq (rowE r) (rowE [])).map (!·) = _
  rw [eq_row]; rfl
theorem nin_of {x c : D} {b : Bool} (h : inD x c = some b) : inD x c = some b := h
/-- the environment; s7 .. s14 are no matter -/
abbrev env (ns : List Int) (w h t : Int) (cs : List Dd) (p : List Int) (mo : Int) (la : List Int) (s7 s8 s9 s10 s11 s12 : PI.Slot) : En :=
  [.val (scr ns), .val (wd w h t), .val (.list (cs.map encD)), .val (pic p), .val (.list ((sortR (reachS w h t p cs)).map pic)), .val (.int mo), .val (pic la), s7, s8, s9, s10, s11, s12, .emp, .emp]
theorem len_pos : 0 < (sortR (reachS w h t p cs)).length := List.length_pos_of_mem (sortR_mem.mpr reach_self)
/-- one turn of the loop -/
theorem turn (ns : List Int) (W : WOk w h t) (P : POk w h t p) (C : ChOk w h cs) {mo : Int} (hmo : mo = mxI (lensS (fdS w h t p cs 300))) (la : List Int) (k : Int) (s7 s8 s9 s10 s11 s12 : PI.Slot) :
    ∃ s8' s9' s10', noOwn s8' = true ∧ ru 400 law_b3 (env ns w h t cs p mo la (.val (.int k)) s8 s9 s10 s11 s12) = .nx (env ns w h t cs p mo la (.val (.int k)) s8' s9' s10' s11 s12) := by
  have r4 := run_cell_ ns (k := 4) (by decide)
  have m1 := bin_mul 41 k (.inl (smallI_of (by decide) (by decide)))
  have lp := len_pos (w := w) (h := h) (t := t) (p := p) (cs := cs)
  have rm := run_mix (cellI ns 4 + 41 * k) (m := 9949) (n := ((sortR (reachS w h t p cs)).length : Int)) (by decide) (by decide) (by omega)
  have z0 : 0 ≤ mixV (cellI ns 4 + 41 * k) 9949 ((sortR (reachS w h t p cs)).length : Int) := Int.emod_nonneg _ (by omega)
  have z1 : mixV (cellI ns 4 + 41 * k) 9949 ((sortR (reachS w h t p cs)).length : Int) < ((sortR (reachS w h t p cs)).length : Int) := Int.emod_lt_of_pos _ (by omega)
  obtain ⟨q, hq, ix⟩ := pick_one pic (sortR (reachS w h t p cs)) z0 z1
  have hq := sortR_mem.mp hq
  have Q := reach_pic W P C hq
  obtain ⟨r, hz, hw, ha, hr, hl3⟩ := reach_of hq
  have hok : RowOk w h r := fun d hd => C.ok d (hr d hd)
  have c1 := run_way_to W P C Q
  rw [hw] at c1
  have c2 := run_law_after W P hok
  rw [ha] at c2
  have n1 := ne_self (eq_pic q)
  have l1 := len_R r
  have g1 : cmpD .gt (.int (r.length : Int)) (.int mo) = some false := by
    show some (decide (mo < (r.length : Int))) = _
    rw [decide_eq_false]
    have := mxI_ge (ns := lensS (fdS w h t p cs 300)) (r.length : Int) (List.mem_map.mpr ⟨_, hz, rfl⟩)
    omega
  have s1 := sl_init r
  have hok2 : RowOk w h r.dropLast := fun d hd => hok d (List.dropLast_subset _ hd)
  have c3 := run_law_after W P hok2
  have n2 := ne_rowNil r
  have B := after_ok W P hok2
  have c4 := run_way_to W P C B
  have n3 : cmpD .ne (rowE r.dropLast) (rowE r.dropLast) = some false := ne_self (by rw [eq_row, decide_eq_true rfl])
  have c5 := run_reached W Q C
  have lenL : lenD (.list ((sortR (reachS w h t p cs)).map pic)) = some (.int ((sortR (reachS w h t p cs)).length : Int)) := by
    show some (PyData.int (((sortR (reachS w h t p cs)).map pic).length : Int)) = _
    rw [List.length_map]
  have cc2 : ∀ s7 s10 s8, re law_c2 [.val (scr ns), .val (wd w h t), .val (.list (cs.map encD)), .val (pic p), .val (.list ((sortR (reachS w h t p cs)).map pic)), .val (.int mo), .val (pic la), s7, s8, .val (rowE r), s10, s11, s12, .emp, .emp] = .ok (.list []) := fun s7 s10 s8 =>
    re_none encD r (by rfl) (by simp) fun d hd => ⟨_, .bool false, rfl, by
      have := nin_of (in_encL d cs)
      rw [decide_eq_true (hr d hd)] at this
      simp [this], rfl⟩
  have cc1 : ∀ s7 s9 s10, re law_c1 [.val (scr ns), .val (wd w h t), .val (.list (cs.map encD)), .val (pic p), .val (.list ((sortR (reachS w h t p cs)).map pic)), .val (.int mo), .val (pic la), s7, .val (pic q), s9, s10, s11, s12, .emp, .emp] = .ok (.list []) := fun s7 s9 s10 =>
    re_none pic (sortR (reachS w h t q cs)) (by rfl) (by
      generalize (sortR (reachS w h t q cs)).map pic = L1 at *
      simp only [pic] at c5
      simp [bl, c5]) fun x hx => ⟨_, .bool false, rfl, by
      have := nin_of (in_picsL x (sortR (reachS w h t p cs)))
      rw [decide_eq_true (sortR_mem.mpr (sub_reach W P C hq (sortR_mem.mp hx)))] at this
      generalize pic x = y at *
      simp [this], rfl⟩
  refine ⟨.val (pic q), .val (rowE r), .val (pic (afterS w h t p r.dropLast)), rfl, ?_⟩
  have ew : r ≠ [] → F_way_to [wd w h t, .list (cs.map encD), pic p, pic (afterS w h t p r.dropLast)] = .ok (rowE r.dropLast) := fun hne => by
    rw [c4, way_head hw hne]
    rfl
  rw [show optR (some r) = rowE r from rfl] at c1
  unfold env
  generalize (sortR (reachS w h t p cs)).map pic = LL at *
  generalize cs.map encD = CC at *
  generalize wd w h t = WW at *
  generalize scr ns = SS at *
  generalize pic q = y1 at *
  generalize pic p = y2 at *
  generalize pic la = y3 at *
  generalize pic (afterS w h t p r.dropLast) = y4 at *
  generalize rowE r.dropLast = y5 at *
  by_cases hne : r = []
  · rw [decide_eq_true hne] at n2
    generalize rowE r = y6 at *
    simp [law_b3, r4, m1, lenL, rm, ix, c1, c2, n1, l1, g1, cc2, ne_nil0, s1, c3, n2, cc1, biD]
  · rw [decide_eq_false hne] at n2
    have ew := ew hne
    generalize rowE r = y6 at *
    simp [law_b3, r4, m1, lenL, rm, ix, c1, c2, n1, l1, g1, cc2, ne_nil0, s1, c3, n2, ew, n3, cc1, biD]
theorem h7 (ns : List Int) (W : WOk w h t) (P : POk w h t p) (C : ChOk w h cs) {mo : Int} (hmo : mo = mxI (lensS (fdS w h t p cs 300))) (la : List Int) :
    ∃ s7 s8 s9 s10, noOwn s8 = true ∧ rs 400 law_s7 (env ns w h t cs p mo la .emp .emp .emp .emp .emp .emp) = .nx (env ns w h t cs p mo la s7 s8 s9 s10 .emp .emp) := by
  have hr : rangeD (.int 3) = some ((cellsL 3).map .int) := rng_cells (by decide) (by decide)
  obtain ⟨env', e, s7, s8, s9, s10, ho, rfl⟩ := fo_inv (p := .nm 7) (n := 400) (ss := law_b3) (enc := PyData.int) (ys := cellsL 3) (env := env ns w h t cs p mo la .emp .emp .emp .emp .emp .emp)
    (fun _ en => ∃ s7 s8 s9 s10, noOwn s8 = true ∧ en = env ns w h t cs p mo la s7 s8 s9 s10 .emp .emp) (cellsL 3).length (Nat.le_refl _) ⟨.emp, .emp, .emp, .emp, rfl, rfl⟩ fun zs k en _ _ ⟨s7, s8, s9, s10, _, q⟩ => by
      subst q
      obtain ⟨s8', s9', s10', ho, e⟩ := turn ns W P C hmo la k s7 s8 s9 s10 .emp .emp
      exact ⟨_, _, rfl, e, .val (.int k), s8', s9', s10', ho, rfl⟩
  exact ⟨s7, s8, s9, s10, ho, by simp [law_s7, hr, e]⟩
theorem cat1 (d : Dd) (hl : cs.length ≤ 100) : binD .add (.list (cs.map encD)) (.list [encD d]) = some (.list ((cs ++ [d]).map encD)) := by
  have := bin_cat (xs := cs.map encD) (ys := [encD d]) (by rw [List.length_map, List.length_singleton]; unfold lim; omega)
  rw [this, List.map_append]
  rfl
theorem ch_snoc (C : ChOk w h cs) (h4 : cs.length ≤ 4) {d : Dd} (hd : DdOk w h d) (z : d ∉ cs) : ChOk w h (cs ++ [d]) :=
  ⟨rowOk_app C.ok (rowOk_one hd), List.nodup_append.mpr ⟨C.nd, by simp, fun a ha b hb e => z (by rw [List.mem_singleton.mp hb] at e; rw [← e]; exact ha)⟩, by rw [List.length_append, List.length_singleton]; omega, by rw [List.length_append, List.length_singleton]; omega⟩
theorem h9 (ns : List Int) (W : WOk w h t) (P : POk w h t p) (C : ChOk w h cs) (h4 : cs.length ≤ 4) {mo : Int} (hmo : mo = mxI (lensS (fdS w h t p cs 300))) {la : List Int} (hla : la ∈ farL (fdS w h t p cs 300)) {d : Dd} (hd : DdOk w h d) (s7 s8 s9 s10 : PI.Slot) (ho : noOwn s8 = true) :
    ∃ s12, rs 400 law_s9 (env ns w h t cs p mo la s7 s8 s9 s10 (.val (encD d)) .emp) = .nx (env ns w h t cs p mo la s7 s8 s9 s10 (.val (encD d)) s12) := by
  have i1 := nin_of (in_encL d cs)
  by_cases z : d ∈ cs
  · rw [decide_eq_true z] at i1
    refine ⟨.emp, ?_⟩
    unfold env
    generalize (sortR (reachS w h t p cs)).map pic = LL at *
    generalize cs.map encD = CC at *
    generalize encD d = y1 at *
    simp [law_s9, i1]
  · rw [decide_eq_false z] at i1
    have D := ch_snoc C h4 hd z
    obtain ⟨zz, hz1, hz2⟩ := List.mem_map.mp hla
    obtain ⟨hz3, hz4⟩ := List.mem_filter.mp hz1
    have hz4 := of_decide_eq_true hz4
    have hlr : la ∈ reachS w h t p cs := List.mem_map.mpr ⟨zz, hz3, hz2⟩
    have sub : ∀ e ∈ cs, e ∈ cs ++ [d] := fun e he => List.mem_append_left _ he
    have c1 := cat1 d (cs := cs) (by omega)
    have c2 := run_reached W P D
    have L := reach_pic W P C hlr
    have c3 := run_way_to W P D L
    obtain ⟨r, _, hw, _, _, _⟩ := reach_of (wide_reach W P D sub hlr)
    rw [hw] at c3
    have hel := (fd_good (w := w) (h := h) (t := t) (p0 := p) (cs := cs) 300).el zz hz3
    have sh := way_short hw (s := zz.2) (fun e he => sub e ((rows_mem hel.2).2 e he)) (by rw [← hel.1, hz2])
    have l1 := len_R r
    have g1 : cmpD .gt (.int (r.length : Int)) (.int mo) = some false := by
      show some (decide (mo < (r.length : Int))) = _
      rw [decide_eq_false]
      omega
    refine ⟨.val (.list ((sortR (reachS w h t p (cs ++ [d]))).map pic)), ?_⟩
    have cc : re law_c4 (env ns w h t cs p mo la s7 s8 s9 s10 (.val (encD d)) (.val (.list ((sortR (reachS w h t p (cs ++ [d]))).map pic)))) = .ok (.list []) :=
      re_none pic (sortR (reachS w h t p cs)) (by simp [ho]) (by simp) fun x hx => ⟨_, .bool false, rfl, by
        have := nin_of (in_picsL x (sortR (reachS w h t p (cs ++ [d]))))
        rw [decide_eq_true (sortR_mem.mpr (wide_reach W P D sub (sortR_mem.mp hx)))] at this
        generalize pic x = y at *
        simp [this], rfl⟩
    unfold env at *
    rw [show optR (some r) = rowE r from rfl] at c3
    generalize (sortR (reachS w h t p cs)).map pic = LL at *
    generalize (sortR (reachS w h t p (cs ++ [d]))).map pic = L2 at *
    generalize cs.map encD = CC at *
    generalize (cs ++ [d]).map encD = C2 at *
    generalize encD d = y1 at *
    generalize wd w h t = WW at *
    generalize pic p = y2 at *
    generalize pic la = y3 at *
    generalize rowE r = y6 at *
    simp [law_s9, i1, c1, c2, cc, ne_nil0, c3, l1, g1, biD]
theorem h10 (ns : List Int) (W : WOk w h t) (P : POk w h t p) (C : ChOk w h cs) (mo : Int) (la : List Int) (s7 s8 s9 s10 s11 s12 : PI.Slot) :
    ∃ s8', rs 400 law_s10 (env ns w h t cs p mo la s7 s8 s9 s10 s11 s12) = .nx (env ns w h t cs p mo la s7 s8' s9 s10 s11 s12) := by
  have c5 : re law_c5 (env ns w h t cs p mo la s7 s8 s9 s10 s11 s12) = .ok (.list ((cs.filter isBnd).map encD)) :=
    re_filter encD encD isBnd cs (by rfl) (by simp) fun d hd => ⟨_, .bool (isBnd d), rfl, by
      cases d with
      | turn => simp [encD, isBnd]
      | flip a => cases a <;> simp [encD, isBnd]
      | shift x y => simp [encD, isBnd]
      | ext g ws => cases g <;> simp [encD, isBnd]
      | cells l c => cases l <;> simp [encD, isBnd], rfl, fun _ => by simp⟩
  have e1 := eq_rowL (cs.filter isBnd) []
  by_cases z : cs.filter isBnd = []
  · rw [decide_eq_true z] at e1
    have hb : ∀ d ∈ cs, isBnd d = false := fun d hd => by
      have := List.filter_eq_nil_iff.mp z d hd
      simpa using this
    have sl := sl_take4 (sortR (reachS w h t p cs))
    obtain ⟨env', e, s8', rfl⟩ := fo_inv (p := .nm 8) (n := 400) (ss := law_b6) (enc := pic) (ys := (sortR (reachS w h t p cs)).take 4) (env := env ns w h t cs p mo la s7 s8 s9 s10 s11 s12)
      (fun _ en => ∃ s8, en = env ns w h t cs p mo la s7 s8 s9 s10 s11 s12) _ (Nat.le_refl _) ⟨_, rfl⟩ fun zs q en hq _ ⟨s8, e⟩ => by
        subst e
        have hq := sortR_mem.mp (List.mem_of_mem_take hq)
        have Q := reach_pic W P C hq
        have c1 := run_reached W Q C
        rw [sortR_like (reach_nd (w := w) (h := h) (t := t) (p0 := q) (cs := cs)) (reach_back W P C hb hq)] at c1
        have n1 : cmpD .ne (.list ((sortR (reachS w h t p cs)).map pic)) (.list ((sortR (reachS w h t p cs)).map pic)) = some false := ne_self (by rw [eq_picsL, decide_eq_true rfl])
        refine ⟨_, _, rfl, ?_, .val (pic q), rfl⟩
        unfold env
        generalize (sortR (reachS w h t p cs)).map pic = LL at *
        generalize pic q = y1 at *
        simp [law_b6, bl, c1, n1]
    refine ⟨s8', ?_⟩
    rw [List.map_nil] at e1
    unfold env at *
    generalize ((sortR (reachS w h t p cs)).take 4).map pic = L4 at *
    generalize (sortR (reachS w h t p cs)).map pic = LL at *
    generalize (cs.filter isBnd).map encD = CF at *
    simp [law_s10, c5, e1, sl, e]
  · rw [decide_eq_false z, List.map_nil] at e1
    refine ⟨s8, ?_⟩
    unfold env at *
    generalize (sortR (reachS w h t p cs)).map pic = LL at *
    generalize (cs.filter isBnd).map encD = CF at *
    simp [law_s10, c5, e1]
theorem h11 (ns : List Int) (W : WOk w h t) (P : POk w h t p) (mo : Int) (la : List Int) (s7 s8 s9 s10 s11 s12 : PI.Slot) :
    rs 400 law_s11 (env ns w h t cs p mo la s7 s8 s9 s10 s11 s12) = .rt (.bool true) := by
  have C1 : ChOk w h [.turn] := ⟨rowOk_one (by trivial), by simp, by decide, by decide⟩
  have c1 := run_after W P (ds := [.turn]) (by decide) (rowOk_one (by trivial))
  have Q := after_ok W P (ds := [.turn]) (rowOk_one (by trivial))
  have c2 := run_way_to W P C1 Q
  have hw : wayS w h t p [.turn] (afterS w h t p [.turn]) = some [] ∨ wayS w h t p [.turn] (afterS w h t p [.turn]) = some [.turn] := by
    by_cases z : afterS w h t p [] = afterS w h t p [.turn]
    · exact .inl (way_first (k := 1) (by decide) (by
        show List.find? _ [[], [Dd.turn]] = _
        rw [List.find?_cons_of_pos (by simpa using z)]))
    · exact .inr (way_first (k := 1) (by decide) (by
        show List.find? _ [[], [Dd.turn]] = _
        rw [List.find?_cons_of_neg (by simpa using z), List.find?_cons_of_pos (by simp)]))
  have e1 : rowE [Dd.turn] = .tuple [.tuple [.str "turn"]] := rfl
  have e2 : [Dd.turn].map encD = [.tuple [.str "turn"]] := rfl
  rw [e1] at c1
  rw [e2] at c2
  have i1 : inD (.tuple []) (.tuple [.tuple [], .tuple [.tuple [.str "turn"]]]) = some true := by kernel_rfl
  have i2 : inD (.tuple [.tuple [.str "turn"]]) (.tuple [.tuple [], .tuple [.tuple [.str "turn"]]]) = some true := by kernel_rfl
  unfold env
  generalize (sortR (reachS w h t p cs)).map pic = LL at *
  rcases hw with hw | hw
  · rw [hw, show optR (some []) = .tuple [] from rfl] at c2
    generalize pic (afterS w h t p [.turn]) = y1 at *
    generalize pic p = y2 at *
    simp [law_s11, c1, c2, i1]
  · rw [hw, show optR (some [.turn]) = .tuple [.tuple [.str "turn"]] from rfl] at c2
    generalize pic (afterS w h t p [.turn]) = y1 at *
    generalize pic p = y2 at *
    simp [law_s11, c1, c2, i2]
theorem ru_app1 {n : Nat} {s : S} {ss r r' : Ss} (f : ∀ env env', ru n ss env = .nx env' → ru n r env = ru n r' env') : ∀ env env', ru n (.cons s ss) env = .nx env' → ru n (.cons s r) env = ru n r' env' := fun env env' h => by
  rw [ru_cons] at h ⊢
  cases e : rs n s env with
  | nx e1 => rw [e] at h; exact f _ _ h
  | rt d => rw [e] at h; cases h
  | ex c e1 => rw [e] at h; cases h
  | bad => rw [e] at h; cases h
theorem ru_app0 {n : Nat} {r : Ss} : ∀ env env', ru n .nil env = .nx env' → ru n r env = ru n r env' := fun env env' h => by
  cases h; rfl
theorem law_ok : PI.LawOk (PI.fnD 400 1 N_law.length B_law) := by
  intro ns _
  refine fn_ru rfl ?_
  have rc : ∀ k : Int, 0 ≤ k → F__law_cell [scr ns, .int k] = .ok (.int (cellI ns k)) := fun k hk => run_cell_ ns hk
  have r0 := rc 0 (by decide)
  have r3 := rc 3 (by decide)
  have r5 := rc 5 (by decide)
  obtain ⟨w, h, t, W, rw_⟩ := run_world (cellI ns 0)
  obtain ⟨cs, C, hl, rch⟩ := run_law_choice W ns (at_ := 1) (most := 4) (by decide) (by decide)
  have q1 := run_seed (cellI ns 3) 1
  have q2 := run_seed (cellI ns 5) 3
  obtain ⟨p, P, rp⟩ := run_some_picture W (seedV (cellI ns 3) 1)
  obtain ⟨d, hd, rd⟩ := run_deed W (seedV (cellI ns 5) 3)
  have rr := run_reached W P C
  obtain ⟨la, hla, _, rfa⟩ := run_farthest W P C
  generalize hmo : mxI (lensS (fdS w h t p cs 300)) = mo at *
  have e0 : ru 400 (.cons law_s1 (.cons law_s2 (.cons law_s3 (.cons law_s4 (.cons law_s5 .nil))))) (startE 15 [scr ns]) = .nx (env ns w h t cs p mo la .emp .emp .emp .emp .emp .emp) := by
    unfold env
    generalize (sortR (reachS w h t p cs)).map pic = LL at *
    generalize cs.map encD = CC at *
    generalize pic p = y2 at *
    generalize pic la = y3 at *
    generalize wd w h t = WW at *
    generalize scr ns = SS at *
    simp [law_s1, law_s2, law_s3, law_s4, law_s5, startE, r0, r3, rw_, rch, q1, rp, bl, rr, rfa]
  have wy := run_way_to W P C P
  rw [way_self, show optR (some ([] : List Dd)) = .tuple [] from rfl] at wy
  have n6 : cmpD .ne (.tuple []) (.tuple []) = some false := rfl
  have i6 := nin_of (in_picsL p (sortR (reachS w h t p cs)))
  rw [decide_eq_true (sortR_mem.mpr reach_self)] at i6
  have hlr : la ∈ reachS w h t p cs := by
    obtain ⟨zz, hz1, hz2⟩ := List.mem_map.mp hla
    exact List.mem_map.mpr ⟨zz, (List.mem_filter.mp hz1).1, hz2⟩
  have i7 := nin_of (in_picsL la (sortR (reachS w h t p cs)))
  rw [decide_eq_true (sortR_mem.mpr hlr)] at i7
  have e6 : rs 400 law_s6 (env ns w h t cs p mo la .emp .emp .emp .emp .emp .emp) = .nx (env ns w h t cs p mo la .emp .emp .emp .emp .emp .emp) := by
    unfold env
    generalize (sortR (reachS w h t p cs)).map pic = LL at *
    generalize pic p = y2 at *
    generalize pic la = y3 at *
    simp [law_s6, bl, wy, n6, i6, i7]
  obtain ⟨s7, s8, s9, s10, ho, e7⟩ := h7 ns W P C hmo.symm la
  have e8 : rs 400 law_s8 (env ns w h t cs p mo la s7 s8 s9 s10 .emp .emp) = .nx (env ns w h t cs p mo la s7 s8 s9 s10 (.val (encD d)) .emp) := by
    unfold env
    generalize (sortR (reachS w h t p cs)).map pic = LL at *
    generalize encD d = y1 at *
    simp [law_s8, r5, q2, rd]
  obtain ⟨s12, e9⟩ := h9 ns W P C (by omega) hmo.symm hla hd s7 s8 s9 s10 ho
  obtain ⟨s8', e10⟩ := h10 ns W P C mo la s7 s8 s9 s10 (.val (encD d)) s12
  have e11 := h11 (cs := cs) ns W P mo la s7 s8' s9 s10 (.val (encD d)) s12
  have e0' : ru 400 B_law (startE 15 [scr ns]) = ru 400 (.cons law_s6 (.cons law_s7 (.cons law_s8 (.cons law_s9 (.cons law_s10 (.cons law_s11 .nil)))))) (env ns w h t cs p mo la .emp .emp .emp .emp .emp .emp) := by
    have := e0
    rw [B_law]
    exact ru_app1 (ru_app1 (ru_app1 (ru_app1 (ru_app1 ru_app0)))) _ _ this
  show fin (ru 400 B_law (startE 15 [scr ns])) = _
  rw [e0', ru_cons, e6, thn_nx, ru_cons, e7, thn_nx, ru_cons, e8, thn_nx, ru_cons, e9, thn_nx, ru_cons, e10, thn_nx, ru_cons, e11]
  rfl
end K15
end
section
namespace K15
open PySem PySem.Spec PyProof.Rows L2 PI
def top (i : Nat) : Stmt := PySem.Challenge.pw_pastpictures_k15_whole_reached.main.body.getD i (.Pass ⟨0, 0, 0, 0⟩)
def cns : List (Str × D) := [("MOST_PICTURES", (.int 256)), ("MOST_CHOICE", (.int 5)), ("MOST_DEEDS", (.int 6)), ("SIDES", (.tuple [(.str "across"), (.str "down")]))]
def exs : List (Str × Nat) := [("BadWorld", 1), ("BadChoice", 6), ("BadPicture", 3), ("BadRow", 2)]
def N__law_pick : List Str := ["_law_seed_here", "_law_many"]
def T__law_pick : Tab := ⟨[], cns, exs⟩
theorem C__law_pick : tBody T__law_pick N__law_pick [] (defScope (top 38)) (defBody (top 38)) = PG.B__law_pick := by kernel_rfl
def N__law_seed : List Str := ["_law_seed_here", "_law_k"]
def T__law_seed : Tab := ⟨[], cns, exs⟩
theorem C__law_seed : tBody T__law_seed N__law_seed [] (defScope (top 37)) (defBody (top 37)) = PG.B__law_seed := by kernel_rfl
def N__law_world : List Str := ["_law_cell_here", "_law_some"]
def T__law_world : Tab := ⟨[("_law_pick", 2, PG.F__law_pick), ("_law_seed", 2, PG.F__law_seed)], cns, exs⟩
theorem C__law_world : tBody T__law_world N__law_world [] (defScope (top 39)) (defBody (top 39)) = PG.B__law_world := by kernel_rfl
def N__law_cell : List Str := ["_law_script", "_law_k"]
def T__law_cell : Tab := ⟨[], cns, exs⟩
theorem C__law_cell : tBody T__law_cell N__law_cell [] (defScope (top 35)) (defBody (top 35)) = PG.B__law_cell := by kernel_rfl
def N__law_window : List Str := ["_law_world_here", "_law_seed_here", "_law_steps", "_law_across", "_law_some", "_law_down", "_law_k", "_law_step"]
def T__law_window : Tab := ⟨[("_law_seed", 2, PG.F__law_seed)], cns, exs⟩
theorem C__law_window : tBody T__law_window N__law_window [] (defScope (top 40)) (defBody (top 40)) = PG.B__law_window := by kernel_rfl
def N__law_deed : List Str := ["_law_world_here", "_law_seed_here", "_law_pick_here", "_law_cells", "_law_cell_here"]
def T__law_deed : Tab := ⟨[("_law_seed", 2, PG.F__law_seed), ("_law_window", 2, PG.F__law_window), ("_law_pick", 2, PG.F__law_pick)], cns, exs⟩
theorem C__law_deed : tBody T__law_deed N__law_deed [] (defScope (top 41)) (defBody (top 41)) = PG.B__law_deed := by kernel_rfl
def N__law_choice : List Str := ["_law_world_here", "_law_script", "_law_at", "_law_most", "_law_found", "_law_k", "_law_deed_here"]
def T__law_choice : Tab := ⟨[("_law_cell", 2, PG.F__law_cell), ("_law_deed", 2, PG.F__law_deed), ("_law_seed", 2, PG.F__law_seed)], cns, exs⟩
theorem C__law_choice : tBody T__law_choice N__law_choice [4] (defScope (top 44)) (defBody (top 44)) = PG.B__law_choice := by kernel_rfl
def N__law_some_picture : List Str := ["_law_world_here", "_law_seed_here", "_law_cell_here"]
def T__law_some_picture : Tab := ⟨[("_law_pick", 2, PG.F__law_pick), ("_law_seed", 2, PG.F__law_seed)], cns, exs⟩
theorem C__law_some_picture : tBody T__law_some_picture N__law_some_picture [] (defScope (top 45)) (defBody (top 45)) = PG.B__law_some_picture := by kernel_rfl
def N_is_within : List Str := ["thing", "low", "high"]
def T_is_within : Tab := ⟨[], cns, exs⟩
theorem C_is_within : tBody T_is_within N_is_within [] (defScope (top 10)) (defBody (top 10)) = PG.B_is_within := by kernel_rfl
def N_is_world : List Str := ["thing", "many", "cell"]
def T_is_world : Tab := ⟨[("is_within", 3, PG.F_is_within)], cns, exs⟩
theorem C_is_world : tBody T_is_world N_is_world [] (defScope (top 11)) (defBody (top 11)) = PG.B_is_world := by kernel_rfl
def N_look : List Str := ["world"]
def T_look : Tab := ⟨[("is_world", 1, PG.F_is_world)], cns, exs⟩
theorem C_look : tBody T_look N_look [] (defScope (top 12)) (defBody (top 12)) = PG.B_look := by kernel_rfl
def N_is_step : List Str := ["world", "thing"]
def T_is_step : Tab := ⟨[("is_within", 3, PG.F_is_within)], cns, exs⟩
theorem C_is_step : tBody T_is_step N_is_step [] (defScope (top 15)) (defBody (top 15)) = PG.B_is_step := by kernel_rfl
def N_rises : List Str := ["row", "one", "other"]
def T_rises : Tab := ⟨[], cns, exs⟩
theorem C_rises : tBody T_rises N_rises [] (defScope (top 16)) (defBody (top 16)) = PG.B_rises := by kernel_rfl
def N_is_window : List Str := ["world", "thing", "one"]
def T_is_window : Tab := ⟨[("rises", 1, PG.F_rises), ("is_step", 2, PG.F_is_step)], cns, exs⟩
theorem C_is_window : tBody T_is_window N_is_window [] (defScope (top 17)) (defBody (top 17)) = PG.B_is_window := by kernel_rfl
def N_are_cells : List Str := ["world", "thing", "one"]
def T_are_cells : Tab := ⟨[("rises", 1, PG.F_rises), ("is_within", 3, PG.F_is_within)], cns, exs⟩
theorem C_are_cells : tBody T_are_cells N_are_cells [] (defScope (top 18)) (defBody (top 18)) = PG.B_are_cells := by kernel_rfl
def N_is_deed : List Str := ["world", "thing"]
def T_is_deed : Tab := ⟨[("are_cells", 2, PG.F_are_cells), ("is_window", 2, PG.F_is_window), ("is_step", 2, PG.F_is_step)], cns, exs⟩
theorem C_is_deed : tBody T_is_deed N_is_deed [] (defScope (top 19)) (defBody (top 19)) = PG.B_is_deed := by kernel_rfl
def N_look_choice : List Str := ["world", "choice", "deed"]
def T_look_choice : Tab := ⟨[("is_deed", 2, PG.F_is_deed), ("look", 1, PG.F_look)], cns, exs⟩
theorem C_look_choice : tBody T_look_choice N_look_choice [] (defScope (top 29)) (defBody (top 29)) = PG.B_look_choice := by kernel_rfl
def N_is_picture : List Str := ["world", "thing", "one"]
def T_is_picture : Tab := ⟨[("is_within", 3, PG.F_is_within)], cns, exs⟩
theorem C_is_picture : tBody T_is_picture N_is_picture [] (defScope (top 13)) (defBody (top 13)) = PG.B_is_picture := by kernel_rfl
def N_look_picture : List Str := ["world", "picture"]
def T_look_picture : Tab := ⟨[("is_picture", 2, PG.F_is_picture)], cns, exs⟩
theorem C_look_picture : tBody T_look_picture N_look_picture [] (defScope (top 14)) (defBody (top 14)) = PG.B_look_picture := by kernel_rfl
def N_cell_at : List Str := ["world", "across", "down"]
def T_cell_at : Tab := ⟨[], cns, exs⟩
theorem C_cell_at : tBody T_cell_at N_cell_at [] (defScope (top 21)) (defBody (top 21)) = PG.B_cell_at := by kernel_rfl
def N_moved : List Str := ["world", "cell", "deed", "across", "down"]
def T_moved : Tab := ⟨[("cell_at", 3, PG.F_cell_at)], cns, exs⟩
theorem C_moved : tBody T_moved N_moved [] (defScope (top 22)) (defBody (top 22)) = PG.B_moved := by kernel_rfl
def N_seen : List Str := ["world", "picture", "window", "cell", "across", "down", "step"]
def T_seen : Tab := ⟨[("cell_at", 3, PG.F_cell_at)], cns, exs⟩
theorem C_seen : tBody T_seen N_seen [] (defScope (top 23)) (defBody (top 23)) = PG.B_seen := by kernel_rfl
def N_done : List Str := ["world", "picture", "deed", "cells", "word", "led", "one", "cell"]
def T_done : Tab := ⟨[("seen", 4, PG.F_seen), ("moved", 3, PG.F_moved)], cns, exs⟩
theorem C_done : tBody T_done N_done [] (defScope (top 24)) (defBody (top 24)) = PG.B_done := by kernel_rfl
def N_rows_from : List Str := ["world", "choice", "picture", "found", "here", "later", "one", "deed", "new"]
def T_rows_from : Tab := ⟨[("done", 3, PG.F_done)], cns, exs⟩
theorem C_rows_from : tBody T_rows_from N_rows_from [3, 5] (defScope (top 30)) (defBody (top 30)) = PG.B_rows_from := by kernel_rfl
def N_reached : List Str := ["world", "choice", "picture"]
def T_reached : Tab := ⟨[("rows_from", 3, PG.F_rows_from), ("look_picture", 2, PG.F_look_picture), ("look_choice", 2, PG.F_look_choice)], cns, exs⟩
theorem C_reached : tBody T_reached N_reached [] (defScope (top 31)) (defBody (top 31)) = PG.B_reached := by kernel_rfl
def N_farthest : List Str := ["world", "choice", "picture", "known", "most", "row", "one"]
def T_farthest : Tab := ⟨[("rows_from", 3, PG.F_rows_from), ("look_picture", 2, PG.F_look_picture), ("look_choice", 2, PG.F_look_choice)], cns, exs⟩
theorem C_farthest : tBody T_farthest N_farthest [] (defScope (top 33)) (defBody (top 33)) = PG.B_farthest := by kernel_rfl
def N_way_to : List Str := ["world", "choice", "picture", "goal"]
def T_way_to : Tab := ⟨[("rows_from", 3, PG.F_rows_from), ("look_picture", 2, PG.F_look_picture), ("look_choice", 2, PG.F_look_choice)], cns, exs⟩
theorem C_way_to : tBody T_way_to N_way_to [] (defScope (top 32)) (defBody (top 32)) = PG.B_way_to := by kernel_rfl
def N__law_mix : List Str := ["_law_cell_here", "_law_prime", "_law_many"]
def T__law_mix : Tab := ⟨[], cns, exs⟩
theorem C__law_mix : tBody T__law_mix N__law_mix [] (defScope (top 36)) (defBody (top 36)) = PG.B__law_mix := by kernel_rfl
def N__law_done : List Str := ["_law_world_here", "_law_picture", "_law_deed_here", "_law_wide", "_law_high", "_law_top", "_law_word", "_law_found", "_law_cell_here", "_law_x", "_law_y", "_law_new", "_law_shown_here", "_law_across", "_law_down"]
def T__law_done : Tab := ⟨[], cns, exs⟩
theorem C__law_done : tBody T__law_done N__law_done [7] (defScope (top 42)) (defBody (top 42)) = PG.B__law_done := by kernel_rfl
def N__law_after : List Str := ["_law_world_here", "_law_picture", "_law_row", "_law_here", "_law_deed_here"]
def T__law_after : Tab := ⟨[("_law_done", 3, PG.F__law_done)], cns, exs⟩
theorem C__law_after : tBody T__law_after N__law_after [] (defScope (top 43)) (defBody (top 43)) = PG.B__law_after := by kernel_rfl
def N_look_row : List Str := ["world", "row", "one"]
def T_look_row : Tab := ⟨[("is_deed", 2, PG.F_is_deed), ("look", 1, PG.F_look)], cns, exs⟩
theorem C_look_row : tBody T_look_row N_look_row [] (defScope (top 20)) (defBody (top 20)) = PG.B_look_row := by kernel_rfl
def N_all_done : List Str := ["world", "picture", "row", "deed"]
def T_all_done : Tab := ⟨[("done", 3, PG.F_done)], cns, exs⟩
theorem C_all_done : tBody T_all_done N_all_done [] (defScope (top 25)) (defBody (top 25)) = PG.B_all_done := by kernel_rfl
def N_after : List Str := ["world", "row", "picture"]
def T_after : Tab := ⟨[("all_done", 3, PG.F_all_done), ("look_picture", 2, PG.F_look_picture), ("look_row", 2, PG.F_look_row)], cns, exs⟩
theorem C_after : tBody T_after N_after [] (defScope (top 26)) (defBody (top 26)) = PG.B_after := by kernel_rfl
def T_law : Tab := ⟨[("way_to", 4, PG.F_way_to), ("after", 3, PG.F_after), ("reached", 3, PG.F_reached), ("_law_deed", 2, PG.F__law_deed), ("_law_seed", 2, PG.F__law_seed), ("_law_cell", 2, PG.F__law_cell), ("_law_after", 3, PG.F__law_after), ("_law_mix", 3, PG.F__law_mix), ("farthest", 3, PG.F_farthest), ("_law_some_picture", 2, PG.F__law_some_picture), ("_law_choice", 4, PG.F__law_choice), ("_law_world", 1, PG.F__law_world)], cns, exs⟩
theorem C_law : tBody T_law N_law [] (defScope (top 46)) (defBody (top 46)) = B_law := by kernel_rfl
def dnames0 : List Str := ["_law_pick", "_law_seed", "_law_world", "_law_cell", "_law_window", "_law_deed", "_law_choice", "_law_some_picture", "is_within", "is_world", "look", "is_step", "rises", "is_window", "are_cells", "is_deed", "look_choice", "is_picture", "look_picture", "cell_at", "moved", "seen", "done", "rows_from", "reached", "farthest", "way_to", "_law_mix", "_law_done", "_law_after"]
def dnames1 : List Str := ["look_row", "all_done", "after", "law"]
def dnames : List Str := dnames0 ++ dnames1
def facts0 : Facts := ⟨dnames, [("MOST_PICTURES", 256), ("MOST_CHOICE", 5), ("MOST_DEEDS", 6)], [], [("SIDES", [.str "across", .str "down"])], exs⟩
theorem cns_eq : cns = facts0.cns := by rfl
def fn0 : List He.DefD := [defD "_law_pick" (top 38), defD "_law_seed" (top 37), defD "_law_world" (top 39), defD "_law_cell" (top 35), defD "_law_window" (top 40), defD "_law_deed" (top 41), defD "_law_choice" (top 44), defD "_law_some_picture" (top 45), defD "is_within" (top 10), defD "is_world" (top 11), defD "look" (top 12), defD "is_step" (top 15), defD "rises" (top 16), defD "is_window" (top 17), defD "are_cells" (top 18), defD "is_deed" (top 19), defD "look_choice" (top 29), defD "is_picture" (top 13), defD "look_picture" (top 14), defD "cell_at" (top 21), defD "moved" (top 22), defD "seen" (top 23), defD "done" (top 24), defD "rows_from" (top 30), defD "reached" (top 31), defD "farthest" (top 33), defD "way_to" (top 32), defD "_law_mix" (top 36), defD "_law_done" (top 42), defD "_law_after" (top 43)]
def fn1 : List He.DefD := [defD "look_row" (top 20), defD "all_done" (top 25), defD "after" (top 26), defD "law" (top 46)]
def fn : List He.DefD := fn0 ++ fn1
theorem S__law_pick : FnScope N__law_pick ["_law_seed_here", "_law_many"] (defScope (top 38)) := ⟨by kernel_rfl, by kernel_rfl, by kernel_rfl, by decide +kernel, by kernel_rfl, by decide +kernel, by decide +kernel⟩
theorem S__law_seed : FnScope N__law_seed ["_law_seed_here", "_law_k"] (defScope (top 37)) := ⟨by kernel_rfl, by kernel_rfl, by kernel_rfl, by decide +kernel, by kernel_rfl, by decide +kernel, by decide +kernel⟩
theorem S__law_world : FnScope N__law_world ["_law_cell_here"] (defScope (top 39)) := ⟨by kernel_rfl, by kernel_rfl, by kernel_rfl, by decide +kernel, by kernel_rfl, by decide +kernel, by decide +kernel⟩
theorem S__law_cell : FnScope N__law_cell ["_law_script", "_law_k"] (defScope (top 35)) := ⟨by kernel_rfl, by kernel_rfl, by kernel_rfl, by decide +kernel, by kernel_rfl, by decide +kernel, by decide +kernel⟩
theorem S__law_window : FnScope N__law_window ["_law_world_here", "_law_seed_here"] (defScope (top 40)) := ⟨by kernel_rfl, by kernel_rfl, by kernel_rfl, by decide +kernel, by kernel_rfl, by decide +kernel, by decide +kernel⟩
theorem S__law_deed : FnScope N__law_deed ["_law_world_here", "_law_seed_here"] (defScope (top 41)) := ⟨by kernel_rfl, by kernel_rfl, by kernel_rfl, by decide +kernel, by kernel_rfl, by decide +kernel, by decide +kernel⟩
theorem S__law_choice : FnScope N__law_choice ["_law_world_here", "_law_script", "_law_at", "_law_most"] (defScope (top 44)) := ⟨by kernel_rfl, by kernel_rfl, by kernel_rfl, by decide +kernel, by kernel_rfl, by decide +kernel, by decide +kernel⟩
theorem S__law_some_picture : FnScope N__law_some_picture ["_law_world_here", "_law_seed_here"] (defScope (top 45)) := ⟨by kernel_rfl, by kernel_rfl, by kernel_rfl, by decide +kernel, by kernel_rfl, by decide +kernel, by decide +kernel⟩
theorem S_is_within : FnScope N_is_within ["thing", "low", "high"] (defScope (top 10)) := ⟨by kernel_rfl, by kernel_rfl, by kernel_rfl, by decide +kernel, by kernel_rfl, by decide +kernel, by decide +kernel⟩
theorem S_is_world : FnScope N_is_world ["thing"] (defScope (top 11)) := ⟨by kernel_rfl, by kernel_rfl, by kernel_rfl, by decide +kernel, by kernel_rfl, by decide +kernel, by decide +kernel⟩
theorem S_look : FnScope N_look ["world"] (defScope (top 12)) := ⟨by kernel_rfl, by kernel_rfl, by kernel_rfl, by decide +kernel, by kernel_rfl, by decide +kernel, by decide +kernel⟩
theorem S_is_step : FnScope N_is_step ["world", "thing"] (defScope (top 15)) := ⟨by kernel_rfl, by kernel_rfl, by kernel_rfl, by decide +kernel, by kernel_rfl, by decide +kernel, by decide +kernel⟩
theorem S_rises : FnScope N_rises ["row"] (defScope (top 16)) := ⟨by kernel_rfl, by kernel_rfl, by kernel_rfl, by decide +kernel, by kernel_rfl, by decide +kernel, by decide +kernel⟩
theorem S_is_window : FnScope N_is_window ["world", "thing"] (defScope (top 17)) := ⟨by kernel_rfl, by kernel_rfl, by kernel_rfl, by decide +kernel, by kernel_rfl, by decide +kernel, by decide +kernel⟩
theorem S_are_cells : FnScope N_are_cells ["world", "thing"] (defScope (top 18)) := ⟨by kernel_rfl, by kernel_rfl, by kernel_rfl, by decide +kernel, by kernel_rfl, by decide +kernel, by decide +kernel⟩
theorem S_is_deed : FnScope N_is_deed ["world", "thing"] (defScope (top 19)) := ⟨by kernel_rfl, by kernel_rfl, by kernel_rfl, by decide +kernel, by kernel_rfl, by decide +kernel, by decide +kernel⟩
theorem S_look_choice : FnScope N_look_choice ["world", "choice"] (defScope (top 29)) := ⟨by kernel_rfl, by kernel_rfl, by kernel_rfl, by decide +kernel, by kernel_rfl, by decide +kernel, by decide +kernel⟩
theorem S_is_picture : FnScope N_is_picture ["world", "thing"] (defScope (top 13)) := ⟨by kernel_rfl, by kernel_rfl, by kernel_rfl, by decide +kernel, by kernel_rfl, by decide +kernel, by decide +kernel⟩
theorem S_look_picture : FnScope N_look_picture ["world", "picture"] (defScope (top 14)) := ⟨by kernel_rfl, by kernel_rfl, by kernel_rfl, by decide +kernel, by kernel_rfl, by decide +kernel, by decide +kernel⟩
theorem S_cell_at : FnScope N_cell_at ["world", "across", "down"] (defScope (top 21)) := ⟨by kernel_rfl, by kernel_rfl, by kernel_rfl, by decide +kernel, by kernel_rfl, by decide +kernel, by decide +kernel⟩
theorem S_moved : FnScope N_moved ["world", "cell", "deed"] (defScope (top 22)) := ⟨by kernel_rfl, by kernel_rfl, by kernel_rfl, by decide +kernel, by kernel_rfl, by decide +kernel, by decide +kernel⟩
theorem S_seen : FnScope N_seen ["world", "picture", "window", "cell"] (defScope (top 23)) := ⟨by kernel_rfl, by kernel_rfl, by kernel_rfl, by decide +kernel, by kernel_rfl, by decide +kernel, by decide +kernel⟩
theorem S_done : FnScope N_done ["world", "picture", "deed"] (defScope (top 24)) := ⟨by kernel_rfl, by kernel_rfl, by kernel_rfl, by decide +kernel, by kernel_rfl, by decide +kernel, by decide +kernel⟩
theorem S_rows_from : FnScope N_rows_from ["world", "choice", "picture"] (defScope (top 30)) := ⟨by kernel_rfl, by kernel_rfl, by kernel_rfl, by decide +kernel, by kernel_rfl, by decide +kernel, by decide +kernel⟩
theorem S_reached : FnScope N_reached ["world", "choice", "picture"] (defScope (top 31)) := ⟨by kernel_rfl, by kernel_rfl, by kernel_rfl, by decide +kernel, by kernel_rfl, by decide +kernel, by decide +kernel⟩
theorem S_farthest : FnScope N_farthest ["world", "choice", "picture"] (defScope (top 33)) := ⟨by kernel_rfl, by kernel_rfl, by kernel_rfl, by decide +kernel, by kernel_rfl, by decide +kernel, by decide +kernel⟩
theorem S_way_to : FnScope N_way_to ["world", "choice", "picture", "goal"] (defScope (top 32)) := ⟨by kernel_rfl, by kernel_rfl, by kernel_rfl, by decide +kernel, by kernel_rfl, by decide +kernel, by decide +kernel⟩
theorem S__law_mix : FnScope N__law_mix ["_law_cell_here", "_law_prime", "_law_many"] (defScope (top 36)) := ⟨by kernel_rfl, by kernel_rfl, by kernel_rfl, by decide +kernel, by kernel_rfl, by decide +kernel, by decide +kernel⟩
theorem S__law_done : FnScope N__law_done ["_law_world_here", "_law_picture", "_law_deed_here"] (defScope (top 42)) := ⟨by kernel_rfl, by kernel_rfl, by kernel_rfl, by decide +kernel, by kernel_rfl, by decide +kernel, by decide +kernel⟩
theorem S__law_after : FnScope N__law_after ["_law_world_here", "_law_picture", "_law_row"] (defScope (top 43)) := ⟨by kernel_rfl, by kernel_rfl, by kernel_rfl, by decide +kernel, by kernel_rfl, by decide +kernel, by decide +kernel⟩
theorem S_look_row : FnScope N_look_row ["world", "row"] (defScope (top 20)) := ⟨by kernel_rfl, by kernel_rfl, by kernel_rfl, by decide +kernel, by kernel_rfl, by decide +kernel, by decide +kernel⟩
theorem S_all_done : FnScope N_all_done ["world", "picture", "row"] (defScope (top 25)) := ⟨by kernel_rfl, by kernel_rfl, by kernel_rfl, by decide +kernel, by kernel_rfl, by decide +kernel, by decide +kernel⟩
theorem S_after : FnScope N_after ["world", "row", "picture"] (defScope (top 26)) := ⟨by kernel_rfl, by kernel_rfl, by kernel_rfl, by decide +kernel, by kernel_rfl, by decide +kernel, by decide +kernel⟩
theorem S_law : FnScope N_law ["_law_script"] (defScope (top 46)) := ⟨by kernel_rfl, by kernel_rfl, by kernel_rfl, by decide +kernel, by kernel_rfl, by decide +kernel, by decide +kernel⟩
set_option maxHeartbeats 2000000 in
theorem walk {P : Program} {w : World} {K : PySem.W.Frag} {h base : Heap} {mg : Str → Option Value} (X : K.In h) (G : h.Ns mainGlobals mg) (c : He.SaysX facts0.fa fn [] [] facts0.ex w h K) : ∀ y m g, (y, m, g) ∈ T_law.fns → FOk P w K mg base (facts0.XC K) 6 y m g := by
  have mo := mod_ok (F := facts0) (by decide +kernel) X G c
  have k__law_pick : FOk P w K mg base (facts0.XC K) 1 "_law_pick" 2 PG.F__law_pick := mkD (P := P) (base := base) X G c mo 0 (x := "_law_pick") (st := top 38) (T := T__law_pick) (N := N__law_pick) (M := []) (k := 0) (fuel := 400) rfl (by decide +kernel) S__law_pick rfl (fun _ _ _ _ _ _ us hl => match us, hl with | [_, _], _ => by with_unfolding_all rfl) cns_eq rfl fnil C__law_pick
  have k__law_seed : FOk P w K mg base (facts0.XC K) 1 "_law_seed" 2 PG.F__law_seed := mkD (P := P) (base := base) X G c mo 1 (x := "_law_seed") (st := top 37) (T := T__law_seed) (N := N__law_seed) (M := []) (k := 0) (fuel := 400) rfl (by decide +kernel) S__law_seed rfl (fun _ _ _ _ _ _ us hl => match us, hl with | [_, _], _ => by with_unfolding_all rfl) cns_eq rfl fnil C__law_seed
  have k__law_world : FOk P w K mg base (facts0.XC K) 2 "_law_world" 1 PG.F__law_world := mkD (P := P) (base := base) X G c mo 2 (x := "_law_world") (st := top 39) (T := T__law_world) (N := N__law_world) (M := []) (k := 1) (fuel := 400) rfl (by decide +kernel) S__law_world rfl (fun _ _ _ _ _ _ us hl => match us, hl with | [_], _ => by with_unfolding_all rfl) cns_eq rfl (fcons (k__law_pick.mono (by decide)) (fcons (k__law_seed.mono (by decide)) fnil)) C__law_world
  have k__law_cell : FOk P w K mg base (facts0.XC K) 1 "_law_cell" 2 PG.F__law_cell := mkD (P := P) (base := base) X G c mo 3 (x := "_law_cell") (st := top 35) (T := T__law_cell) (N := N__law_cell) (M := []) (k := 0) (fuel := 400) rfl (by decide +kernel) S__law_cell rfl (fun _ _ _ _ _ _ us hl => match us, hl with | [_, _], _ => by with_unfolding_all rfl) cns_eq rfl fnil C__law_cell
  have k__law_window : FOk P w K mg base (facts0.XC K) 2 "_law_window" 2 PG.F__law_window := mkD (P := P) (base := base) X G c mo 4 (x := "_law_window") (st := top 40) (T := T__law_window) (N := N__law_window) (M := []) (k := 1) (fuel := 400) rfl (by decide +kernel) S__law_window rfl (fun _ _ _ _ _ _ us hl => match us, hl with | [_, _], _ => by with_unfolding_all rfl) cns_eq rfl (fcons (k__law_seed.mono (by decide)) fnil) C__law_window
  have k__law_deed : FOk P w K mg base (facts0.XC K) 3 "_law_deed" 2 PG.F__law_deed := mkD (P := P) (base := base) X G c mo 5 (x := "_law_deed") (st := top 41) (T := T__law_deed) (N := N__law_deed) (M := []) (k := 2) (fuel := 400) rfl (by decide +kernel) S__law_deed rfl (fun _ _ _ _ _ _ us hl => match us, hl with | [_, _], _ => by with_unfolding_all rfl) cns_eq rfl (fcons (k__law_seed.mono (by decide)) (fcons (k__law_window.mono (by decide)) (fcons (k__law_pick.mono (by decide)) fnil))) C__law_deed
  have k__law_choice : FOk P w K mg base (facts0.XC K) 4 "_law_choice" 4 PG.F__law_choice := mkD (P := P) (base := base) X G c mo 6 (x := "_law_choice") (st := top 44) (T := T__law_choice) (N := N__law_choice) (M := [4]) (k := 3) (fuel := 400) rfl (by decide +kernel) S__law_choice rfl (fun _ _ _ _ _ _ us hl => match us, hl with | [_, _, _, _], _ => by with_unfolding_all rfl) cns_eq rfl (fcons (k__law_cell.mono (by decide)) (fcons (k__law_deed.mono (by decide)) (fcons (k__law_seed.mono (by decide)) fnil))) C__law_choice
  have k__law_some_picture : FOk P w K mg base (facts0.XC K) 2 "_law_some_picture" 2 PG.F__law_some_picture := mkD (P := P) (base := base) X G c mo 7 (x := "_law_some_picture") (st := top 45) (T := T__law_some_picture) (N := N__law_some_picture) (M := []) (k := 1) (fuel := 400) rfl (by decide +kernel) S__law_some_picture rfl (fun _ _ _ _ _ _ us hl => match us, hl with | [_, _], _ => by with_unfolding_all rfl) cns_eq rfl (fcons (k__law_pick.mono (by decide)) (fcons (k__law_seed.mono (by decide)) fnil)) C__law_some_picture
  have k_is_within : FOk P w K mg base (facts0.XC K) 1 "is_within" 3 PG.F_is_within := mkD (P := P) (base := base) X G c mo 8 (x := "is_within") (st := top 10) (T := T_is_within) (N := N_is_within) (M := []) (k := 0) (fuel := 400) rfl (by decide +kernel) S_is_within rfl (fun _ _ _ _ _ _ us hl => match us, hl with | [_, _, _], _ => by with_unfolding_all rfl) cns_eq rfl fnil C_is_within
  have k_is_world : FOk P w K mg base (facts0.XC K) 2 "is_world" 1 PG.F_is_world := mkD (P := P) (base := base) X G c mo 9 (x := "is_world") (st := top 11) (T := T_is_world) (N := N_is_world) (M := []) (k := 1) (fuel := 400) rfl (by decide +kernel) S_is_world rfl (fun _ _ _ _ _ _ us hl => match us, hl with | [_], _ => by with_unfolding_all rfl) cns_eq rfl (fcons (k_is_within.mono (by decide)) fnil) C_is_world
  have k_look : FOk P w K mg base (facts0.XC K) 3 "look" 1 PG.F_look := mkD (P := P) (base := base) X G c mo 10 (x := "look") (st := top 12) (T := T_look) (N := N_look) (M := []) (k := 2) (fuel := 400) rfl (by decide +kernel) S_look rfl (fun _ _ _ _ _ _ us hl => match us, hl with | [_], _ => by with_unfolding_all rfl) cns_eq rfl (fcons (k_is_world.mono (by decide)) fnil) C_look
  have k_is_step : FOk P w K mg base (facts0.XC K) 2 "is_step" 2 PG.F_is_step := mkD (P := P) (base := base) X G c mo 11 (x := "is_step") (st := top 15) (T := T_is_step) (N := N_is_step) (M := []) (k := 1) (fuel := 400) rfl (by decide +kernel) S_is_step rfl (fun _ _ _ _ _ _ us hl => match us, hl with | [_, _], _ => by with_unfolding_all rfl) cns_eq rfl (fcons (k_is_within.mono (by decide)) fnil) C_is_step
  have k_rises : FOk P w K mg base (facts0.XC K) 1 "rises" 1 PG.F_rises := mkD (P := P) (base := base) X G c mo 12 (x := "rises") (st := top 16) (T := T_rises) (N := N_rises) (M := []) (k := 0) (fuel := 400) rfl (by decide +kernel) S_rises rfl (fun _ _ _ _ _ _ us hl => match us, hl with | [_], _ => by with_unfolding_all rfl) cns_eq rfl fnil C_rises
  have k_is_window : FOk P w K mg base (facts0.XC K) 3 "is_window" 2 PG.F_is_window := mkD (P := P) (base := base) X G c mo 13 (x := "is_window") (st := top 17) (T := T_is_window) (N := N_is_window) (M := []) (k := 2) (fuel := 400) rfl (by decide +kernel) S_is_window rfl (fun _ _ _ _ _ _ us hl => match us, hl with | [_, _], _ => by with_unfolding_all rfl) cns_eq rfl (fcons (k_rises.mono (by decide)) (fcons (k_is_step.mono (by decide)) fnil)) C_is_window
  have k_are_cells : FOk P w K mg base (facts0.XC K) 2 "are_cells" 2 PG.F_are_cells := mkD (P := P) (base := base) X G c mo 14 (x := "are_cells") (st := top 18) (T := T_are_cells) (N := N_are_cells) (M := []) (k := 1) (fuel := 400) rfl (by decide +kernel) S_are_cells rfl (fun _ _ _ _ _ _ us hl => match us, hl with | [_, _], _ => by with_unfolding_all rfl) cns_eq rfl (fcons (k_rises.mono (by decide)) (fcons (k_is_within.mono (by decide)) fnil)) C_are_cells
  have k_is_deed : FOk P w K mg base (facts0.XC K) 4 "is_deed" 2 PG.F_is_deed := mkD (P := P) (base := base) X G c mo 15 (x := "is_deed") (st := top 19) (T := T_is_deed) (N := N_is_deed) (M := []) (k := 3) (fuel := 400) rfl (by decide +kernel) S_is_deed rfl (fun _ _ _ _ _ _ us hl => match us, hl with | [_, _], _ => by with_unfolding_all rfl) cns_eq rfl (fcons (k_are_cells.mono (by decide)) (fcons (k_is_window.mono (by decide)) (fcons (k_is_step.mono (by decide)) fnil))) C_is_deed
  have k_look_choice : FOk P w K mg base (facts0.XC K) 5 "look_choice" 2 PG.F_look_choice := mkD (P := P) (base := base) X G c mo 16 (x := "look_choice") (st := top 29) (T := T_look_choice) (N := N_look_choice) (M := []) (k := 4) (fuel := 400) rfl (by decide +kernel) S_look_choice rfl (fun _ _ _ _ _ _ us hl => match us, hl with | [_, _], _ => by with_unfolding_all rfl) cns_eq rfl (fcons (k_is_deed.mono (by decide)) (fcons (k_look.mono (by decide)) fnil)) C_look_choice
  have k_is_picture : FOk P w K mg base (facts0.XC K) 2 "is_picture" 2 PG.F_is_picture := mkD (P := P) (base := base) X G c mo 17 (x := "is_picture") (st := top 13) (T := T_is_picture) (N := N_is_picture) (M := []) (k := 1) (fuel := 400) rfl (by decide +kernel) S_is_picture rfl (fun _ _ _ _ _ _ us hl => match us, hl with | [_, _], _ => by with_unfolding_all rfl) cns_eq rfl (fcons (k_is_within.mono (by decide)) fnil) C_is_picture
  have k_look_picture : FOk P w K mg base (facts0.XC K) 3 "look_picture" 2 PG.F_look_picture := mkD (P := P) (base := base) X G c mo 18 (x := "look_picture") (st := top 14) (T := T_look_picture) (N := N_look_picture) (M := []) (k := 2) (fuel := 400) rfl (by decide +kernel) S_look_picture rfl (fun _ _ _ _ _ _ us hl => match us, hl with | [_, _], _ => by with_unfolding_all rfl) cns_eq rfl (fcons (k_is_picture.mono (by decide)) fnil) C_look_picture
  have k_cell_at : FOk P w K mg base (facts0.XC K) 1 "cell_at" 3 PG.F_cell_at := mkD (P := P) (base := base) X G c mo 19 (x := "cell_at") (st := top 21) (T := T_cell_at) (N := N_cell_at) (M := []) (k := 0) (fuel := 400) rfl (by decide +kernel) S_cell_at rfl (fun _ _ _ _ _ _ us hl => match us, hl with | [_, _, _], _ => by with_unfolding_all rfl) cns_eq rfl fnil C_cell_at
  have k_moved : FOk P w K mg base (facts0.XC K) 2 "moved" 3 PG.F_moved := mkD (P := P) (base := base) X G c mo 20 (x := "moved") (st := top 22) (T := T_moved) (N := N_moved) (M := []) (k := 1) (fuel := 400) rfl (by decide +kernel) S_moved rfl (fun _ _ _ _ _ _ us hl => match us, hl with | [_, _, _], _ => by with_unfolding_all rfl) cns_eq rfl (fcons (k_cell_at.mono (by decide)) fnil) C_moved
  have k_seen : FOk P w K mg base (facts0.XC K) 2 "seen" 4 PG.F_seen := mkD (P := P) (base := base) X G c mo 21 (x := "seen") (st := top 23) (T := T_seen) (N := N_seen) (M := []) (k := 1) (fuel := 400) rfl (by decide +kernel) S_seen rfl (fun _ _ _ _ _ _ us hl => match us, hl with | [_, _, _, _], _ => by with_unfolding_all rfl) cns_eq rfl (fcons (k_cell_at.mono (by decide)) fnil) C_seen
  have k_done : FOk P w K mg base (facts0.XC K) 3 "done" 3 PG.F_done := mkD (P := P) (base := base) X G c mo 22 (x := "done") (st := top 24) (T := T_done) (N := N_done) (M := []) (k := 2) (fuel := 400) rfl (by decide +kernel) S_done rfl (fun _ _ _ _ _ _ us hl => match us, hl with | [_, _, _], _ => by with_unfolding_all rfl) cns_eq rfl (fcons (k_seen.mono (by decide)) (fcons (k_moved.mono (by decide)) fnil)) C_done
  have k_rows_from : FOk P w K mg base (facts0.XC K) 4 "rows_from" 3 PG.F_rows_from := mkD (P := P) (base := base) X G c mo 23 (x := "rows_from") (st := top 30) (T := T_rows_from) (N := N_rows_from) (M := [3, 5]) (k := 3) (fuel := 400) rfl (by decide +kernel) S_rows_from rfl (fun _ _ _ _ _ _ us hl => match us, hl with | [_, _, _], _ => by with_unfolding_all rfl) cns_eq rfl (fcons (k_done.mono (by decide)) fnil) C_rows_from
  have k_reached : FOk P w K mg base (facts0.XC K) 6 "reached" 3 PG.F_reached := mkD (P := P) (base := base) X G c mo 24 (x := "reached") (st := top 31) (T := T_reached) (N := N_reached) (M := []) (k := 5) (fuel := 400) rfl (by decide +kernel) S_reached rfl (fun _ _ _ _ _ _ us hl => match us, hl with | [_, _, _], _ => by with_unfolding_all rfl) cns_eq rfl (fcons (k_rows_from.mono (by decide)) (fcons (k_look_picture.mono (by decide)) (fcons (k_look_choice.mono (by decide)) fnil))) C_reached
  have k_farthest : FOk P w K mg base (facts0.XC K) 6 "farthest" 3 PG.F_farthest := mkD (P := P) (base := base) X G c mo 25 (x := "farthest") (st := top 33) (T := T_farthest) (N := N_farthest) (M := []) (k := 5) (fuel := 400) rfl (by decide +kernel) S_farthest rfl (fun _ _ _ _ _ _ us hl => match us, hl with | [_, _, _], _ => by with_unfolding_all rfl) cns_eq rfl (fcons (k_rows_from.mono (by decide)) (fcons (k_look_picture.mono (by decide)) (fcons (k_look_choice.mono (by decide)) fnil))) C_farthest
  have k_way_to : FOk P w K mg base (facts0.XC K) 6 "way_to" 4 PG.F_way_to := mkD (P := P) (base := base) X G c mo 26 (x := "way_to") (st := top 32) (T := T_way_to) (N := N_way_to) (M := []) (k := 5) (fuel := 400) rfl (by decide +kernel) S_way_to rfl (fun _ _ _ _ _ _ us hl => match us, hl with | [_, _, _, _], _ => by with_unfolding_all rfl) cns_eq rfl (fcons (k_rows_from.mono (by decide)) (fcons (k_look_picture.mono (by decide)) (fcons (k_look_choice.mono (by decide)) fnil))) C_way_to
  have k__law_mix : FOk P w K mg base (facts0.XC K) 1 "_law_mix" 3 PG.F__law_mix := mkD (P := P) (base := base) X G c mo 27 (x := "_law_mix") (st := top 36) (T := T__law_mix) (N := N__law_mix) (M := []) (k := 0) (fuel := 400) rfl (by decide +kernel) S__law_mix rfl (fun _ _ _ _ _ _ us hl => match us, hl with | [_, _, _], _ => by with_unfolding_all rfl) cns_eq rfl fnil C__law_mix
  have k__law_done : FOk P w K mg base (facts0.XC K) 1 "_law_done" 3 PG.F__law_done := mkD (P := P) (base := base) X G c mo 28 (x := "_law_done") (st := top 42) (T := T__law_done) (N := N__law_done) (M := [7]) (k := 0) (fuel := 400) rfl (by decide +kernel) S__law_done rfl (fun _ _ _ _ _ _ us hl => match us, hl with | [_, _, _], _ => by with_unfolding_all rfl) cns_eq rfl fnil C__law_done
  have k__law_after : FOk P w K mg base (facts0.XC K) 2 "_law_after" 3 PG.F__law_after := mkD (P := P) (base := base) X G c mo 29 (x := "_law_after") (st := top 43) (T := T__law_after) (N := N__law_after) (M := []) (k := 1) (fuel := 400) rfl (by decide +kernel) S__law_after rfl (fun _ _ _ _ _ _ us hl => match us, hl with | [_, _, _], _ => by with_unfolding_all rfl) cns_eq rfl (fcons (k__law_done.mono (by decide)) fnil) C__law_after
  have k_look_row : FOk P w K mg base (facts0.XC K) 5 "look_row" 2 PG.F_look_row := mkD (P := P) (base := base) X G c mo 30 (x := "look_row") (st := top 20) (T := T_look_row) (N := N_look_row) (M := []) (k := 4) (fuel := 400) rfl (by decide +kernel) S_look_row rfl (fun _ _ _ _ _ _ us hl => match us, hl with | [_, _], _ => by with_unfolding_all rfl) cns_eq rfl (fcons (k_is_deed.mono (by decide)) (fcons (k_look.mono (by decide)) fnil)) C_look_row
  have k_all_done : FOk P w K mg base (facts0.XC K) 4 "all_done" 3 PG.F_all_done := mkD (P := P) (base := base) X G c mo 31 (x := "all_done") (st := top 25) (T := T_all_done) (N := N_all_done) (M := []) (k := 3) (fuel := 400) rfl (by decide +kernel) S_all_done rfl (fun _ _ _ _ _ _ us hl => match us, hl with | [_, _, _], _ => by with_unfolding_all rfl) cns_eq rfl (fcons (k_done.mono (by decide)) fnil) C_all_done
  have k_after : FOk P w K mg base (facts0.XC K) 6 "after" 3 PG.F_after := mkD (P := P) (base := base) X G c mo 32 (x := "after") (st := top 26) (T := T_after) (N := N_after) (M := []) (k := 5) (fuel := 400) rfl (by decide +kernel) S_after rfl (fun _ _ _ _ _ _ us hl => match us, hl with | [_, _, _], _ => by with_unfolding_all rfl) cns_eq rfl (fcons (k_all_done.mono (by decide)) (fcons (k_look_picture.mono (by decide)) (fcons (k_look_row.mono (by decide)) fnil))) C_after
  exact (fcons (k_way_to.mono (by decide)) (fcons (k_after.mono (by decide)) (fcons (k_reached.mono (by decide)) (fcons (k__law_deed.mono (by decide)) (fcons (k__law_seed.mono (by decide)) (fcons (k__law_cell.mono (by decide)) (fcons (k__law_after.mono (by decide)) (fcons (k__law_mix.mono (by decide)) (fcons (k_farthest.mono (by decide)) (fcons (k__law_some_picture.mono (by decide)) (fcons (k__law_choice.mono (by decide)) (fcons (k__law_world.mono (by decide)) fnil))))))))))))
def loose0 : List Str := ["PictureError", "ValueError", "BadWorld", "BadRow", "BadPicture", "BadChoice", "MOST_DEEDS", "MOST_PICTURES", "SIDES", "is_within", "is_world", "look", "is_picture", "look_picture", "is_step", "rises", "is_window", "are_cells", "is_deed", "look_row", "cell_at", "moved", "seen", "done", "all_done", "after", "MOST_CHOICE", "look_choice", "rows_from", "reached"]
def loose1 : List Str := ["way_to", "farthest", "_law_cell", "_law_mix", "_law_seed", "_law_pick", "_law_world", "_law_window", "_law_deed", "_law_done", "_law_after", "_law_choice", "_law_some_picture"]
def loose : List Str := loose0 ++ loose1
abbrev R : PySem.W.OpenRow := PySem.W.OpenLaw.row PySem.Challenge.rw_pastpictures_k15_whole_reached
abbrev hk : PySem.W.Hook := He.hookX 6 facts0.fa fn [] [] facts0.ex
def ob (s : PySem.W.SharedT) : He.AlX := He.obsX 6 facts0.fa fn [] [] facts0.ex (HandSHeadRun.getT s)
theorem ob_eq (s : PySem.W.SharedT) : ob s = hk.obs s.abs := He.obsX_eq (HandSHeadRun.getT_eq s)
theorem run (w : World) : HandSHeadRun.RunEq R (PySem.W.view R.prog [46]) hk ob 6000 loose w := by
  intro os
  kernel_rfl
end K15
end
section
open PySem PySem.W PySem.Calls PyProof.Rows
set_option maxHeartbeats 2000000 in
theorem PySem.Challenge.cw_pastpictures_k15_whole_reached_holds : PySem.Challenge.rw_pastpictures_k15_whole_reached.Holds := by
  w_on; o_law
  refine HandSHeadRun.head_any (r := OpenLaw.row PySem.Challenge.rw_pastpictures_k15_whole_reached) (q := view (OpenLaw.row PySem.Challenge.rw_pastpictures_k15_whole_reached).prog [46]) (H := K15.hk) (ob := K15.ob) (M := 6000) (loose := K15.loose) (d := HandSHeadRun.topDef (OpenLaw.row PySem.Challenge.rw_pastpictures_k15_whole_reached).prog 46) (kwd := []) K15.ob_eq
    (by kernel_rfl) (fun s => by kernel_rfl) K15.run (by kernel_rfl) (by kernel_rfl) (by kernel_rfl) (by rfl) (by first | assumption | decide +kernel) (by decide +kernel) ⟨rfl, rfl, rfl, rfl, rfl, by decide +kernel⟩ ?hw ?hc
  case hw => w_witness2
  case hc =>
    refine L2.walk_ofE (l := PySem.Challenge.rw_pastpictures_k15_whole_reached) (n := 63) (k := 7) (x := "_law_script") (CX := L2.CX0) rfl (by decide) (by kernel_rfl) ⟨rfl, by decide, by decide⟩ ?F (fun _ _ _ _ z => z)
    intro w mg fa h Y G hmg0
    obtain ⟨K, KX, c⟩ := Y
    have hmg : mg ("law" : PySem.Str) = some (.ref fa) := by
      have e : (HandSHeadRun.topDef (OpenLaw.row PySem.Challenge.rw_pastpictures_k15_whole_reached).prog 46).name = ("law" : PySem.Str) := by kernel_rfl
      rw [← e]
      exact hmg0
    exact PI.law_end (F := K15.facts0) KX G hmg c 33 rfl K15.S_law (fun _ _ _ _ _ _ us hl => match us, hl with | [_], _ => by with_unfolding_all rfl) (by decide +kernel) (by decide +kernel) K15.cns_eq rfl (fun base => K15.walk (P := (PySem.Challenge.rw_pastpictures_k15_whole_reached).prog) (base := base) KX G c) K15.C_law K15.law_ok
end
