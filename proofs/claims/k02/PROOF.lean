import PyProof.Rows.All
import Wide.All
import OpenK.AllK
import Wide.FinOn
import KE.KStateDown
import HandS.ForMost
import HandS.ForExc
import HandS.More
import HandS.Conv
import HandS.DeepEq
import HandS.ListEq
import HandS.DictEq
import KE.KEqNest
import HandS.ListItems
import HandS.CallLocal
import HandS.Small
import HandS.SetFor
import HandS.TupSets
import KE.KDictSum
import HandS.Wide
import HandS.Flow
import HandS.Style
import HandS.TupAny
import HandS.Deep
import HandS.IsInst
import HandS.ExcIs
import HandS.NoneIn
import HandS.CallSlots
import HandS.Defaults
import HandS.HeadHook1
import HandS.HeadHook2
import HandS.HeadEnd
import HandS.Head0
import HandS.Head1
import HandS.Head2
import KE.SortData
import KE.DataCmp
import KE.KRevSl
import HandS.Text
import HandS.Codes
import KE.IntTextLaws
import HandS.TryOnly
import HandS.ReplaceLit
import Wide.Txt
import PySem.Challenge.RW_fieldrounds_k02_whole_shares
set_option Elab.async false
set_option linter.all false
set_option maxRecDepth 100000
set_option maxHeartbeats 0
set_option exponentiation.threshold 100000
/-! FrCore: data, the core syntax, its evaluator. -/
namespace FR
open PySem (Str)

/-! ### data -/
inductive D where
  | non
  | bl (b : Bool)
  | int (i : Int)
  | str (x : Str)
  | tup (xs : List D)
  | lst (xs : List D)
  | dct (kvs : List ((Int ⊕ Str) × D))
  | exc (c : Nat)
  | fn (f : Nat)
  | town
  | scr (ns : List Int)
  | ndc (kvs : List ((Int ⊕ Str) × D)) (d : D)
  deriving Inhabited

/-! keys of dicts -/
abbrev Ky := Int ⊕ Str
def Ky.d : Ky → D
  | .inl i => .int i
  | .inr x => .str x
def keyD : D → Option Ky
  | .int i => some (.inl i)
  | .str x => some (.inr x)
  | _ => none
def getK (kvs : List (Ky × D)) (k : Ky) : Option D := (kvs.find? fun kv => decide (kv.1 = k)).map (·.2)
def putK (kvs : List (Ky × D)) (k : Ky) (v : D) : List (Ky × D) :=
  if (kvs.any fun kv => decide (kv.1 = k)) = true then kvs.map (fun kv => if kv.1 = k then (kv.1, v) else kv) else kvs ++ [(k, v)]
def dropK (kvs : List (Ky × D)) (k : Ky) : List (Ky × D) := kvs.filter fun kv => decide (kv.1 ≠ k)
def mergeK (kvs more : List (Ky × D)) : List (Ky × D) := more.foldl (fun acc kv => putK acc kv.1 kv.2) kvs
/-! how Python's == goes over data -/
mutual
def D.eqv : D → D → Bool
  | .non, e => match e with | .non => true | _ => false
  | .bl a, e => match e with | .bl b => a == b | .int j => (if a then 1 else 0) == j | _ => false
  | .int i, e => match e with | .int j => i == j | .bl b => i == (if b then 1 else 0) | _ => false
  | .str x, e => match e with | .str y => x == y | _ => false
  | .tup xs, e => match e with | .tup ys => D.eqvL xs ys | _ => false
  | .lst xs, e => match e with | .lst ys => D.eqvL xs ys | _ => false
  | .dct xs, e => match e with | .dct ys => xs.length == ys.length && D.eqvK xs ys | _ => false
  | .exc c, e => match e with | .exc d => c == d | _ => false
  | .fn c, e => match e with | .fn d => c == d | _ => false
  | .town, e => match e with | .town => true | _ => false
  | .scr _, _ => false
  | .ndc _ _, _ => false
def D.eqvL : List D → List D → Bool
  | [], ys => match ys with | [] => true | _ :: _ => false
  | x :: xs, ys => match ys with | [] => false | y :: ys => D.eqv x y && D.eqvL xs ys
def D.eqvK : List ((Int ⊕ Str) × D) → List ((Int ⊕ Str) × D) → Bool
  | [], _ => true
  | (k, x) :: xs, ys => (match getK ys k with | some y => D.eqv x y | none => false) && D.eqvK xs ys
end

/-- no dict, error, def, town within; of depth n at most -/
def D.pl : Nat → D → Bool
  | _, .non => true
  | _, .bl _ => true
  | _, .int _ => true
  | _, .str x => decide (x.length ≤ 100000) && x.cps.all (· < 0x110000)
  | 0, _ => false
  | n + 1, .tup xs => xs.all (D.pl n)
  | n + 1, .lst xs => xs.all (D.pl n)
  | _, _ => false

/-- a dict of such data -/
def valsPl (kvs : List (Ky × D)) : Bool := kvs.all fun kv => kv.2.pl 7
def eqDct : D → D → Option Bool
  | .dct xs, .dct ys => if valsPl xs && valsPl ys then some (D.eqv (.dct xs) (.dct ys)) else none
  | _, _ => none

/-- nested lists, tuples, dicts of depth n at most -/
def D.qd : Nat → D → Bool
  | _, .non => true
  | _, .bl _ => true
  | _, .int _ => true
  | _, .str x => decide (x.length ≤ 100000) && x.cps.all (· < 0x110000)
  | 0, _ => false
  | n + 1, .tup xs => xs.all (D.qd n)
  | n + 1, .lst xs => xs.all (D.qd n)
  | n + 1, .dct kvs => kvs.all fun kv => kv.2.qd n
  | _, _ => false
/-- two such that are alike -/
def eqSame : D → D → Bool
  | .lst xs, .lst ys => xs.all (D.qd 5) && ys.all (D.qd 5) && D.eqvL xs ys
  | .tup xs, .tup ys => xs.all (D.qd 5) && ys.all (D.qd 5) && D.eqvL xs ys
  | _, _ => false
/-! no list, dict or town within -/
mutual
def D.lf : D → Bool
  | .lst _ => false
  | .dct _ => false
  | .town => false
  | .scr _ => false
  | .ndc _ _ => false
  | .tup xs => D.lfL xs
  | _ => true
def D.lfL : List D → Bool
  | [] => true
  | x :: xs => x.lf && D.lfL xs
end

def D.truth : D → Option Bool
  | .non => some false
  | .bl b => some b
  | .int i => some (i != 0)
  | .str x => if x.length ≤ 100000 then some (x.length != 0) else none
  | .tup xs => some (!xs.isEmpty)
  | .lst xs => some (!xs.isEmpty)
  | .scr xs => some (!xs.isEmpty)
  | _ => none

/-! ### values and the town's count -/
inductive R (α : Type) where
  | ok (a : α)
  | exn (c : Nat)
abbrev S := Option Nat
abbrev EV (α : Type) := Option (R α × S)

def rb {α β : Type} (o : EV α) (f : α → S → EV β) : EV β := match o with
  | some (.ok a, s) => f a s
  | some (.exn c, s) => some (.exn c, s)
  | none => none
@[simp] theorem rb_ok {α β : Type} (a : α) (s : S) (f : α → S → EV β) : rb (some (.ok a, s)) f = f a s := rfl
@[simp] theorem rb_exn {α β : Type} (c : Nat) (s : S) (f : α → S → EV β) : rb (some (.exn c, s)) f = some (.exn c, s) := rfl
@[simp] theorem rb_none {α β : Type} (f : α → S → EV β) : rb none f = none := rfl
theorem rb_rb {α β γ : Type} (o : EV α) (f : α → S → EV β) (k : β → S → EV γ) : rb (rb o f) k = rb o fun a s => rb (f a s) k := by
  cases o with
  | none => rfl
  | some p =>
    obtain ⟨r, s⟩ := p
    cases r <;> rfl
def rp {α : Type} (o : Option α) (s : S) : EV α := match o with
  | some a => some (.ok a, s)
  | none => none
@[simp] theorem rp_some {α : Type} (a : α) (s : S) : rp (some a) s = some (.ok a, s) := rfl
@[simp] theorem rp_none {α : Type} (s : S) : rp (none : Option α) s = none := rfl

/-! ### texts by their signs -/
def ofL (l : List Nat) : Str := ⟨l.toArray⟩
def tlS (x : Str) : List Nat := x.cps.toList
/-- a number's figures -/
def digs (n : Nat) : List Nat := if n < 10 then [48 + n] else digs (n / 10) ++ [48 + n % 10]
termination_by n
decreasing_by omega
def numT (i : Int) : List Nat := if i < 0 then 45 :: digs i.natAbs else digs i.natAbs
def digB (c : Nat) : Bool := decide (48 ≤ c) && decide (c ≤ 57)
def valT (l : List Nat) : Nat := l.foldl (fun a c => a * 10 + (c - 48)) 0
/-- the number that figures write, one - ahead perhaps -/
def intT : List Nat → Option Int
  | [] => none
  | c :: r => if c = 45 then (if r ≠ [] ∧ r.all digB = true then some (-(valT r : Int)) else none) else if (c :: r).all digB = true then some (valT (c :: r) : Int) else none
/-- cut at each c -/
def splitT (c : Nat) : List Nat → List (List Nat)
  | [] => [[]]
  | x :: r => if x = c then [] :: splitT c r else match splitT c r with
    | [] => [[x]]
    | p :: q => (x :: p) :: q
def joinT (s : List Nat) : List (List Nat) → List Nat
  | [] => []
  | p :: q => p ++ match q with
    | [] => []
    | _ :: _ => s ++ joinT s q
def splD (c : Nat) (x : Str) : List D := (splitT c (tlS x)).map fun l => .str (ofL l)
/-- one sign of a text put otherwise -/
def rplD (y z : Str) : D → Option D
  | .str x => (match tlS y with
    | [c] => if x.length ≤ 100000 ∧ z.length ≤ 10 ∧ c < 256 then some (.str (ofL (joinT (tlS z) (splitT c (tlS x))))) else none
    | _ => none)
  | _ => none

/-! ### operations on data -/
def SZ : Nat := 1000000
inductive Op where | add | sub | mul | fdiv | mod | pow | shl | shr | band
  deriving DecidableEq
inductive Cm where | eq | ne | lt | le | gt | ge | isin | nin | is_ | isn
  deriving DecidableEq
inductive Bf where | len | abs | sum | all | any | max2 | min2 | int | str | tuple | list | min1 | sorted | dict | setsorted | setlen
  deriving DecidableEq
inductive Ty where | int | bool | tuple | list | str | dict | ve | cls (c : Nat)
  deriving DecidableEq
inductive Mt where | keys | items | index | count | join | split | get1 | get2 | replace
  deriving DecidableEq

def mulOk (i j : Int) : Bool := decide (i.natAbs.log2 + j.natAbs.log2 < 1000000)
def divOk (j : Int) : Bool := decide (j ≠ 0 ∧ j.natAbs.log2 < 9000)

def addD : D → D → Option D
  | .int i, .int j => some (.int (i + j))
  | .str x, .str y => if x.length + y.length ≤ 100000 then some (.str (x ++ y)) else none
  | .lst xs, .lst ys => if xs.length + ys.length ≤ SZ then some (.lst (xs ++ ys)) else none
  | .tup xs, .tup ys => if xs.length + ys.length ≤ SZ then some (.tup (xs ++ ys)) else none
  | _, _ => none
def repD (xs : List D) (k : Int) : List D := (List.replicate k.toNat xs).flatten
def mulD : D → D → Option D
  | .int i, .int j => if mulOk i j then some (.int (i * j)) else none
  | .lst xs, .int k => if xs.length * k.toNat ≤ SZ ∧ k.natAbs ≤ SZ then some (.lst (repD xs k)) else none
  | .str x, .int k => if x.length * k.toNat ≤ 100000 ∧ k.natAbs ≤ SZ then some (.str (ofL (List.replicate k.toNat (tlS x)).flatten)) else none
  | _, _ => none
def binD : Op → D → D → Option D
  | .add, x, y => addD x y
  | .sub, .int i, .int j => some (.int (i - j))
  | .mul, x, y => mulD x y
  | .fdiv, .int i, .int j => if divOk j then some (.int (i.fdiv j)) else none
  | .mod, .int i, .int j => if j = 0 then none else some (.int (i.fmod j))
  | .pow, .int i, .int j => if 0 ≤ j ∧ j ≤ 1000 ∧ i.natAbs < 2 ^ 64 then some (.int (i ^ j.toNat)) else none
  | .shl, .int i, .int j => if 0 ≤ j ∧ j ≤ 1000 ∧ i.natAbs < 2 ^ 64 then some (.int (i * 2 ^ j.toNat)) else none
  | .shr, .int i, .int j => if 0 ≤ j then some (.int (i / 2 ^ j.toNat)) else none
  | .band, .int i, .int j => if 0 ≤ i ∧ j = 1 then some (.int (i % 2)) else none
  | _, _, _ => none

def flatD : D → Bool
  | .non => true | .bl _ => true | .int _ => true | .str _ => true | _ => false
def inD (x : D) : D → Option Bool
  | .lst ys => if x.pl 8 && ys.all (D.pl 8) then some (ys.any fun y => D.eqv y x) else none
  | .tup ys => if flatD x && ys.all flatD then some (ys.any fun y => D.eqv y x) else none
  | .dct kvs => (keyD x).map fun k => (getK kvs k).isSome
  | .str z => (match x with | .str c => (match c.cps.toList with | [k] => some (decide (k ∈ z.cps.toList)) | _ => none) | _ => none)
  | _ => none
def isNonD : D → Bool
  | .non => true
  | _ => false
def blD : D → Option Bool
  | .bl b => some b
  | _ => none
/-- rows of ints: by the first that differs, then by length -/
def lexK : List Int → List Int → Bool
  | _, [] => false
  | [], _ :: _ => true
  | a :: r, b :: q => decide (a < b) || (a == b && lexK r q)
def intsO : List D → Option (List Int)
  | [] => some []
  | .int i :: r => (intsO r).map (i :: ·)
  | _ :: _ => none
def ltD : D → D → Option Bool
  | .int i, .int j => some (decide (i < j))
  | .tup [.int a, .int b, .lst xs], .tup [.int c, .int d, .lst ys] => (intsO xs).bind fun ms => (intsO ys).map fun ns => decide (a < c) || (a == c && (decide (b < d) || (b == d && lexK ms ns)))
  | _, _ => none
def gtD : D → D → Option Bool
  | .int i, .int j => some (decide (j < i))
  | _, _ => none
def leD : D → D → Option Bool
  | .int i, .int j => some (decide (i ≤ j))
  | .str x, .str y => some (!decide (tlS y < tlS x))
  | _, _ => none
def cmpD (o : Cm) (x y : D) : Option Bool := match o with
  | .eq => if x.pl 8 && y.pl 8 then some (D.eqv x y) else if eqSame x y then some true else eqDct x y
  | .ne => if x.pl 8 && y.pl 8 then some (!D.eqv x y) else if eqSame x y then some false else (eqDct x y).map (!·)
  | .lt => ltD x y
  | .le => leD x y
  | .gt => gtD x y
  | .ge => leD y x
  | .isin => inD x y
  | .nin => (inD x y).map (!·)
  | .is_ => (match y with | .non => some (isNonD x) | .bl b => (blD x).map fun a => decide (a = b) | _ => none)
  | .isn => (match y with | .non => some (!isNonD x) | .bl b => (blD x).map fun a => !decide (a = b) | _ => none)

def atL {α : Type} (xs : List α) (i : Int) : Option α :=
  if 0 ≤ i then xs[i.toNat]? else if -(xs.length : Int) ≤ i then xs[(i + xs.length).toNat]? else none
def idxD : D → D → Option D
  | .lst xs, .int i => atL xs i
  | .tup xs, .int i => atL xs i
  | .scr xs, .int i => (atL xs i).map D.int
  | .dct kvs, .int i => getK kvs (.inl i)
  | .dct kvs, .str x => getK kvs (.inr x)
  | .ndc kvs _, .str x => getK kvs (.inr x)
  | .str x, .int i => if x.length ≤ 100000 then (atL x.cps.toList i).map fun c => .str ⟨#[c]⟩ else none
  | _, _ => none
/-- a slice's end, brought into the list -/
def clip (n : Nat) (d : Nat) : Option Int → Nat
  | none => d
  | some i => if i < 0 then (i + n).toNat else min i.toNat n
def cutL {α : Type} (xs : List α) (lo hi : Option Int) : List α :=
  (xs.drop (clip xs.length 0 lo)).take (clip xs.length xs.length hi - clip xs.length 0 lo)
def slcD (x : D) (l h : Option Int) : Option D := match x with
  | .lst xs => some (.lst (cutL xs l h))
  | .tup xs => some (.tup (cutL xs l h))
  | .str x => if x.length ≤ 100000 then some (.str (ofL (cutL (tlS x) l h))) else none
  | _ => none
def partD : D → Option (Option Int)
  | .int i => some (some i)
  | _ => none
def revD : D → Option D
  | .lst xs => some (.lst xs.reverse)
  | _ => none
/-- xs[:0:-1] -/
def bckD : D → Option D
  | .lst xs => some (.lst xs.tail.reverse)
  | _ => none
/-- t[1::-1] -/
def twoD : D → Option D
  | .tup (x :: y :: _) => some (.tup [y, x])
  | _ => none

def intsD : List D → Option (List Int)
  | [] => some []
  | .int i :: r => (intsD r).map (i :: ·)
  | _ :: _ => none
def boolsD : List D → Option (List Bool)
  | [] => some []
  | .bl b :: r => (boolsD r).map (b :: ·)
  | _ :: _ => none

def lenD : D → S → Option D
  | .lst xs, _ => some (.int xs.length)
  | .tup xs, _ => some (.int xs.length)
  | .dct xs, _ => some (.int xs.length)
  | .ndc xs _, _ => some (.int ((xs.length + 1 : Nat) : Int))
  | .scr xs, _ => some (.int xs.length)
  | .str x, _ => if x.length ≤ 100000 then some (.int x.length) else none
  | .town, some n => some (.int n)
  | _, _ => none
def absD : D → S → Option D
  | .int i, _ => some (.int (if i < 0 then -i else i))
  | _, _ => none
def sumD : D → S → Option D
  | .lst xs, _ => (intsD xs).map fun ns => .int ns.sum
  | _, _ => none
def allD : D → S → Option D
  | .lst xs, _ => (boolsD xs).map fun bs => .bl (bs.all id)
  | _, _ => none
def anyD : D → S → Option D
  | .lst xs, _ => (boolsD xs).map fun bs => .bl (bs.any id)
  | _, _ => none
def intD : D → S → Option D
  | .int i, _ => some (.int i)
  | .bl b, _ => some (.int (if b then 1 else 0))
  | .str x, _ => if x.length ≤ 640 then (intT (tlS x)).map D.int else none
  | _, _ => none
def strD : D → S → Option D
  | .int i, _ => if i.natAbs < 10 ^ 100 then some (.str (ofL (numT i))) else none
  | _, _ => none
def tupleD : D → S → Option D
  | .lst xs, _ => some (.tup xs)
  | .tup xs, _ => some (.tup xs)
  | _, _ => none
def listD : D → S → Option D
  | .lst xs, _ => some (.lst xs)
  | .tup xs, _ => some (.lst xs)
  | .str x, _ => if x.length ≤ 1000 then some (.lst ((tlS x).map fun c => .str ⟨#[c]⟩)) else none
  | _, _ => none
def max2D : D → D → S → Option D
  | .int i, .int j, _ => some (.int (if j > i then j else i))
  | _, _, _ => none
def min2D : D → D → S → Option D
  | .int i, .int j, _ => some (.int (if j < i then j else i))
  | _, _, _ => none
def minL : List Int → Int
  | [] => 0
  | [i] => i
  | i :: r => min i (minL r)
def min1D : D → S → Option D
  | .lst xs, _ => (intsD xs).bind fun ns => if ns = [] then none else some (.int (minL ns))
  | _, _ => none
def strsD : List D → Option (List Str)
  | [] => some []
  | .str x :: r => (strsD r).map (x :: ·)
  | _ :: _ => none
/-- texts by their signs -/
def leS (x y : Str) : Bool := !decide (y.cps.toList < x.cps.toList)
def insS (x : Str) : List Str → List Str
  | [] => [x]
  | y :: r => if leS x y then x :: y :: r else y :: insS x r
def sortS : List Str → List Str
  | [] => []
  | x :: r => insS x (sortS r)
def insI (x : Int) : List Int → List Int
  | [] => [x]
  | y :: r => if x ≤ y then x :: y :: r else y :: insI x r
def sortI : List Int → List Int
  | [] => []
  | x :: r => insI x (sortI r)
/-- each once -/
def onceS : List Str → List Str
  | [] => []
  | x :: r => if x ∈ r then onceS r else x :: onceS r
def sortedL (xs : List D) : Option D := match strsD xs with
  | some ks => if ks.length < 64 then some (.lst ((sortS ks).map D.str)) else none
  | none => match intsD xs with
    | some ns => if ns.length < 64 then some (.lst ((sortI ns).map D.int)) else none
    | none => none
def setSortD : D → Option D
  | .lst xs => (strsD xs).bind fun ks => if ks.length < 64 then some (.lst ((sortS (onceS ks)).map D.str)) else none
  | _ => none
/-- points as pairs of pairs of ints -/
abbrev PtK := (Int × Int) × (Int × Int)
def ptK : D → Option PtK
  | .tup [.tup [.int a, .int b], .tup [.int c, .int d]] => some ((a, b), (c, d))
  | _ => none
def ptsK : List D → Option (List PtK)
  | [] => some []
  | d :: r => (ptK d).bind fun p => (ptsK r).map (p :: ·)
def onceP : List PtK → List PtK
  | [] => []
  | x :: r => if x ∈ r then onceP r else x :: onceP r
def setLenD : D → Option D
  | .lst xs => match strsD xs with
    | some ks => if ks.length < 64 then some (.int (onceS ks).length) else none
    | none => (ptsK xs).bind fun ks => if ks.length < 64 then some (.int (onceP ks).length) else none
  | _ => none
def keySortD : D → Option D
  | .dct kvs => (strsD (kvs.map fun kv => Ky.d kv.1)).bind fun ks => if ks.length < 64 then some (.lst ((sortS ks).map D.str)) else none
  | _ => none
def sortedD : D → S → Option D
  | .lst xs, _ => sortedL xs
  | .dct kvs, _ => keySortD (.dct kvs)
  | _, _ => none
def keysD : D → Option (List D)
  | .dct kvs => some (kvs.map fun kv => Ky.d kv.1)
  | .ndc kvs _ => some ((kvs.map fun kv => Ky.d kv.1) ++ [.non])
  | _ => none
def keysL : D → Option (List D)
  | .dct kvs => some (kvs.map fun kv => Ky.d kv.1)
  | _ => none
def pairD : D → Option (Ky × D)
  | .tup [k, v] => (keyD k).map fun k => (k, v)
  | _ => none
def pairsD : List D → Option (List (Ky × D))
  | [] => some []
  | d :: r => (pairD d).bind fun p => (pairsD r).map (p :: ·)
def dictD : D → S → Option D
  | .lst xs, _ => (pairsD xs).bind fun ps => if ps.length ≤ 1000 then some (.dct (mergeK [] ps)) else none
  | .dct kvs, _ => some (.dct kvs)
  | _, _ => none
def one1 (f : D → S → Option D) : List D → S → Option D
  | [x], s => f x s
  | _, _ => none
def two2 (f : D → D → S → Option D) : List D → S → Option D
  | [x, y], s => f x y s
  | _, _ => none
def bifD : Bf → List D → S → Option D
  | .len => one1 lenD
  | .abs => one1 absD
  | .sum => one1 sumD
  | .all => one1 allD
  | .any => one1 anyD
  | .max2 => two2 max2D
  | .min2 => two2 min2D
  | .int => one1 intD
  | .tuple => one1 tupleD
  | .list => one1 listD
  | .sorted => one1 sortedD
  | .dict => one1 dictD
  | .min1 => one1 min1D
  | .str => one1 strD
  | _ => fun _ _ => none

def isiD : D → Ty → Option Bool
  | .non, .cls _ => none
  | .non, _ => some false
  | .bl _, .bool => some true
  | .bl _, .int => some true
  | .bl _, .cls _ => none
  | .bl _, _ => some false
  | .int _, .int => some true
  | .int _, .cls _ => none
  | .int _, _ => some false
  | .str _, .str => some true
  | .str _, .cls _ => none
  | .str _, _ => some false
  | .tup _, .tuple => some true
  | .tup _, .cls _ => none
  | .tup _, _ => some false
  | .lst _, .list => some true
  | .lst _, .cls _ => none
  | .lst _, _ => some false
  | .dct _, .dict => some true
  | .dct _, .cls _ => none
  | .dct _, _ => some false
  | .ndc _ _, .dict => some true
  | .ndc _ _, .cls _ => none
  | .ndc _ _, .ve => none
  | .ndc _ _, _ => some false
  | _, _ => none

/-- the same, errors too -/
def isiE (sub : Nat → Nat → Option Bool) (d : D) (t : Ty) : Option Bool := match d, t with
  | .exc c, .cls c' => sub c c'
  | .exc c, .ve => (sub c c).map fun _ => true
  | d, t => isiD d t
/-- whose methods they are -/
def mthT : Mt → D → Bool
  | .index, .lst _ => true
  | .count, .lst _ => true
  | .split, .str _ => true
  | .join, .str _ => true
  | _, _ => false
/-- methods that change nothing -/
def mthD : Mt → D → List D → Option D
  | .index, .lst xs, [y] => if y.pl 8 && xs.all (D.pl 8) then (xs.findIdx? fun x => D.eqv x y).map fun (i : Nat) => D.int (i : Int) else none
  | .count, .lst xs, [y] => if y.pl 8 && xs.all (D.pl 8) then some (.int (xs.countP fun x => D.eqv x y : Nat)) else none
  | .split, .str x, [y] => (match y with | .str z => (match tlS z with | [c] => if x.length ≤ 100000 ∧ c < 256 then some (.lst (splD c x)) else none | _ => none) | _ => none)
  | .join, .str z, [y] => (match y with | .lst ys => (strsD ys).bind fun ks => if (ks.map (·.length)).sum + ks.length * z.length ≤ 100000 then some (.str (ofL (joinT (tlS z) (ks.map tlS)))) else none | _ => none)
  | _, _, _ => none
/-- what is walked -/
def signsD (x : Str) : List D := x.cps.toList.map fun c => .str ⟨#[c]⟩
def itemsD : D → Option (List D)
  | .lst xs => some xs
  | .tup xs => some xs
  | .str x => if x.length ≤ 1000 then some (signsD x) else none
  | _ => none
/-- a dict's pairs -/
def itemL : D → Option D
  | .dct kvs => if kvs.length ≤ SZ then some (.lst (kvs.map fun kv => .tup [Ky.d kv.1, kv.2])) else none
  | _ => none
def isDctD : D → Bool
  | .dct _ => true
  | _ => false
/-- d.get(k, x) -/
def dgetD : D → D → D → Option D
  | .dct kvs, k, x => (keyD k).map fun k => (getK kvs k).getD x
  | _, _, _ => none
def rangeD (lo hi : Int) : List D := (List.range (hi - lo).toNat).map fun (i : Nat) => .int (lo + i)
def rngD : D → D → Option (List D)
  | .int i, .int j => if i.natAbs ≤ SZ ∧ j.natAbs ≤ SZ then some (rangeD i j) else none
  | _, _ => none

/-! ### the core syntax -/
inductive Tgt where
  | nm (i : Nat)
  | tp (is : List Nat)
  deriving DecidableEq
inductive Cst where
  | non | bl (b : Bool) | int (i : Int) | str (x : Str)
def Cst.d : Cst → D
  | .non => .non
  | .bl b => .bl b
  | .int i => .int i
  | .str x => .str x
mutual
inductive CE where
  | cst (c : Cst)
  | var (i : Nat)
  | glo (g : Nat)
  | bin (o : Op) (a b : CE)
  | neg (a : CE)
  | not (a : CE)
  | cmp (o : Cm) (a b : CE)
  | chn (o p : Cm) (a b c : CE)
  | and (a b : CE)
  | or (a b : CE)
  | ite (t a b : CE)
  | tup (es : CEs)
  | lst (es : CEs)
  | idx (a i : CE)
  | slc (a lo hi : CE)
  | rev (a : CE)
  | call (f : Nat) (es : CEs)
  | bif (f : Bf) (es : CEs)
  | isi (a : CE) (t : Ty)
  | comp (tg : Tgt) (it : CE) (ifs : CE) (elt : CE)
  | compR (tg : Tgt) (lo hi : CE) (ifs : CE) (elt : CE)
  | mth (m : Mt) (a : CE) (es : CEs)
  | oidx (i : Nat) (e : CE)
  | olen (i : Nat)
  | dct0
  | odix (i : Nat) (e : CE)
  | ssort (a : CE)
  | slen (a : CE)
  | ksort (a : CE)
  | klist (a : CE)
  | compK (tg : Tgt) (a : CE) (ifs : CE) (elt : CE)
  | rngl (lo hi : CE)
  | dctd (k : Cst) (a : CE)
  | callO (f g : Nat) (es : CEs)
  | bad
  | ilist (a : CE)
  | dget (a k d : CE)
  | fnv (f : Nat)
  | callV (i : Nat) (es : CEs)
  | oin (n : Bool) (i : Nat) (e : CE)
  | bck (a : CE)
  | two (a : CE)
  | lsr (c : Str) (es : CEs) (a : CE) (y z : Str)
inductive CEs where
  | nil
  | cons (e : CE) (es : CEs)
end

def CE.isAnd : CE → Bool
  | .and _ _ => true
  | _ => false
def CE.isOr : CE → Bool
  | .or _ _ => true
  | _ => false
def CE.isIte : CE → Bool
  | .ite _ _ _ => true
  | _ => false
def CE.isTrue : CE → Bool
  | .cst (.bl true) => true
  | _ => false
def CE.isZero : CE → Bool
  | .cst (.int 0) => true
  | _ => false
def CE.isNon : CE → Bool
  | .cst .non => true
  | _ => false

/-! ### slots -/
inductive Sl where
  | un
  | dat (d : D)
  | own (ds : List D)
  | ownD (kvs : List ((Int ⊕ Str) × D))
  | lkD (kvs : List ((Int ⊕ Str) × D))
  | ownN (dss : List (List D))
abbrev G := List Sl
def G.rd (g : G) (i : Nat) : Option D := match g[i]? with
  | some (.dat d) => some d
  | some (.lkD ks) => some (.dct ks)
  | _ => none
def setAll : G → List Nat → List D → Option G
  | g, [], ds => match ds with | [] => some g | _ :: _ => none
  | g, i :: is, ds => match ds with | [] => none | d :: r => setAll (g.set i (.dat d)) is r
def setT (g : G) (d : D) : Tgt → Option G
  | .nm i => some (g.set i (.dat d))
  | .tp is => match d with | .tup ds => setAll g is ds | .lst ds => setAll g is ds | _ => none
def frzS : Sl → Sl
  | .own ds => .dat (.lst ds)
  | s => s
/-- the slots L are shared from here on -/
def frz (g : G) : List Nat → G
  | [] => g
  | i :: L => frz (match g[i]? with | some s => g.set i (frzS s) | none => g) L

/-- a list in a slot, our own or not -/
def ownL : Option Sl → Option (List D)
  | some (.own ds) => some ds
  | some (.dat (.lst ds)) => some ds
  | _ => none
/-- a dict in a slot, our own or not -/
def ownDc : Option Sl → Option (List (Ky × D))
  | some (.ownD ds) => some ds
  | some (.dat (.dct ds)) => some ds
  | _ => none
mutual
def D.hk (ks : List Ky) : D → Bool
  | .dct kvs => decide (kvs.map (·.1) = ks) || D.hkK ks kvs
  | .tup xs => D.hkL ks xs
  | .lst xs => D.hkL ks xs
  | .ndc _ _ => true
  | _ => false
def D.hkL (ks : List Ky) : List D → Bool
  | [] => false
  | d :: r => D.hk ks d || D.hkL ks r
def D.hkK (ks : List Ky) : List (Ky × D) → Bool
  | [] => false
  | (_, d) :: r => D.hk ks d || D.hkK ks r
end
def Sl.clr (ks : List Ky) : Sl → Sl
  | .dat d => if D.hk ks d then .un else .dat d
  | .own ds => if D.hkL ks ds then .un else .own ds
  | .ownD kvs => if D.hkK ks kvs then .un else .ownD kvs
  | _ => .un
def clrG (ks : List Ky) (g : G) : G := g.map (Sl.clr ks)
def cstK : Cst → Option Ky
  | .int i => some (.inl i)
  | .str x => some (.inr x)
  | _ => none
/-! ### the evaluator -/
abbrev Fs := Nat → List D → S → EV D
def compL (f : D → S → EV (Option D)) : List D → S → EV (List D)
  | [], s => some (.ok [], s)
  | d :: ds, s => match f d s with
    | some (.ok none, s1) => compL f ds s1
    | some (.ok (some e), s1) => rb (compL f ds s1) fun es s2 => some (.ok (e :: es), s2)
    | _ => none
/-- where no error may leave -/
def nox {α : Type} : EV α → EV α
  | some (.exn _, _) => none
  | o => o
def tru (d : D) (s : S) : EV Bool := rp d.truth s

/-- what is called, the module's constants, which error is one of which class -/
structure En where
  Φ : Fs
  gl : Nat → D
  sub : Nat → Nat → Option Bool
  ΦF : Fs
  ΦO : Fs
section
variable (en : En)
mutual
def evE : CE → G → S → EV D
  | .cst c, _, s => some (.ok c.d, s)
  | .var i, g, s => rp (g.rd i) s
  | .glo i, _, s => some (.ok (en.gl i), s)
  | .bin o a b, g, s => rb (evE a g s) fun x s => rb (evE b g s) fun y s => rp (binD o x y) s
  | .neg a, g, s => rb (evE a g s) fun x s => rp (match x with | .int i => some (.int (-i)) | _ => none) s
  | .not a, g, s => rb (evE a g s) fun x s => rb (tru x s) fun b s => some (.ok (.bl (!b)), s)
  | .cmp o a b, g, s => rb (evE a g s) fun x s => rb (evE b g s) fun y s => rp ((cmpD o x y).map D.bl) s
  | .chn o p a b c, g, s => rb (evE a g s) fun x s => rb (evE b g s) fun y s => rb (rp (cmpD o x y) s) fun k s =>
      if k then rb (evE c g s) fun z s => rp ((cmpD p y z).map D.bl) s else some (.ok (.bl false), s)
  | .and a b, g, s => rb (evE a g s) fun x s => rb (tru x s) fun t s => if t then evE b g s else some (.ok x, s)
  | .or a b, g, s => rb (evE a g s) fun x s => rb (tru x s) fun t s => if t then some (.ok x, s) else evE b g s
  | .ite t a b, g, s => rb (evE t g s) fun x s => rb (tru x s) fun t s => if t then evE a g s else evE b g s
  | .tup es, g, s => rb (evEs es g s) fun ds s => if ds.length ≤ SZ then some (.ok (.tup ds), s) else none
  | .lst es, g, s => rb (evEs es g s) fun ds s => if ds.length ≤ SZ then some (.ok (.lst ds), s) else none
  | .idx a i, g, s => rb (evE a g s) fun x s => rb (evE i g s) fun y s => rp (idxD x y) s
  | .slc a lo hi, g, s => rb (evE a g s) fun x s =>
      rb (if lo.isNon then some (.ok none, s) else rb (evE lo g s) fun l s => rp (partD l) s) fun l s =>
      rb (if hi.isNon then some (.ok none, s) else rb (evE hi g s) fun h s => rp (partD h) s) fun h s => rp (slcD x l h) s
  | .rev a, g, s => rb (evE a g s) fun x s => rp (revD x) s
  | .call f es, g, s => rb (evEs es g s) fun ds s => en.Φ f ds s
  | .bif f es, g, s => rb (evEs es g s) fun ds s => rp (bifD f ds s) s
  | .isi a t, g, s => rb (evE a g s) fun x s => rp ((isiE en.sub x t).map D.bl) s
  | .comp tg it ifs elt, g, s => rb (evE it g s) fun x s => rb (rp (itemsD x) s) fun ds s => rb (compL (fun d s =>
      match setT g d tg with
      | none => none
      | some g1 => rb (evE ifs g1 s) fun c s => rb (tru c s) fun t s => if t then rb (evE elt g1 s) fun e s => some (.ok (some e), s) else some (.ok none, s)) ds s)
      fun es s => if es.length ≤ SZ then some (.ok (.lst es), s) else none
  | .compR tg lo hi ifs elt, g, s => rb (evE lo g s) fun x s => rb (evE hi g s) fun y s => rb (rp (rngD x y) s) fun ds s => rb (compL (fun d s =>
      match setT g d tg with
      | none => none
      | some g1 => rb (evE ifs g1 s) fun c s => rb (tru c s) fun t s => if t then rb (evE elt g1 s) fun e s => some (.ok (some e), s) else some (.ok none, s)) ds s)
      fun es s => if es.length ≤ SZ then some (.ok (.lst es), s) else none
  | .mth m a es, g, s => rb (evE a g s) fun x s => if mthT m x then rb (evEs es g s) fun ds s => rp (mthD m x ds) s else none
  | .oidx i e, g, s => (match ownL g[i]? with
      | some ds => rb (evE e g s) fun y s => rp (match y with | .int k => atL ds k | _ => none) s
      | none => none)
  | .olen i, g, s => rp ((ownL g[i]?).map fun ds => .int ds.length) s
  | .dct0, _, s => some (.ok (.dct []), s)
  | .odix i e, g, s => (match ownDc g[i]? with
      | some kvs => rb (evE e g s) fun y s => rp ((keyD y).bind (getK kvs)) s
      | none => none)
  | .ssort a, g, s => rb (evE a g s) fun x s => rp (setSortD x) s
  | .slen a, g, s => rb (evE a g s) fun x s => rp (setLenD x) s
  | .ksort a, g, s => rb (evE a g s) fun x s => rp (keySortD x) s
  | .klist a, g, s => rb (evE a g s) fun x s => rp ((keysL x).map D.lst) s
  | .compK tg it ifs elt, g, s => rb (evE it g s) fun x s => rb (rp (keysD x) s) fun ds s => rb (compL (fun d s =>
      match setT g d tg with
      | none => none
      | some g1 => rb (evE ifs g1 s) fun c s => rb (tru c s) fun t s => if t then rb (evE elt g1 s) fun e s => some (.ok (some e), s) else some (.ok none, s)) ds s)
      fun es s => if es.length ≤ SZ then some (.ok (.lst es), s) else none
  | .rngl lo hi, g, s => rb (evE lo g s) fun x s => rb (evE hi g s) fun y s => rp ((rngD x y).map D.lst) s
  | .dctd k a, g, s => rb (evE a g s) fun x s => rp ((cstK k).map fun k => .dct [(k, x)]) s
  | .callO f h es, g, s => rb (evEs es g s) fun ds s => rb (en.ΦF h ds s) fun d s => en.ΦO f [d] s
  | .bad, _, _ => none
  | .ilist a, g, s => rb (evE a g s) fun x s => rp (itemL x) s
  | .dget a k d, g, s => rb (evE a g s) fun x s => if isDctD x then rb (evE k g s) fun y s => rb (evE d g s) fun z s => rp (dgetD x y z) s else none
  | .fnv f, _, s => some (.ok (.fn f), s)
  | .callV i es, g, s => (match g.rd i with
      | some (.fn f) => rb (nox (evEs es g s)) fun ds s => en.Φ f ds s
      | _ => none)
  | .oin n i e, g, s => (match ownDc g[i]? with
      | some kvs => rb (evE e g s) fun y s => rp ((keyD y).map fun k => .bl (if n then !(getK kvs k).isSome else (getK kvs k).isSome)) s
      | none => none)
  | .bck a, g, s => rb (evE a g s) fun x s => rp (bckD x) s
  | .two a, g, s => rb (evE a g s) fun x s => rp (twoD x) s
  | .lsr c es a y z, g, s => rb (rb (rb (evEs es g s) fun ds s => rb (rb (evE a g s) fun x s => rp (rplD y z x) s) fun d s => some (.ok (ds ++ [d]), s)) fun ds s => some (.ok (.str c :: ds), s)) fun ds s => if ds.length ≤ SZ then some (.ok (.lst ds), s) else none
def evEs : CEs → G → S → EV (List D)
  | .nil, _, s => some (.ok [], s)
  | .cons e es, g, s => rb (evE e g s) fun d s => rb (evEs es g s) fun ds s => some (.ok (d :: ds), s)
end
end

/-! ### statements -/
/-- what an except suite does: the error caught in slot i is put into slot k; or a constant is -/
inductive Hd where
  | exc (i k : Nat)
  | cst (k : Nat) (c : Cst)
mutual
inductive CS where
  | asg (L : List Nat) (i : Nat) (e : CE)
  | own (L : List Nat) (i : Nat) (e : CE)
  | oif (i : Nat) (t : CE) (e : CE)
  | tas (L : List Nat) (is : List Nat) (e : CE)
  | par (L : List Nat) (is : List Nat) (es : CEs)
  | app (L : List Nat) (i : Nat) (e : CE)
  | tap (i : Nat)
  | ext (L : List Nat) (i : Nat) (e : CE)
  | pop (i : Nat)
  | pop0 (i : Nat) (is : List Nat)
  | popk (L : List Nat) (i : Nat) (e : CE)
  | swp (i a b : Nat)
  | lkd (i : Nat)
  | lkk (i : Nat)
  | ulk (i : Nat)
  | ndl (i : Nat) (tg : Tgt) (it : CE)
  | apl (i : Nat) (j : Nat) (e : CE)
  | shn (i : Nat)
  | sti (L : List Nat) (i : Nat) (e v : CE)
  | ex (L : List Nat) (e : CE)
  | ifs (L : List Nat) (t : CE) (a b : CSs)
  | for_ (L : List Nat) (tg : Tgt) (it : CE) (b : CSs)
  | forR (L : List Nat) (tg : Tgt) (lo hi : CE) (b : CSs)
  | forK (L : List Nat) (tg : Tgt) (it : CE) (b : CSs)
  | whl (L : List Nat) (t : CE) (b : CSs)
  | ret (L : List Nat) (e : CE)
  | rtn
  | rse (c : Nat)
  | tr (L : List Nat) (j : Nat) (e : CE) (c : Nat) (h : Hd)
  | pas
  | cnt
  | brk
  | bad
inductive CSs where
  | nil
  | cons (c : CS) (cs : CSs)
end

inductive Fl where
  | nx (g : G)
  | rt (d : D)
  | ct (g : G)
  | bk (g : G)

def forL (tg : Tgt) (b : G → S → EV Fl) : List D → G → S → EV Fl
  | [], g, s => some (.ok (.nx g), s)
  | d :: ds, g, s => match setT g d tg with
    | none => none
    | some g1 => rb (b g1 s) fun f s1 => match f with
      | .nx g2 => forL tg b ds g2 s1
      | .ct g2 => forL tg b ds g2 s1
      | .bk g2 => some (.ok (.nx g2), s1)
      | .rt d => some (.ok (.rt d), s1)
def whF (t : G → S → EV Bool) (b : G → S → EV Fl) : Nat → G → S → EV Fl
  | 0, _, _ => none
  | n + 1, g, s => rb (t g s) fun c s => if c then rb (b g s) fun f s1 => (match f with
      | .nx g2 => whF t b n g2 s1
      | .ct g2 => whF t b n g2 s1
      | .bk g2 => some (.ok (.nx g2), s1)
      | .rt d => some (.ok (.rt d), s1)) else some (.ok (.nx g), s)
theorem whF_mono (t : G → S → EV Bool) (b : G → S → EV Fl) : ∀ (n : Nat) (g : G) (s : S) (r : R Fl × S), whF t b n g s = some r → whF t b (n + 1) g s = some r
  | 0, _, _, _, h => by cases h
  | n + 1, g, s, r, h => by
    rw [whF] at h ⊢
    cases e : t g s with
    | none => rw [e] at h; cases h
    | some p =>
      rw [e] at h
      obtain ⟨c, s1⟩ := p
      cases c with
      | exn c => exact h
      | ok c =>
        cases c with
        | false => exact h
        | true =>
          simp only [rb_ok, if_true] at h ⊢
          cases e2 : b g s1 with
          | none => rw [e2] at h; cases h
          | some p =>
            rw [e2] at h
            obtain ⟨f, s2⟩ := p
            cases f with
            | exn c => exact h
            | ok f =>
              cases f with
              | nx g2 => exact whF_mono t b n g2 s2 r h
              | ct g2 => exact whF_mono t b n g2 s2 r h
              | bk g2 => exact h
              | rt d => exact h
theorem whF_le (t : G → S → EV Bool) (b : G → S → EV Fl) {n m : Nat} {g : G} {s : S} {r : R Fl × S} (h : n ≤ m) (e : whF t b n g s = some r) : whF t b m g s = some r := by
  induction h with
  | refl => exact e
  | step _ ih => exact whF_mono t b _ g s r ih
open Classical in
noncomputable def whO (t : G → S → EV Bool) (b : G → S → EV Fl) (g : G) (s : S) : EV Fl :=
  if h : ∃ (r : R Fl × S) (n : Nat), whF t b n g s = some r then some (Classical.choose h) else none
theorem whO_of {t : G → S → EV Bool} {b : G → S → EV Fl} {g : G} {s : S} {r : R Fl × S} {n : Nat} (h : whF t b n g s = some r) : whO t b g s = some r := by
  unfold whO
  have hx : ∃ (r : R Fl × S) (n : Nat), whF t b n g s = some r := ⟨r, n, h⟩
  rw [dif_pos hx]
  obtain ⟨m, e⟩ := Classical.choose_spec hx
  have e1 := whF_le t b (Nat.le_max_left n m) h
  have e2 := whF_le t b (Nat.le_max_right n m) e
  exact e2.symm.trans e1
theorem whO_fuel {t : G → S → EV Bool} {b : G → S → EV Fl} {g : G} {s : S} {r : R Fl × S} (h : whO t b g s = some r) : ∃ n, whF t b n g s = some r := by
  unfold whO at h
  split at h
  · rename_i hx
    obtain ⟨m, e⟩ := Classical.choose_spec hx
    cases h
    exact ⟨m, e⟩
  · cases h

section
variable (en : En)
/-- an expression at a statement's head, the slots L shared meanwhile, and from then on if a list comes of it -/
def exE (L : List Nat) (e : CE) (g : G) (s : S) (k : D → G → S → EV Fl) : EV Fl :=
  rb (evE en e (frz g L) s) fun d s => k d (if d.lf then g else frz g L) s
def testE (L : List Nat) (e : CE) (g : G) (s : S) : EV Bool := rb (evE en e (frz g L) s) fun d s => tru d s
def owned (g : G) (i : Nat) (k : EV Fl) : EV Fl := match g[i]? with
  | some (.own _) => k
  | _ => none
/-- whether a slot holds something of our own -/
def ownB : Option Sl → Bool
  | some (.own _) => true
  | some (.ownD _) => true
  | _ => false
def ownDB : Option Sl → Bool
  | some (.ownD _) => true
  | _ => false
def appO (g : G) (i : Nat) (f : List D → Option (List D)) : Option G := match g[i]? with
  | some (.own ds) => (f ds).map fun es => g.set i (.own es)
  | _ => none
def appF (d : D) (ds : List D) : Option (List D) := if ds.length < SZ then some (ds ++ [d]) else none
def extF (d : D) (ds : List D) : Option (List D) := match d with
  | .lst es => if ds.length + es.length < SZ then some (ds ++ es) else none
  | _ => none
def setL (ds : List D) (i : Int) (v : D) : Option (List D) :=
  if 0 ≤ i ∧ i < ds.length then some (ds.set i.toNat v) else if i < 0 ∧ -(ds.length : Int) ≤ i then some (ds.set (i + ds.length).toNat v) else none
/-- no list of our own lists -/
def Sl.isN : Sl → Bool
  | .ownN _ => true
  | _ => false
def noN (g : G) : Bool := g.all fun x => !x.isN
/-- at the k-th of our own lists one more -/
def aplF (dss : List (List D)) (k : Nat) (d : D) : Option (List (List D)) := (dss[k]?).bind fun ds => if ds.length < SZ then some (dss.set k (ds ++ [d])) else none
/-- slot i := [[] for .. in ..] -/
def ndlG (g : G) (i : Nat) (d : D) (tg : Tgt) : Option G := (itemsD d).bind fun ds => if ds.length < SZ ∧ noN g = true ∧ (ds.all fun d => (setT g d tg).isSome) = true then some (g.set i (.ownN (ds.map fun _ => []))) else none
def aplB (g : G) (i j : Nat) : Option (List (List D) × Nat) := match g[i]?, g.rd j with
  | some (.ownN dss), some (.int k) => if 0 ≤ k ∧ k.toNat < dss.length ∧ noN (g.set i .un) = true then some (dss, k.toNat) else none
  | _, _ => none
/-- our own lists shared from now on -/
def shnG (g : G) (i : Nat) : G := match g[i]? with
  | some (.ownN dss) => if noN (g.set i .un) = true then g.set i (.dat (.lst (dss.map D.lst))) else g
  | _ => g
/-- the items at two places exchanged -/
def swpL (ds : List D) (i j : Int) : Option (List D) := match atL ds j, atL ds i with
  | some x, some y => (setL ds i x).bind fun es => setL es j y
  | _, _ => none
/-- an error of a try's body, looked at by its clause -/
def trK (sub : Nat → Nat → Option Bool) (c : Nat) (h : Hd) (g : G) (o : EV Fl) : EV Fl := match o with
  | some (.exn c', s1) => (match sub c' c, h with
      | some true, .exc i k => some (.ok (.nx (((g.set i .un).set k (.dat (.exc c'))).set i .un)), s1)
      | some true, .cst k v => some (.ok (.nx (g.set k (.dat v.d))), s1)
      | some false, _ => some (.exn c', s1)
      | none, _ => none)
  | o => o
mutual
noncomputable def evS : CS → G → S → EV Fl
  | .asg L i e, g, s => exE en L e g s fun d g s => some (.ok (.nx (g.set i (.dat d))), s)
  | .own L i e, g, s => rb (evE en e (frz g L) s) fun d s => match d with
      | .lst ds => some (.ok (.nx ((if D.lfL ds then g else frz g L).set i (.own ds))), s)
      | .dct ks => some (.ok (.nx ((if D.lfL (ks.map (·.2)) then g else frz g L).set i (.ownD ks))), s)
      | _ => none
  | .oif i t e, g, s => rb (testE en [] t g s) fun c s => if c then (rb (evE en e (frz g []) s) fun d s => match d with
      | .lst ds => some (.ok (.nx ((if D.lfL ds then g else frz g []).set i (.own ds))), s)
      | .dct ks => some (.ok (.nx ((if D.lfL (ks.map (·.2)) then g else frz g []).set i (.ownD ks))), s)
      | _ => none) else (match ownL g[i]? with
      | some _ => some (.ok (.nx g), s)
      | none => none)
  | .tas L is e, g, s => exE en L e g s fun d g s => rb (rp (setT g d (.tp is)) s) fun g s => some (.ok (.nx g), s)
  | .par L is es, g, s => rb (evEs en es (frz g L) s) fun ds s => rb (rp (setAll (if D.lfL ds then g else frz g L) is ds) s) fun g s => some (.ok (.nx g), s)
  | .app L i e, g, s => owned g i (exE en L e g s fun d g s => rb (rp (appO g i (appF d)) s) fun g s => some (.ok (.nx g), s))
  | .tap i, g, s => match g[i]?, s with
      | some (.dat .town), some n => if n < SZ then some (.ok (.nx g), some (n + 1)) else none
      | _, _ => none
  | .ext L i e, g, s => owned g i (exE en L e g s fun d g s => rb (rp (appO g i (extF d)) s) fun g s => some (.ok (.nx g), s))
  | .pop i, g, s => rb (rp (appO g i fun ds => match ds with | [] => none | _ :: _ => some ds.dropLast) s) fun g s => some (.ok (.nx g), s)
  | .pop0 i is, g, s => (match g[i]? with
      | some (.own (d :: ds)) => rb (rp (setT (g.set i (.own ds)) d (.tp is)) s) fun g s => some (.ok (.nx g), s)
      | _ => none)
  | .sti L i e v, g, s => if ownB g[i]? then rb (evE en v (frz g L) s) fun d s => rb (evE en e (frz g L) s) fun j s => (match (if d.lf && j.lf then g else frz g L)[i]?, j with
      | some (.own ds), .int k => rb (rp (setL ds k d) s) fun ds s => some (.ok (.nx ((if d.lf && j.lf then g else frz g L).set i (.own ds))), s)
      | some (.ownD ks), .non => if ks.length < SZ then some (.ok (.nx ((if d.lf && j.lf then g else frz g L).set i (.dat (.ndc ks d)))), s) else none
      | some (.ownD ks), _ => rb (rp (keyD j) s) fun k s => if ks.length < SZ then some (.ok (.nx ((if d.lf && j.lf then g else frz g L).set i (.ownD (putK ks k d)))), s) else none
      | _, _ => none) else none
  | .lkd i, g, s => some (.ok (.nx (match g[i]? with | some (.ownD ks) => g.set i (.dat (.dct ks)) | _ => g)), s)
  | .lkk i, g, s => some (.ok (.nx (match g[i]? with | some (.ownD ks) => g.set i (.lkD ks) | _ => g)), s)
  | .ulk i, g, s => some (.ok (.nx (match g[i]? with | some (.lkD ks) => if D.hkK (ks.map (·.1)) ks then g else (clrG (ks.map (·.1)) g).set i (.ownD ks) | _ => g)), s)
  | .ndl i tg it, g, s => rb (evE en it g s) fun d s => rb (rp (ndlG g i d tg) s) fun g s => some (.ok (.nx g), s)
  | .apl i j e, g, s => (match aplB g i j with
      | some (dss, k) => rb (evE en e (g.set i .un) s) fun d s => rb (rp (aplF dss k d) s) fun dss s => some (.ok (.nx (g.set i (.ownN dss))), s)
      | none => none)
  | .shn i, g, s => some (.ok (.nx (shnG g i)), s)
  | .popk L i e, g, s => if ownDB g[i]? then rb (evE en e (frz g L) s) fun j s => (match (if j.lf then g else frz g L)[i]? with
      | some (.ownD ks) => rb (rp (keyD j) s) fun k s => if (getK ks k).isSome then some (.ok (.nx ((if j.lf then g else frz g L).set i (.ownD (dropK ks k)))), s) else none
      | _ => none) else none
  | .swp i a b, g, s => (match g[i]?, g.rd a, g.rd b with
      | some (.own ds), some (.int p), some (.int q) => rb (rp (swpL ds p q) s) fun ds s => some (.ok (.nx (g.set i (.own ds))), s)
      | _, _, _ => none)
  | .ex L e, g, s => exE en L e g s fun _ g s => some (.ok (.nx g), s)
  | .ifs L t a b, g, s => rb (testE en L t g s) fun c s => if c then evSs a g s else evSs b g s
  | .for_ L tg it b, g, s => rb (evE en it (frz g L) s) fun x s => rb (rp (itemsD x) s) fun ds s => forL tg (evSs b) ds (frz g L) s
  | .forR L tg lo hi b, g, s => rb (evE en lo (frz g L) s) fun x s => rb (evE en hi (frz g L) s) fun y s => rb (rp (rngD x y) s) fun ds s => forL tg (evSs b) ds (frz g L) s
  | .forK L tg it b, g, s => rb (evE en it (frz g L) s) fun x s => rb (rp (keysD x) s) fun ds s => forL tg (evSs b) ds (frz g L) s
  | .whl L t b, g, s => whO (testE en L t) (evSs b) g s
  | .ret L e, g, s => exE en L e g s fun d _ s => some (.ok (.rt d), s)
  | .rtn, _, s => some (.ok (.rt .non), s)
  | .rse c, _, s => some (.exn c, s)
  | .tr L j e c h, g, s => trK en.sub c h g (exE en L e g s fun d g s => some (.ok (.nx (g.set j (.dat d))), s))
  | .pas, g, s => some (.ok (.nx g), s)
  | .cnt, g, s => some (.ok (.ct g), s)
  | .brk, g, s => some (.ok (.bk g), s)
  | .bad, _, _ => none
noncomputable def evSs : CSs → G → S → EV Fl
  | .nil, g, s => some (.ok (.nx g), s)
  | .cons c cs, g, s => rb (evS c g s) fun f s => match f with
      | .nx g => evSs cs g s
      | f => some (.ok f, s)
end
end

/-! ### a text's defs -/
structure Fd where
  name : Str
  ps : List Str
  N : List Str
  body : CSs
def startG (n : Nat) (ds : List D) : G := ds.map Sl.dat ++ List.replicate (n - ds.length) .un
def runB (o : EV Fl) : EV D := rb o fun f s => match f with
  | .nx _ => some (.ok .non, s)
  | .rt d => some (.ok d, s)
  | _ => none
structure Tb where
  fs : Nat → Option Fd
  gl : Nat → D
  gn : Nat → Option Str
  sub : Nat → Nat → Option Bool
  cn : Nat → Option Str
/-- a body that ends by handing its own list out: what is ahead, the list's slot -/
def unret : CSs → Option (CSs × Nat)
  | .nil => none
  | .cons c cs => (match c, cs with
      | .ret [i] (.var j), .nil => if i = j then some (.nil, i) else none
      | c, cs => (unret cs).map fun p => (.cons c p.1, p.2))
def runF (i : Nat) (o : EV Fl) : EV D := rb o fun f s => match f with
  | .nx g => (match g[i]? with | some (.own ds) => some (.ok (.lst ds), s) | _ => none)
  | _ => none
def startO (n : Nat) (ds : List D) : G := match ds with
  | [.lst xs] => (startG n ds).set 0 (.own xs)
  | _ => []
noncomputable def sem3 (tb : Tb) : Nat → Fs × Fs × Fs
  | 0 => (fun _ _ _ => none, fun _ _ _ => none, fun _ _ _ => none)
  | k + 1 => (fun f ds s => match tb.fs f with
      | none => none
      | some fd => if ds.length = fd.ps.length then runB (evSs ⟨(sem3 tb k).1, tb.gl, tb.sub, (sem3 tb k).2.1, (sem3 tb k).2.2⟩ fd.body (startG fd.N.length ds) s) else none,
    fun f ds s => match tb.fs f with
      | none => none
      | some fd => match unret fd.body with
        | none => none
        | some p => if ds.length = fd.ps.length then runF p.2 (evSs ⟨(sem3 tb k).1, tb.gl, tb.sub, (sem3 tb k).2.1, (sem3 tb k).2.2⟩ p.1 (startG fd.N.length ds) s) else none,
    fun f ds s => match tb.fs f with
      | none => none
      | some fd => if fd.ps.length = 1 then (match ds with
        | [.lst xs] => runB (evSs ⟨(sem3 tb k).1, tb.gl, tb.sub, (sem3 tb k).2.1, (sem3 tb k).2.2⟩ fd.body (startO fd.N.length ds) s)
        | _ => none) else none)
noncomputable def sem (tb : Tb) (k : Nat) : Fs := (sem3 tb k).1
noncomputable def semF (tb : Tb) (k : Nat) : Fs := (sem3 tb k).2.1
noncomputable def semO (tb : Tb) (k : Nat) : Fs := (sem3 tb k).2.2
noncomputable abbrev enOf (tb : Tb) (k : Nat) : En := ⟨sem tb k, tb.gl, tb.sub, semF tb k, semO tb k⟩
theorem sem_succ (tb : Tb) (k f : Nat) (ds : List D) (s : S) : sem tb (k + 1) f ds s = match tb.fs f with
    | none => none
    | some fd => if ds.length = fd.ps.length then runB (evSs (enOf tb k) fd.body (startG fd.N.length ds) s) else none := rfl
theorem semF_succ (tb : Tb) (k f : Nat) (ds : List D) (s : S) : semF tb (k + 1) f ds s = match tb.fs f with
    | none => none
    | some fd => match unret fd.body with
      | none => none
      | some p => if ds.length = fd.ps.length then runF p.2 (evSs (enOf tb k) p.1 (startG fd.N.length ds) s) else none := rfl
theorem semO_succ (tb : Tb) (k f : Nat) (ds : List D) (s : S) : semO tb (k + 1) f ds s = match tb.fs f with
    | none => none
    | some fd => if fd.ps.length = 1 then (match ds with
      | [.lst xs] => runB (evSs (enOf tb k) fd.body (startO fd.N.length ds) s)
      | _ => none) else none := rfl
/-- the law's slots behind its first statement, the town in slot i -/
def lawG (n i : Nat) (ns : List Int) : G := (startG n [.scr ns]).set i (.dat .town)
end FR
/-! FrTb: a claim's table. -/
namespace FR
open PySem (Str)
structure DfC where
  id : Nat
  pos : Nat
  fd : Fd
structure GlC where
  id : Nat
  name : Str
  val : Cst
structure TuC where
  id : Nat
  name : Str
  vals : List Cst
def tuFind (ts : List TuC) (i : Nat) : Option TuC := ts.find? fun d => d.id == i
def fsOf (ds : List DfC) (f : Nat) : Option Fd := (ds.find? fun d => d.id == f).map DfC.fd
def glFind (gs : List GlC) (i : Nat) : Option GlC := gs.find? fun d => d.id == i
def cnOf (cs : List (Nat × Str)) (c : Nat) : Option Str := (cs.find? fun d => d.1 == c).map (·.2)
/-- all errors are below class 0, none below another -/
def isSub (c c' : Nat) : Bool := c' == 0 || c == c'
def mkTb (ds : List DfC) (gs : List GlC) (ts : List TuC) (cs : List (Nat × Str)) : Tb where
  fs := fsOf ds
  gl := fun i => match glFind gs i with
    | some g => g.val.d
    | none => match tuFind ts i with
      | some t => .tup (t.vals.map Cst.d)
      | none => .non
  gn := fun i => match glFind gs i with
    | some g => some g.name
    | none => (tuFind ts i).map TuC.name
  sub := fun c c' => if (cnOf cs c).isSome && (cnOf cs c').isSome then some (isSub c c') else none
  cn := cnOf cs
class Has (tb : Tb) (f : Nat) (body : outParam CSs) (n p : outParam Nat) : Prop where
  h : ∃ fd : Fd, tb.fs f = some fd ∧ fd.body = body ∧ fd.N.length = n ∧ fd.ps.length = p
class HasG (tb : Tb) (i : Nat) (d : outParam D) : Prop where
  h : tb.gl i = d
/-- all the errors' classes are of the table -/
class HasS (tb : Tb) : Prop where
  h : ∀ c d : Fin 9, tb.sub c.val d.val = some (isSub c.val d.val)
theorem sem_of {tb : Tb} {f : Nat} {body : CSs} {n p : Nat} [H : Has tb f body n p] {k : Nat} {ds : List D} {s : S} (h : ds.length = p) : sem tb (k + 1) f ds s = runB (evSs (enOf tb k) body (startG n ds) s) := by
  obtain ⟨fd, e, rfl, rfl, rfl⟩ := H.h
  rw [sem_succ, e]
  exact if_pos h
def LawT (tb : Tb) (fd : Fd) (i k : Nat) : Prop := ∀ ns : List Int, ns.length ≤ 63 → ∃ s', runB (evSs (enOf tb k) fd.body (lawG fd.N.length i ns) (some 0)) = some (.ok (.bl true), s')
end FR
/-! FrSort: texts and ints in order, each once. -/
namespace FR
open PySem (Str)
theorem leS_iff {x y : Str} : leS x y = true ↔ ¬ y.cps.toList < x.cps.toList := by
  unfold leS
  rw [Bool.not_eq_true', decide_eq_false_iff_not]
theorem leS_refl (x : Str) : leS x x = true := leS_iff.mpr (List.lt_irrefl _)
theorem leS_total (x y : Str) : leS x y = true ∨ leS y x = true := by
  rw [leS_iff, leS_iff]
  rcases List.le_total x.cps.toList y.cps.toList with h | h
  · exact .inl h
  · exact .inr h
theorem leS_trans {x y z : Str} (h : leS x y = true) (k : leS y z = true) : leS x z = true := by
  rw [leS_iff] at *
  exact List.le_trans h k
theorem leS_anti {x y : Str} (h : leS x y = true) (k : leS y x = true) : x = y := by
  rw [leS_iff] at *
  have e : x.cps.toList = y.cps.toList := List.le_antisymm h k
  obtain ⟨⟨a⟩⟩ := x
  obtain ⟨⟨b⟩⟩ := y
  have e : a = b := e
  rw [e]
/-- in order -/
def SrtS (l : List Str) : Prop := l.Pairwise fun x y => leS x y = true
theorem insS_perm (x : Str) : ∀ l : List Str, (insS x l).Perm (x :: l)
  | [] => List.Perm.refl _
  | y :: r => by
    unfold insS
    split
    · exact List.Perm.refl _
    · exact ((insS_perm x r).cons y).trans (List.Perm.swap x y r)
theorem insS_srt (x : Str) : ∀ {l : List Str}, SrtS l → SrtS (insS x l)
  | [], _ => List.pairwise_singleton _ _
  | y :: r, h => by
    obtain ⟨h1, h2⟩ := List.pairwise_cons.mp h
    unfold insS
    split
    · rename_i hx
      refine List.pairwise_cons.mpr ⟨fun z hz => ?_, h⟩
      rcases List.mem_cons.mp hz with rfl | hz
      · exact hx
      · exact leS_trans hx (h1 z hz)
    · rename_i hx
      refine List.pairwise_cons.mpr ⟨fun z hz => ?_, insS_srt x h2⟩
      rcases List.mem_cons.mp ((insS_perm x r).mem_iff.mp hz) with rfl | hz
      · exact (leS_total z y).resolve_left hx
      · exact h1 z hz
theorem sortS_perm : ∀ l : List Str, (sortS l).Perm l
  | [] => List.Perm.refl _
  | x :: r => (insS_perm x _).trans ((sortS_perm r).cons x)
theorem sortS_srt : ∀ l : List Str, SrtS (sortS l)
  | [] => List.Pairwise.nil
  | x :: r => insS_srt x (sortS_srt r)
theorem perm_uniq {α : Type} {le : α → α → Prop} (anti : ∀ x y, le x y → le y x → x = y) (refl : ∀ x, le x x) : ∀ {l m : List α}, l.Perm m → l.Pairwise le → m.Pairwise le → l = m
  | [], m, p, _, _ => (List.nil_perm.mp p).symm
  | x :: l, [], p, _, _ => absurd p.length_eq (by simp)
  | x :: l, y :: m, p, h, k => by
    obtain ⟨h1, h2⟩ := List.pairwise_cons.mp h
    obtain ⟨k1, k2⟩ := List.pairwise_cons.mp k
    have e : x = y := by
      have a : le x y := by
        rcases List.mem_cons.mp (p.mem_iff.mpr List.mem_cons_self : y ∈ x :: l) with e | z
        · rw [e]
          exact refl _
        · exact h1 y z
      have b : le y x := by
        rcases List.mem_cons.mp (p.mem_iff.mp List.mem_cons_self : x ∈ y :: m) with e | z
        · rw [e]
          exact refl _
        · exact k1 x z
      exact anti x y a b
    subst e
    rw [perm_uniq anti refl (List.Perm.cons_inv p) h2 k2]
theorem srt_uniq {l m : List Str} (p : l.Perm m) (h : SrtS l) (k : SrtS m) : l = m := perm_uniq (fun _ _ => leS_anti) leS_refl p h k
theorem sort_of {l m : List Str} (p : l.Perm m) (h : SrtS l) : l = sortS m := srt_uniq (p.trans (sortS_perm m).symm) h (sortS_srt m)
/-! ints -/
theorem insI_perm (x : Int) : ∀ l : List Int, (insI x l).Perm (x :: l)
  | [] => List.Perm.refl _
  | y :: r => by
    unfold insI
    split
    · exact List.Perm.refl _
    · exact ((insI_perm x r).cons y).trans (List.Perm.swap x y r)
theorem insI_srt (x : Int) : ∀ {l : List Int}, l.Pairwise (· ≤ ·) → (insI x l).Pairwise (· ≤ ·)
  | [], _ => List.pairwise_singleton _ _
  | y :: r, h => by
    obtain ⟨h1, h2⟩ := List.pairwise_cons.mp h
    unfold insI
    split
    · rename_i hx
      refine List.pairwise_cons.mpr ⟨fun z hz => ?_, h⟩
      rcases List.mem_cons.mp hz with rfl | hz
      · exact hx
      · exact Int.le_trans hx (h1 z hz)
    · rename_i hx
      refine List.pairwise_cons.mpr ⟨fun z hz => ?_, insI_srt x h2⟩
      rcases List.mem_cons.mp ((insI_perm x r).mem_iff.mp hz) with rfl | hz
      · omega
      · exact h1 z hz
theorem sortI_perm : ∀ l : List Int, (sortI l).Perm l
  | [] => List.Perm.refl _
  | x :: r => (insI_perm x _).trans ((sortI_perm r).cons x)
theorem sortI_srt : ∀ l : List Int, (sortI l).Pairwise (· ≤ ·)
  | [] => List.Pairwise.nil
  | x :: r => insI_srt x (sortI_srt r)
theorem sortI_of {l m : List Int} (p : l.Perm m) (h : l.Pairwise (· ≤ ·)) : l = sortI m := perm_uniq (le := (· ≤ ·)) (fun _ _ => Int.le_antisymm) Int.le_refl (p.trans (sortI_perm m).symm) h (sortI_srt m)
/-! each once -/
theorem mem_onceS {x : Str} : ∀ {l : List Str}, x ∈ onceS l ↔ x ∈ l
  | [] => Iff.rfl
  | y :: r => by
    unfold onceS
    split
    · rename_i h
      rw [mem_onceS, List.mem_cons]
      exact ⟨.inr, fun z => z.elim (fun e => e ▸ h) id⟩
    · rw [List.mem_cons, List.mem_cons, mem_onceS]
theorem nodup_onceS : ∀ l : List Str, (onceS l).Nodup
  | [] => List.nodup_nil
  | y :: r => by
    unfold onceS
    split
    · exact nodup_onceS r
    · rename_i h
      exact List.nodup_cons.mpr ⟨fun z => h (mem_onceS.mp z), nodup_onceS r⟩
theorem once_perm {l m : List Str} (n : l.Nodup) (h : ∀ x, x ∈ l ↔ x ∈ m) : l.Perm (onceS m) := (List.perm_ext_iff_of_nodup n (nodup_onceS m)).mpr fun x => (h x).trans mem_onceS.symm
theorem once_len (l : List Str) : (onceS l).length ≤ l.length := by
  induction l with
  | nil => exact Nat.le_refl _
  | cons y r ih =>
    unfold onceS
    split
    · simp
      omega
    · simp
      exact ih
end FR
/-! FrRule1: rules of the machine for dicts that stay as they are. -/
namespace FR
open PySem PySem.Spec PyProof.Rows L2
section
variable {X : Cx}
/-- d[k] by values -/
def rIxK : R2 := fun x y H Q => ∃ a v, x = .ref a ∧ DGet H a y (some v) ∧ Q v H
theorem ix_dictK (hu : X.A.units + 1 < cLine) : IxR X rIxK := fun value slice pins t σ H x y v u Q I rx ry h hs => by
  obtain ⟨a, r, rfl, g, q⟩ := h
  cases rx
  exact tail_any (dict_typeIs I g) slot_dict_getitem.lookup (d_getItem hu I g ry fun z t1 I1 rz => ⟨r, H, I1, rz, q⟩) hs
/-- k in d, k not in d by values -/
def rInK (n : Bool) : R2 := fun x y H Q => ∃ a o, y = .ref a ∧ DGet H a x o ∧ Q (.bl (if n then !o.isSome else o.isSome)) H
theorem op_inK (hu : X.A.units + 1 < cLine) : OpR X (compareOp .In) (rInK false) := fun pins t σ H x y v u Q I rx ry h => by
  obtain ⟨a, o, rfl, g, q⟩ := h
  cases ry
  exact d_in hu I g rx fun t1 I1 => ⟨.bl o.isSome, H, I1, rfl, q⟩
theorem op_ninK (hu : X.A.units + 1 < cLine) : OpR X (compareOp .NotIn) (rInK true) := fun pins t σ H x y v u Q I rx ry h => by
  obtain ⟨a, o, rfl, g, q⟩ := h
  cases ry
  exact d_notIn hu I g rx fun t1 I1 => ⟨.bl (!o.isSome), H, I1, rfl, q⟩
/-- len(d), locked or not -/
def rLenK : List V → Hp → VK → Prop := fun xs H Q => ∃ (d : Addr) (kvs : List (Key × V)), xs = [.ref d] ∧ Rd H d (.dK kvs) ∧ Q (.int kvs.length) H
theorem cr_lenK : CallR X (.builtin "len") rLenK := fun pins t σ H xs us Q I r h => by
  obtain ⟨d, kvs, rfl, e, q⟩ := h
  obtain ⟨u, rfl, ru⟩ := vals1 r
  cases ru
  exact d_len I e fun k t1 I1 => ⟨.int kvs.length, H, I1, ⟨k, rfl⟩, q⟩
/-! ### locks -/
/-- what comes out may be locked -/
def lkP (Q : VK) : VK := fun v H => Q v H ∨ ∃ d u, H d = some u ∧ Mut (some u) ∧ ∀ od, Q v (upd H d (.frz od u))
theorem pe_lkP {e : Expr} {t : TE} (h : PE X e t) : PE X e (fun σ H Q => t σ H (lkP Q)) := ⟨fun pins t1 σ H Q I q => thn (h.run pins t1 σ H _ I q) fun v t2 ⟨x, H1, I1, r, k⟩ => by
  rcases k with k | ⟨d, u, hd, mu, k⟩
  · exact ⟨x, H1, I1, r, k⟩
  · obtain ⟨od, I2⟩ := I1.lock hd mu
    exact ⟨x, _, I2, r, k od⟩⟩
/-! ### d.keys() -/
def KeyV (p d : Addr) : HO := .ext fun h => PySem.W.KdlKeysView h p d
theorem keyV_ok {P : Program} {w : World} {H : Hp} {h : Heap} {p d : Addr} (e : PySem.W.KdlKeysView h p d) : ObjOk P w H h p (KeyV p d) :=
  ⟨e, let ⟨o, ho, _⟩ := e; ⟨o, ho⟩, fun h1 h2 x k => let ⟨o, ho, r⟩ := x; ⟨o, k o ho, r⟩⟩
def tKeys (te : TE) : TE := fun σ H Q => te σ H fun x H1 => ∃ d kvs, x = .ref d ∧ Rd H1 d (.dK kvs) ∧ ∀ p, H1 p = none → Q (.ref p) (upd H1 p (KeyV p d))
theorem pe_keys {e : Expr} {te : TE} {ap cp : Pos} (he : PE X e te) (hb : attributeBase e "keys" X.env (eval e X.env) = eval e X.env) (hl : (ap.endLine == cp.line) = true) : PE X (.Call (.Attribute e "keys" ap) [] [] cp) (tKeys te) :=
  ⟨fun pins t σ H Q I h => by
    refine wpAny_Call_method (T := "dict") (id := "dict.keys") hb rfl hl F.plainAttrs_dict F.slot_dict_keys F.type_dict_keys (thn (he.run pins t σ H _ I h) fun u t1 ⟨x, H1, I1, rx, d, kvs, ex, hd, q⟩ => ?_)
    subst ex
    cases rx
    obtain ⟨z, lo, vs, rel, dd⟩ := dk_rd I1.hok hd
    refine ⟨dd.typeIs, fun b q => ?_, ?_⟩
    · cases q
      obtain ⟨ob, _, _, h1, h2, _⟩ := dd
      exact ⟨ob, h1, h2.2.1⟩
    · have new : PySem.W.KdlKeysView (t1.heap.push { cls := .type "dict_keys", data := .fields #[.ref d] }) t1.heap.objs.size d := ⟨_, Heap.get?_push_size _ rfl, rfl, rfl⟩
      exact method_meetsIn F.slot_dict_keys F.entry_dict_keys rfl (PySem.evalArgs_none ⟨rfl, dd.typeIs, F.args_dict_keys_1 _, _, PySem.W.kdl_meets_keys (mixKind X.prog X.w) d lo, ⟨vs, dd⟩,
        ⟨.ref t1.heap.objs.size, upd H1 t1.heap.objs.size (KeyV t1.heap.objs.size d), I1.laid (t' := t1.toks) (fun b u e => Heap.get?_push_of_some _ e) (Nat.le_refl _) (keyV_ok new), rfl, q _ (I1.hok.fresh (Nat.le_refl _))⟩⟩)⟩
/-- the keys, as a list of values -/
theorem keys_vals {P : Program} {w : World} {kvs : List (Key × V)} {vs : List (Key × Value)} {acc : Array Value} (rk : KV kvs vs) (hacc : ItemsOf (fun i v => ∃ k x, vs[i]? = some (k, x) ∧ (mixKind P w).is k v = true) acc vs.length) : Vals (kvs.map fun kv => kV kv.1) acc.toList := by
  have hl : kvs.length = vs.length := Paired.length rk
  refine vals_of_at (by rw [List.length_map, Array.length_toList (xs := acc), hacc.1, hl]) fun j x u h1 h2 => ?_
  obtain ⟨k, y, e1, e2⟩ := hacc.2 j u (by rw [← Array.getElem?_toList]; exact h2)
  have e3 : (kvs.map (·.1))[j]? = some k := by
    rw [KV.keys rk, List.getElem?_map, e1]
    rfl
  rw [List.getElem?_map] at h1 e3
  cases q : kvs[j]? with
  | none =>
    rw [q] at e3
    cases e3
  | some kv =>
    rw [q] at h1 e3
    cases h1
    cases e3
    exact keyIs_rel e2
/-- list(d.keys()) -/
def rListK : List V → Hp → VK → Prop := fun xs H Q => ∃ (p d : Addr) (kvs : List (Key × V)), xs = [.ref p] ∧ H p = some (KeyV p d) ∧ Rd H d (.dK kvs) ∧ ∀ q, H q = none → Q (.ref q) (upd H q (.lst (kvs.map fun kv => kV kv.1)))
theorem cr_listK (hc : X.calm = true) : CallR X (.type "list") rListK := fun pins t σ H xs us Q I r h => by
  obtain ⟨p, d, kvs, rfl, hp, hd, q⟩ := h
  obtain ⟨u, rfl, ru⟩ := vals1 r
  cases ru
  have kv : PySem.W.KdlKeysView t.heap p d := (I.hok p _ hp).1
  obtain ⟨z, lo, vs, rk, dd⟩ := dk_rd I.hok hd
  obtain ⟨ep, hat⟩ := dd.dictAt
  have hl : kvs.length = vs.length := Paired.length rk
  refine PySem.W.kdl_call (PySem.W.kdl_keys (knd := mixKind X.prog X.w) (kvs := vs) (ep := ep)) (I.ok.hd hc) ⟨kv, hat⟩ (by rw [← hl]; exact z) fun h' tk acc c' kp hS hacc => ?_
  have hz : (kvs.map fun kv => kV kv.1).length ≤ sizeLine := by
    rw [List.length_map]
    exact z
  refine ⟨.ref t.heap.objs.size, _, I.laid (o := .lst (kvs.map fun kv => kV kv.1)) kp (Nat.le_refl _) ⟨hz, acc.toList, c', keys_vals rk hacc, ?_⟩, rfl, q _ (I.hok.fresh (Nat.le_refl _))⟩
  rw [Array.toArray_toList]
  exact hS
theorem strs_of_vals : ∀ {ks : List Str} {us : List Value}, Vals (ks.map V.str) us → StrsAre us ks
  | [], [], .nil => .nil
  | k :: ks, u :: us, .cons h r => by
    obtain ⟨t, rfl⟩ := h
    exact .cons k t (strs_of_vals r)
/-- what sorted makes of texts that were collected -/
theorem sort_texts {pins : List (Addr × Obj)} {σ : L2.St} {H : Hp} {t : Shared} {Q : VK} {acc : List Value} {ks : List Str} (I : Inv X pins σ H t) (hS : StrsAre acc ks) (h64 : ks.length < 64)
    (q : ∀ ys p, ys.Perm ks → sortedS ys = true → H p = none → Q (.ref p) (upd H p (.lst (ys.map V.str)))) {E : Value → Shared → Prop} {A : Around} {P : PySem.Fin → Shared → Prop}
    (hP : ∀ v t1, EP X pins σ Q v t1 → P (.done (.ret v)) t1) : wpAny (model X.prog X.w) A (newList acc >>= fun l => holding [l] (call (.builtin "list.sort") [l] []) >>= fun _ => ret l) P E t := by
  have hal : acc.length = ks.length := by
    clear q hP
    induction hS with
    | nil => rfl
    | cons _ _ _ ih => exact congrArg (· + 1) (ih (by simp at h64; omega))
  have z : acc.length ≤ sizeLine := by
    rw [hal]
    exact Nat.le_trans (Nat.le_of_lt h64) (by decide)
  refine wpAny_bind (wpAny_newList ?_ z)
  generalize hN : t.heap.push (seqObj "list" acc.toArray 0) = N
  have at0 : N.get? t.heap.objs.size = some (seqObj "list" acc.toArray 0) := by
    rw [← hN]
    exact Heap.get?_push_size _ rfl
  refine wpAny_bind (wpAny_holding (wpAny_call_entry PyProof.Rows.slot_list_sort ⟨_, at0, rfl⟩ PyProof.Rows.entry_list_sort (list_sort_treeK strKind_oneLt (s := { t with heap := N }) at0 hS.keysOf (fun a b r e => keyKind_strs (by rw [← e]; exact hS)) (by rw [hal]; exact h64) fun st hp hs => ⟨_, rfl, ?_⟩) (PyProof.Rows.args_list_sort _)))
  obtain ⟨ys, g1, g2, g3⟩ := sorted_out_str hS hp hs
  obtain ⟨c, hc⟩ := PyProof.Rows.sortedHeap_at (vs := acc) (out := (arrOf st).map (·.2)) at0
  have zs : (ys.map V.str).length ≤ sizeLine := by
    rw [List.length_map, g2.length_eq, ← hal]
    exact z
  have ok : ∀ H', ObjOk X.prog X.w H' (PyProof.Rows.sortedHeap N t.heap.objs.size acc ((arrOf st).map (·.2))) t.heap.objs.size (.lst (ys.map V.str)) := fun H' =>
    ⟨zs, ((arrOf st).map (·.2)).toList, c, vals_of_strs g1, by rw [Array.toArray_toList]; exact hc⟩
  refine wpAny_pure (hP _ _ ⟨.ref t.heap.objs.size, upd H t.heap.objs.size (.lst (ys.map V.str)), I.laid (t' := t.toks) (fun b u e => ?_) (Nat.le_refl _) (ok _), rfl, q ys _ g2 g3 (I.hok.fresh (Nat.le_refl _))⟩)
  have lt : b < t.heap.objs.size := Heap.lt_size e
  rw [PyProof.Rows.sortedHeap_old (Nat.ne_of_lt lt) (by rw [← hN, size_push']; exact Nat.lt_succ_of_lt lt), ← hN]
  exact Heap.get?_push_of_some _ e
/-- sorted(d.keys()), of texts -/
def rSortK : List V → Hp → VK → Prop := fun xs H Q => ∃ (p d : Addr) (kvs : List (Key × V)) (ks : List Str), xs = [.ref p] ∧ H p = some (KeyV p d) ∧ Rd H d (.dK kvs) ∧ kvs.map (·.1) = ks.map Sum.inr ∧ ks.length < 64 ∧
  ∀ ys q, ys.Perm ks → sortedS ys = true → H q = none → Q (.ref q) (upd H q (.lst (ys.map V.str)))
theorem cr_sortK (hc : X.calm = true) : CallR X (.builtin "sorted") rSortK := fun pins t σ H xs us Q I r h => by
  obtain ⟨p, d, kvs, ks, rfl, hp, hd, hks, h64, q⟩ := h
  obtain ⟨u, rfl, ru⟩ := vals1 r
  cases ru
  have kv : PySem.W.KdlKeysView t.heap p d := (I.hok p _ hp).1
  obtain ⟨z, lo, vs, rk, dd⟩ := dk_rd I.hok hd
  obtain ⟨ep, hat⟩ := dd.dictAt
  have hl : kvs.length = vs.length := Paired.length rk
  refine Calls.call_function_entry PyProof.Rows.kind_sorted PyProof.Rows.plain_sorted PyProof.Rows.entry_sorted (PyProof.Rows.args_sorted1 _) ?_
  unfold Builtin.«sorted»
  refine wpAny_bind (m := checkCount "sorted" 1 1 _) (wpAny_pure ?_)
  refine wpAny_bind (PySem.W.kdu_collect (A := X.A.in1) (PySem.W.kdl_keys (knd := mixKind X.prog X.w) (kvs := vs) (ep := ep)) (I.ok.hd hc) ⟨kv, hat⟩ (by rw [← hl]; exact z) fun h' tk acc kp hacc => ?_)
  have e1 : (kvs.map fun kv => kV kv.1) = ks.map V.str := by
    have e2 : (kvs.map fun kv => kV kv.1) = (kvs.map (·.1)).map kV := by
      rw [List.map_map]
      rfl
    rw [e2, hks, List.map_map]
    rfl
  have hS : StrsAre acc.toList ks := strs_of_vals (by rw [← e1]; exact keys_vals rk hacc)
  exact sort_texts (t := { t with heap := h', toks := tk }) (I.kept kp) hS h64 q fun v t1 h => ⟨_, rfl, h⟩
end
end FR
/-! FrRule2: set(a list), by what is true of the set item by item; sets of texts. -/
namespace FR
open PySem PySem.Spec PyProof.Rows L2
abbrev nset (w : World) : Obj := { cls := .type "set", dict := none, data := .set #[] 0 (.fresh 0 0 (!w.params.followText "set-order")) }
section
variable {P : Program} {w : World} {A : Around} {E : Value → Shared → Prop} {s : Shared}
/-- what is wanted of a property of the set at S, i items of the list put in, the old heap B kept -/
structure Grows (P : Program) (w : World) (A : Around) (B : Heap) (S : Addr) (items : Array Value) (J : Nat → Heap → Prop) : Prop where
  start : ∀ h : Heap, h.get? S = some (nset w) → (∀ b o, B.get? b = some o → h.get? b = some o) → J 0 h
  keep : ∀ i (h h' : Heap), J i h → (∀ b o, b = S ∨ (∃ u, B.get? b = some u) → h.get? b = some o → h'.get? b = some o) → J i h'
  step : ∀ i v (t : Shared) (Q : Bool → Shared → Prop) (E : Value → Shared → Prop), items[i]? = some v → J i t.heap → (∀ r h' tk, t.toks ≤ tk → Heap.SameBut S t.heap h' → J (i + 1) h' → Q r { t with heap := h', toks := tk }) → wpAny (model P w) A (setAdd S v) Q E t
theorem upd_loop {I : Addr} {fp wr : List Addr} {G : Array GenState → Array GenState → Prop} {items : Array Value} {St : Nat → Shared → Prop} {R : Result → Shared → Prop} {B : Heap} {S : Addr} {J : Nat → Heap → Prop}
    (W : WalksS P w A.in1 I fp wr G items.size (fun i v => items[i]? = some v) St) (gr : Grows P w A.in1 B S items J) (hSf : S ∉ fp) (hw : ∀ b ∈ wr, B.get? b = none) :
    ∀ (k i : Nat) (t : Shared), items.size - i = k → i ≤ items.size → St i t → J i t.heap → (∀ t', Moved (S :: wr) G t t' → J items.size t'.heap → R (.ok (.ret .none)) t') →
      codeAny (model P w) A (.builtin "set.update.loop" ⟨[.ref S, .ref I], []⟩) R t := by
  have nw : S ∉ wr := fun h => hSf (W.sub _ h)
  have more : ∀ b ∈ wr, b ∈ S :: wr := fun b hb => List.mem_cons_of_mem _ hb
  have kp : ∀ {i : Nat} {t t' : Shared}, Moved wr G t t' → J i t.heap → J i t'.heap := fun {i t t'} hm j => gr.keep i _ _ j fun b o hb e => hm.heap b o (fun z => by
    rcases hb with rfl | ⟨u, hu⟩
    · exact nw z
    · rw [hw b z] at hu
      cases hu) e
  intro k
  induction k with
  | zero =>
    intro i t hk hi hst j hR
    obtain rfl : i = items.size := by omega
    refine codeAny_builtin F.entry_set_update_loop ?_
    rw [Around.under_plainId F.plain_set_update_loop _]
    refine wpAny_bind (m := pyNext (.ref I)) (W.done t _ _ hst fun t' hm => ?_)
    exact wpAny_pure (hR t' (hm.mono more) (kp hm j))
  | succ k ih =>
    intro i t hk hi hst j hR
    have lt : i < items.size := by omega
    refine codeAny_builtin F.entry_set_update_loop ?_
    rw [Around.under_plainId F.plain_set_update_loop _]
    refine wpAny_bind (m := pyNext (.ref I)) (W.item i t _ _ lt hst fun v t' hv hst' hm => ?_)
    refine wpAny_bind (m := holding [v] (setAdd S v)) (wpAny_holding ?_)
    refine gr.step i v t' _ _ hv (kp hm j) fun r h' tk htk sb j2 => ?_
    have same : ∀ b o, b ≠ S → t'.heap.get? b = some o → h'.get? b = some o := fun b o hb e => (sb.2 b hb).trans e
    refine wpAny_pure ⟨plainId_quiet F.plain_set_update_loop _, ih (i + 1) { t' with heap := h', toks := tk } (by omega) lt (W.frame _ t' _ _ hst' htk fun b hb o e => same b o (fun z => hSf (z ▸ hb)) e) j2 fun t2 hm2 j3 => ?_⟩
    exact hR t2 (Moved.trans W.gtrans ((hm.mono more).then_heap htk fun b o hb e => same b o (fun z => hb (z ▸ List.mem_cons_self)) e) hm2) j3
theorem set_of_list {l : Addr} {items : Array Value} {J : Nat → Heap → Prop} {Q : Value → Shared → Prop} (hh : A.handled = none) (hl : s.heap.IsList l items) (gr : Grows P w A.in1.in1.in1 s.heap s.heap.objs.size items J)
    (h : ∀ (h' : Heap) (tk : Nat), J items.size h' → (∀ b o, s.heap.get? b = some o → h'.get? b = some o) → Q (.ref s.heap.objs.size) { s with heap := h', toks := tk }) :
    wpAny (model P w) A (call (.type "set") [.ref l]) Q E s := by
  obtain ⟨c, tl, hmro⟩ := F.called_set.mro
  have hmade := F.called_set.made
  have hsub := F.called_set.sub
  have h1 := F.called_set.notType
  have h2 := F.called_set.canCreate
  have hct := F.typeCall_set_1 (.ref l)
  have hli := F.called_set.init.lookup
  have hbi := F.called_set.init.bind (.ref s.heap.objs.size)
  refine wpAny_call (codeAny_of_tree (wpAny_pure ⟨Code.quiet_builtin _ (by decide +kernel), codeAny_builtin F.entry_type_call ?_⟩))
  rw [Around.under_plain (weight_type_call_type "set" [.ref l] []) rfl]
  repeat (any_goals (first | assumption | wp_step))
  refine codeAny_mono (code_set_led1 (.ref l) (E := E) (Q₁ := fun v t => v = .ref s.heap.objs.size ∧ t = { s with heap := s.heap.push (nset w) }) ⟨rfl, rfl⟩) fun r t hr => ?_
  cases r with
  | error e => exact hr
  | ok fl =>
    cases fl with
    | ret v =>
      obtain ⟨rfl, rfl⟩ := hr
      have hS : (s.heap.push (nset w)).get? s.heap.objs.size = some (nset w) := Heap.get?_push_size _ rfl
      have hT : Shared.TypeIs { s with heap := s.heap.push (nset w) } (.ref s.heap.objs.size) "set" := ⟨_, hS, rfl⟩
      repeat (any_goals (first | assumption | wp_step))
      refine codeAny_mono (codeAny_call_builtin (R := wants (fun r t => r = .none ∧ ∃ h' tk, t = { s with heap := h', toks := tk } ∧ J items.size h' ∧ ∀ b o, s.heap.get? b = some o → h'.get? b = some o) E) F.called_set.init.plain F.entry_set_init (check_set_init_1 hT ?_)) fun r t hr => ?_
      · obtain ⟨⟨ocls, odict, odata, oslots⟩, hol, rfl, nl, rfl⟩ := hl
        have lt : l < s.heap.objs.size := Heap.lt_size hol
        have hol' : (s.heap.push (nset w)).get? l = some { cls := .type "list", dict := odict, data := .seq items nl, slots := oslots } := Heap.get?_push_of_some _ hol
        have hl1 : (s.heap.push (nset w)).IsList l items := ⟨_, hol', rfl, nl, rfl⟩
        have hsls := F.sub_list_set
        have hslf := F.sub_list_frozenset
        have hne : (Value.type "list" == Value.type "dict") = false := by decide
        unfold Builtin.«set.__init__» noKeywords Builtin.Frozenset.updateFrom
        generalize hPI : pyIter = PI
        wp_walk
        subst hPI
        refine wpAny_pyIter_list hl1 (wpAny_bind (wpAny_runValue ?_))
        have sz : (s.heap.push (nset w)).objs.size = s.heap.objs.size + 1 := Heap.size_push ..
        have gone : ∀ b, s.heap.objs.size ≤ b → s.heap.get? b = none := fun b hb => by
          cases q : s.heap.get? b with
          | none => rfl
          | some o => exact absurd (Heap.lt_size q) (Nat.not_lt_of_le hb)
        refine upd_loop ((Walks.list (by simp [hh]) _ l (Nat.ne_of_lt (Nat.lt_of_lt_of_eq (Nat.lt_succ_of_lt lt) sz.symm)) items).toS) gr (fun z => by
          rcases List.mem_cons.mp z with z | z
          · exact Nat.lt_irrefl _ (Nat.lt_of_lt_of_eq (Nat.lt_succ_self _) (sz.symm.trans z.symm))
          · exact Nat.lt_irrefl _ (Nat.lt_of_lt_of_eq lt (List.mem_singleton.mp z))) (fun b hb => gone b (by rw [List.mem_singleton.mp hb, sz]; exact Nat.le_succ _)) (items.size - 0) 0 _ rfl (Nat.zero_le _) ⟨⟨_, Heap.get?_push_size _ rfl, rfl, rfl⟩, (hl1.push _)⟩ (gr.start _ (Heap.get?_push_of_some _ hS) fun b o e => Heap.get?_push_of_some _ (Heap.get?_push_of_some _ e)) fun t' hm j => ?_
        obtain ⟨h', g2, d', tk', os'⟩ := t'
        obtain rfl : g2 = s.gens := hm.gens
        obtain rfl : d' = s.drawn := hm.drawn
        obtain rfl : os' = s.os := hm.os
        refine wpAny_pure ?_
        show wpAny _ _ (ret Value.none) _ _ _
        refine wpAny_pure ⟨rfl, h', tk', rfl, j, fun b o e => ?_⟩
        have lb : b < s.heap.objs.size := Heap.lt_size e
        exact hm.heap b o (fun z => by
          rcases List.mem_cons.mp z with z | z
          · exact Nat.lt_irrefl _ (z ▸ lb)
          · have z2 := (List.mem_singleton.mp z).trans sz
            exact Nat.lt_irrefl _ (Nat.lt_trans (Nat.lt_succ_self _) (z2 ▸ lb))) (Heap.get?_push_of_some _ (Heap.get?_push_of_some _ e))
      · cases r with
        | error e => exact hr
        | ok f2 =>
          cases f2 with
          | ret r =>
            obtain ⟨rfl, h', tk, rfl, j, kp⟩ := hr
            repeat (any_goals (first | assumption | wp_step))
            exact h _ _ j kp
          | _ => exact hr.elim
    | _ => exact hr.elim
end
end FR
/-! FrRule3: sets of texts: set(a list), sorted, len. -/
namespace FR
open PySem PySem.Spec PyProof.Rows L2
def keyT (e : Int × Value) : Str := match e.2 with
  | .str k _ => k
  | _ => default
def IsTx (P : Program) (w : World) (e : Int × Value) : Prop := ∃ k tk, e = ((strKind P w).hash k, Value.str k tk)
/-- a set of texts at a, in its table's order -/
structure TxSet (P : Program) (w : World) (h : Heap) (a : Addr) (ks : List Str) (o : Obj) (es : Array (Int × Value)) (ep : Nat) (t : SetTable) : Prop where
  ob : h.get? a = some o
  ex : o.ExactSet
  dat : o.data = .set es ep t
  tx : ∀ e ∈ es.toList, IsTx P w e
  key : es.toList.map keyT = ks
  nd : ks.Nodup
  few : es.size < scanBound
  fits : t.fits es.size = true
  ris : Ris t.place.toList
  led : w.params.followText "set-order" = true ∨ t.led = true
section
variable {P : Program} {w : World} {A : Around} {E : Value → Shared → Prop} {s : Shared} {a : Addr}
theorem tx_elems {l : List (Int × Value)} (h : ∀ e ∈ l, IsTx P w e) : ElemsOf (strKind P w) l := fun e he => by
  obtain ⟨k, tk, rfl⟩ := h e he
  exact ⟨⟨k, strKind_is P w k tk, rfl⟩, rfl⟩
theorem tx_is {e : Int × Value} (h : IsTx P w e) (k : Str) : (strKind P w).is k e.2 = true ↔ keyT e = k := by
  obtain ⟨j, tk, rfl⟩ := h
  rw [KeyKind.is_eq_decide (strKind_is P w j tk) k, decide_eq_true_eq]
  exact eq_comm
/-- behind the table's search: the new entry laid in -/
theorem tx_tail {g : Bool → Sem Unit} (hg : ∀ (b : Bool) (t1 : Shared) (Q : Unit → Shared → Prop), Q () t1 → wpAny (model P w) A (g b) Q E t1) {ks : List Str} {o : Obj} {es es1 : Array (Int × Value)} {ep : Nat} {t t2 : SetTable} (R : TxSet P w s.heap a ks o es ep t)
    (tx1 : ∀ e ∈ es1.toList, IsTx P w e) (nd1 : (es1.toList.map keyT).Nodup) (few1 : es1.size < scanBound) (fits1 : t2.fits es1.size = true) (ris1 : Ris t2.place.toList) (led1 : w.params.followText "set-order" = true ∨ t2.led = true) {wasDummy : Bool} {Z : Option Bool → Shared → Prop}
    (hZ : ∀ h' ks' o' es' ep' t', Heap.SameBut a s.heap h' → TxSet P w h' a ks' o' es' ep' t' → ks'.Perm (es1.toList.map keyT) → Z (some true) { s with heap := h' }) :
    wpAny (model P w) A (storeSet a es1 t2 >>= fun _ => if (!wasDummy && t2.tooFull) = true then g (relayAll t2 es1 (SetTable.grown es1.size)).2.2 >>= fun _ => storeSet a (relayAll t2 es1 (SetTable.grown es1.size)).1 (relayAll t2 es1 (SetTable.grown es1.size)).2.1 >>= fun _ => pure (some true) else pure (some true)) Z E s := by
  refine wpAny_bind (wpAny_storeSet_of R.ob R.dat ?_ (fits_of_scanBound few1))
  have ob1 := store_at (es' := es1) (t' := t2) R.ob R.dat
  have sb1 := Heap.SameBut.update s.heap a (Obj.putSet es1 t2)
  split
  · have pm := relayAll_perm t2 es1 (SetTable.grown es1.size)
    have f3 := relayAll_fits t2 es1 (SetTable.grown es1.size)
    have r3 := relayAll_ris t2 es1 (SetTable.grown es1.size)
    have l3 := relayAll_led t2 es1 (SetTable.grown es1.size)
    generalize relayAll t2 es1 (SetTable.grown es1.size) = Y at pm f3 r3 l3 ⊢
    obtain ⟨es2, t3, gave⟩ := Y
    dsimp only at pm f3 r3 l3 ⊢
    have few2 : es2.size < scanBound := by
      rw [← Array.length_toList, pm.length_eq, Array.length_toList]
      exact few1
    refine wpAny_bind (hg _ _ _ (wpAny_bind (wpAny_storeSet_of ob1 rfl ?_ (fits_of_scanBound few2))))
    refine wpAny_pure (hZ _ _ _ es2 _ t3 (sb1.trans (Heap.SameBut.update _ a _)) ⟨store_at (es' := es2) (t' := t3) ob1 rfl, R.ex, rfl, fun e he => tx1 e (pm.mem_iff.mp he), rfl, (pm.map keyT).nodup_iff.mpr nd1, few2, f3, r3, led1.imp id fun z => by rw [l3]; exact z⟩ (pm.map keyT))
  · exact wpAny_pure (hZ _ _ _ es1 _ t2 sb1 ⟨ob1, R.ex, rfl, tx1, rfl, nd1, few1, fits1, ris1, led1⟩ (List.Perm.refl _))
theorem tx_add {ks : List Str} {o : Obj} {es : Array (Int × Value)} {ep : Nat} {t : SetTable} {k : Str} {tk : Tok} {Q : Bool → Shared → Prop} (R : TxSet P w s.heap a ks o es ep t) (room : ks.length + 1 < scanBound)
    (hQ : ∀ r h' ks' o' es' ep' t', Heap.SameBut a s.heap h' → TxSet P w h' a ks' o' es' ep' t' → ((k ∈ ks ∧ ks' = ks) ∨ ks'.Perm (k :: ks)) → Q r { s with heap := h' }) :
    wpAny (model P w) A (setAddHashed a (.str k tk) ((strKind P w).hash k)) Q E s := by
  have isk : (strKind P w).is k (.str k tk) = true := strKind_is P w k tk
  have sc : (Value.str k tk).scannable = true := rfl
  have el := tx_elems R.tx
  have len : es.size = ks.length := by
    rw [← R.key, List.length_map, Array.length_toList]
  unfold setAddHashed setAddHashedIn
  refine wpAny_holding (wpAny_bind (wpAny_setState_of R.ob R.dat R.fits ?_))
  dsimp only
  rw [byScan_of sc R.few el]
  simp only [↓reduceIte]
  unfold setAddByScan
  refine wpAny_bind (wpAny_bind (wpAny_rule (wpAny_bind (wpAny_setScan_of isk R.ob R.dat R.fits el ?_))))
  cases fi : List.findIdx? (fun e => (strKind P w).is k e.2) es.toList with
  | some j =>
    dsimp only
    obtain ⟨hj, pj, _⟩ := List.findIdx?_eq_some_iff_getElem.mp fi
    have mk : k ∈ ks := by
      rw [← R.key]
      exact List.mem_map.mpr ⟨_, List.getElem_mem hj, (tx_is (R.tx _ (List.getElem_mem hj)) k).mp pj⟩
    exact wpAny_pure (wpAny_pure (hQ _ s.heap ks o es ep t (Heap.SameBut.refl a s.heap) R (.inl ⟨mk, rfl⟩)))
  | none =>
    dsimp only
    have nk : k ∉ ks := fun z => by
      rw [← R.key] at z
      obtain ⟨e, he, q⟩ := List.mem_map.mp z
      have := List.findIdx?_eq_none_iff.mp fi e he
      rw [(tx_is (R.tx e he) k).mpr q] at this
      cases this
    have gw : ∀ (b : Bool) {t1 : Shared} {Q' : Unit → Shared → Prop}, Q' () t1 → wpAny (model P w) A (match b with | true => rule "set.scan.the-table-gave-way" | false => pure ()) Q' E t1 := fun b t1 Q' q => by
      cases b
      · exact wpAny_pure q
      · exact wpAny_rule q
    have pm := layNew_perm t es ((strKind P w).hash k) (.str k tk)
    have f1 := layNew_fits t es ((strKind P w).hash k) (.str k tk)
    have r1 := layNew_ris t es ((strKind P w).hash k) (.str k tk) R.ris
    have l1 := layNew_led t es ((strKind P w).hash k) (.str k tk)
    generalize layNew t es ((strKind P w).hash k) (.str k tk) = Y at pm f1 r1 l1 ⊢
    obtain ⟨es1, t1, wasDummy, gave⟩ := Y
    dsimp only at pm f1 r1 l1 ⊢
    rw [Array.toList_push] at pm
    have pc : es1.toList.Perm (((strKind P w).hash k, Value.str k tk) :: es.toList) := pm.trans (List.perm_append_singleton _ _)
    have pk : (es1.toList.map keyT).Perm (k :: ks) := by
      have := pc.map keyT
      rw [List.map_cons, R.key] at this
      exact this
    have tx1 : ∀ e ∈ es1.toList, IsTx P w e := fun e he => by
      rcases List.mem_cons.mp (pc.mem_iff.mp he) with z | z
      · exact ⟨k, tk, z⟩
      · exact R.tx e z
    have nd1 : (es1.toList.map keyT).Nodup := pk.nodup_iff.mpr (List.nodup_cons.mpr ⟨nk, R.nd⟩)
    have few1 : es1.size < scanBound := by
      rw [← Array.length_toList, pc.length_eq, List.length_cons, Array.length_toList, len]
      exact room
    have led1 : w.params.followText "set-order" = true ∨ t1.led = true := R.led.imp id fun z => by rw [l1]; exact z
    have fin : ∀ h' ks' o' es' ep' t', Heap.SameBut a s.heap h' → TxSet P w h' a ks' o' es' ep' t' → ks'.Perm (es1.toList.map keyT) → Q true { s with heap := h' } := fun h' ks' o' es' ep' t' sb R' p => hQ true h' ks' o' es' ep' t' sb R' (.inr (p.trans pk))
    refine wpAny_bind (gw _ ?_)
    split
    · refine wpAny_bind ?_
      rw [hashByValue_scannable 8 sc]
      refine wpAny_pure ?_
      refine tx_tail (fun b t2 Q' q => ?_) R tx1 nd1 few1 ?_ ?_ ?_ fun h' ks' o' es' ep' t' sb R' p => wpAny_pure (fin h' ks' o' es' ep' t' sb R' p)
      · cases b
        · exact wpAny_pure q
        · exact wpAny_rule q
      · first | (split <;> first | exact f1 | exact SetTable.fits_plain_off f1) | exact f1
      · first | (split <;> exact r1) | exact r1
      · first | (split <;> exact led1) | exact led1
    · refine wpAny_bind (wpAny_pure ?_)
      simp only [↓reduceIte]
      refine tx_tail (fun b t2 Q' q => ?_) R tx1 nd1 few1 f1 r1 led1 fun h' ks' o' es' ep' t' sb R' p => wpAny_pure (fin h' ks' o' es' ep' t' sb R' p)
      cases b
      · exact wpAny_pure q
      · exact wpAny_rule q
theorem strs_get : ∀ {us : List Value} {ns : List Str} {i : Nat} {v : Value}, StrsAre us ns → us[i]? = some v → ∃ k tk, ns[i]? = some k ∧ v = Value.str k tk
  | _, _, _, _, .nil, e => by simp at e
  | _, _, 0, _, .cons y tk _, e => by
    cases e
    exact ⟨y, tk, rfl, rfl⟩
  | _, _, i + 1, _, .cons y tk h, e => strs_get h (i := i) (by simpa using e)
/-- the texts of a list, put into a set -/
theorem tx_grows {items : Array Value} {names : List Str} (B : Heap) (S : Addr) (hi : StrsAre items.toList names) (room : names.length + 1 < scanBound) (hA : B.get? S = none) :
    Grows P w A B S items fun i h => ∃ ks o es ep t, TxSet P w h S ks o es ep t ∧ ks.length ≤ i ∧ i ≤ names.length ∧ ∀ x, x ∈ ks ↔ x ∈ names.take i where
  start := fun h hS _ => ⟨[], _, #[], 0, _, ⟨hS, ⟨rfl, rfl, rfl⟩, rfl, fun e he => by simp at he, rfl, List.nodup_nil, by decide, by rfl, List.Pairwise.nil, by
    show _ ∨ (!w.params.followText "set-order") = true
    cases w.params.followText "set-order" <;> simp⟩, Nat.le_refl _, Nat.zero_le _, fun x => by simp⟩
  keep := fun i h h' ⟨ks, o, es, ep, t, R, r⟩ k => ⟨ks, o, es, ep, t, ⟨k S o (.inl rfl) R.ob, R.ex, R.dat, R.tx, R.key, R.nd, R.few, R.fits, R.ris, R.led⟩, r⟩
  step := fun i v t Q E hv ⟨ks, o, es, ep, tb, R, hl, _, hm⟩ hQ => by
    obtain ⟨k, tk, hk, rfl⟩ : ∃ k tk, names[i]? = some k ∧ v = Value.str k tk := by
      exact strs_get hi (by rw [Array.getElem?_toList]; exact hv)
    have lt : i < names.length := (List.getElem?_eq_some_iff.mp hk).1
    unfold setAdd
    refine wpAny_holding (wpAny_bind ((strKind P w).pyHash (k := k) (strKind_is _ _ _ _) ?_))
    refine tx_add (s := { t with toks := t.toks + 1 }) R (by omega) fun r h' ks' o' es' ep' t' sb R' c => hQ r h' _ (Nat.le_succ _) sb ⟨ks', o', es', ep', t', R', ?_, lt, fun x => ?_⟩
    · rcases c with ⟨_, rfl⟩ | p
      · omega
      · rw [p.length_eq, List.length_cons]
        omega
    · rw [List.take_add_one, hk]
      show x ∈ ks' ↔ x ∈ names.take i ++ [k]
      rw [List.mem_append, List.mem_singleton, ← hm x]
      rcases c with ⟨m, rfl⟩ | p
      · exact ⟨.inl, fun h => h.elim id fun e => e ▸ m⟩
      · rw [p.mem_iff, List.mem_cons]
        exact Or.comm
end
section
variable {X : Cx}
/-- a set of texts, as the heap tells it: its members in the table's order -/
def TxO (P : Program) (w : World) (a : Addr) (ks : List Str) : HO := .ext fun h => ∃ o es ep t, TxSet P w h a ks o es ep t
theorem txO_ok {P : Program} {w : World} {H : Hp} {h : Heap} {a : Addr} {ks : List Str} (R : ∃ o es ep t, TxSet P w h a ks o es ep t) : ObjOk P w H h a (TxO P w a ks) :=
  ⟨R, let ⟨o, _, _, _, r⟩ := R; ⟨o, r.ob⟩, fun h1 h2 ⟨o, es, ep, t, r⟩ k => ⟨o, es, ep, t, ⟨k o r.ob, r.ex, r.dat, r.tx, r.key, r.nd, r.few, r.fits, r.ris, r.led⟩⟩⟩
/-- set(xs), xs a list of texts -/
def rSetT (K : PySem.W.Frag) (P : Program) (w : World) : List V → Hp → VK → Prop := fun xs H Q => ∃ (l : Addr) (names : List Str), xs = [.ref l] ∧ SqL K H l (names.map V.str) ∧ names.length ≤ 1000 ∧
  ∀ p ks, H p = none → ks.Nodup → (∀ x, x ∈ ks ↔ x ∈ names) → Q (.ref p) (upd H p (TxO P w p ks))
theorem cr_setT (hc : X.calm = true) : CallR X (.type "set") (rSetT X.K X.prog X.w) := fun pins t σ H xs us Q I r h => by
  obtain ⟨l, names, rfl, hl, hn, q⟩ := h
  obtain ⟨u, rfl, ru⟩ := vals1 r
  cases ru
  obtain ⟨its, rv, pl, _⟩ := I.list hl
  have hs : StrsAre its.toArray.toList names := strs_of_vals rv
  have fr : t.heap.get? t.heap.objs.size = none := by
    cases e : t.heap.get? t.heap.objs.size with
    | none => rfl
    | some o => exact absurd (Heap.lt_size e) (Nat.lt_irrefl _)
  have room : names.length + 1 < scanBound := by
    unfold scanBound
    omega
  refine set_of_list (I.ok.hd hc) pl.isList (tx_grows t.heap t.heap.objs.size hs room fr) fun h' tk ⟨ks, o, es, ep, tb, R, _, hi, hm⟩ kp => ?_
  have hz : its.toArray.size = names.length := by
    rw [List.size_toArray, ← rv.length, List.length_map]
  rw [hz, List.take_length] at hm
  exact ⟨.ref t.heap.objs.size, _, I.laid (o := TxO X.prog X.w t.heap.objs.size ks) kp (Nat.le_refl _) (txO_ok ⟨o, es, ep, tb, R⟩), rfl, q _ ks (I.hok.fresh (Nat.le_refl _)) R.nd hm⟩
/-- sorted(a set of texts) -/
def rSortT (P : Program) (w : World) : List V → Hp → VK → Prop := fun xs H Q => ∃ (a : Addr) (ks : List Str), xs = [.ref a] ∧ H a = some (TxO P w a ks) ∧ ks.length < 64 ∧ ∀ ys q, ys.Perm ks → sortedS ys = true → H q = none → Q (.ref q) (upd H q (.lst (ys.map V.str)))
theorem tx_strs {P : Program} {w : World} : ∀ {es : List (Int × Value)}, (∀ e ∈ es, IsTx P w e) → StrsAre (es.map (·.2)) (es.map keyT)
  | [], _ => .nil
  | e :: es, h => by
    obtain ⟨k, tk, rfl⟩ := h e List.mem_cons_self
    exact .cons k tk (tx_strs fun e he => h e (List.mem_cons_of_mem _ he))
theorem strs_perm : ∀ {us vs : List Value} {ks : List Str}, us.Perm vs → StrsAre vs ks → ∃ js, StrsAre us js ∧ js.Perm ks := by
  intro us vs ks p
  induction p generalizing ks with
  | nil => exact fun h => ⟨ks, h, List.Perm.refl _⟩
  | cons x _ ih =>
    intro h
    cases h with
    | cons y t h =>
      obtain ⟨js, h1, h2⟩ := ih h
      exact ⟨y :: js, .cons y t h1, h2.cons y⟩
  | swap x y l =>
    intro h
    cases h with
    | cons a t h =>
      cases h with
      | cons b u h => exact ⟨b :: a :: _, .cons b u (.cons a t h), List.Perm.swap _ _ _⟩
  | trans _ _ ih1 ih2 =>
    intro h
    obtain ⟨js, h1, h2⟩ := ih2 h
    obtain ⟨is, h3, h4⟩ := ih1 h1
    exact ⟨is, h3, h4.trans h2⟩
theorem cr_sortT (hc : X.calm = true) : CallR X (.builtin "sorted") (rSortT X.prog X.w) := fun pins t σ H xs us Q I r h => by
  obtain ⟨a, ks, rfl, ha, h64, q⟩ := h
  obtain ⟨u, rfl, ru⟩ := vals1 r
  cases ru
  obtain ⟨o, es, ep, tb, R⟩ := (I.hok a _ ha).1
  refine Calls.call_function_entry PyProof.Rows.kind_sorted PyProof.Rows.plain_sorted PyProof.Rows.entry_sorted (PyProof.Rows.args_sorted1 _) ?_
  unfold Builtin.«sorted»
  refine wpAny_bind (m := checkCount "sorted" 1 1 _) (wpAny_pure ?_)
  refine wpAny_bind (collect_set (A := X.A.in1) (I.ok.hd hc) ⟨o, R.ob, R.ex.1, R.dat⟩ R.fits R.few R.ris R.led fun t1 vs kp hz hg ho pm => ?_)
  obtain ⟨js, h1, h2⟩ := strs_perm pm (tx_strs R.tx)
  rw [R.key] at h2
  have J : Inv X pins σ H { t with heap := t1.heap, gens := t1.gens, drawn := t1.drawn, toks := t1.toks } := I.call (ch := []) (Un.kept kp) (I.hok.kept kp) (by rw [hg]; exact I.bare) (fun _ z => nomatch z)
  have e : { t with heap := t1.heap, gens := t1.gens, drawn := t1.drawn, toks := t1.toks } = t1 := by
    cases t1
    cases t
    cases ho
    rfl
  rw [e] at J
  exact sort_texts J h1 (by rw [h2.length_eq]; exact h64) (fun ys p p1 => q ys p (p1.trans h2)) fun v t2 h => ⟨_, rfl, h⟩
/-- len(a set of texts) -/
def rLenT (P : Program) (w : World) : List V → Hp → VK → Prop := fun xs H Q => ∃ (a : Addr) (ks : List Str), xs = [.ref a] ∧ H a = some (TxO P w a ks) ∧ Q (.int ks.length) H
theorem cr_lenT : CallR X (.builtin "len") (rLenT X.prog X.w) := fun pins t σ H xs us Q I r h => by
  obtain ⟨a, ks, rfl, ha, q⟩ := h
  obtain ⟨u, rfl, ru⟩ := vals1 r
  cases ru
  obtain ⟨o, es, ep, tb, R⟩ := (I.hok a _ ha).1
  have len : es.size = ks.length := by
    rw [← R.key, List.length_map, Array.length_toList]
  refine call_len_set R.ob R.ex R.dat R.fits (by have z := fits_of_scanBound R.few; rw [sizeLine_eq] at z; omega) ⟨.int ks.length, H, I.tok _, ⟨_, by rw [len]⟩, q⟩
end
end FR
/-! FrRule4: dicts of plain data compared. -/
namespace FR
open PySem PySem.Spec PyProof.Rows L2
/-- a dict's pairs and their data -/
def DpK (K : PySem.W.Frag) (H : Hp) (kvs : List (Key × V)) (ps : List (Key × PyData)) : Prop := Paired (fun kv p => kv.1 = p.1 ∧ Dp K H kv.2 p.2 ∧ SeqAt.shaped p.2 = true) kvs ps
def getP (ps : List (Key × PyData)) (k : Key) : Option PyData := (ps.find? fun kv => decide (kv.1 = k)).map (·.2)
def hitB (ps qs : List (Key × PyData)) : Bool := ps.all fun p => match getP qs p.1 with
  | some d => PyData.eqv p.2 d
  | none => false
theorem DpK.get {K : PySem.W.Frag} {H : Hp} {kvs : List (Key × V)} {ps : List (Key × PyData)} (h : DpK K H kvs ps) (k : Key) : (valV kvs k = none ∧ getP ps k = none) ∨ ∃ v d, valV kvs k = some v ∧ getP ps k = some d ∧ Dp K H v d ∧ SeqAt.shaped d = true := by
  unfold DpK at h
  induction h with
  | nil => exact .inl ⟨rfl, rfl⟩
  | @cons kv p r ps hp _ ih =>
    obtain ⟨e, d, sh⟩ := hp
    by_cases q : kv.1 = k
    · right
      refine ⟨kv.2, p.2, valV_pos q, ?_, d, sh⟩
      unfold getP
      rw [List.find?_cons, decide_eq_true (e ▸ q)]
      rfl
    · have q2 : ¬ p.1 = k := fun z => q (e.trans z)
      rw [valV_neg q]
      have e2 : getP (p :: ps) k = getP ps k := by
        unfold getP
        rw [List.find?_cons, decide_eq_false q2]
      rw [e2]
      exact ih
section
variable {X : Cx} {pins : List (Addr × Obj)} {σ : L2.St} {H : Hp} {t : Shared}
theorem hits_data (I : Inv X pins σ H t) {A : Around} (hu : A.units + 64 < cLine) {ls : List (Key × V)} {qs : List (Key × PyData)} {vb : List (Key × Value)} (hq : DpK X.K H ls qs) (rb : KV ls vb) :
    ∀ {ks : List (Key × V)} {ps : List (Key × PyData)} {va : List (Key × Value)}, DpK X.K H ks ps → KV ks va → PySem.W.KeqHits A t vb va (hitB ps qs) := by
  intro ks ps va hp ra
  unfold DpK at hp
  induction hp generalizing va with
  | nil =>
    cases ra
    exact .nil
  | @cons kv p ks ps hd _ ih =>
    obtain ⟨e, d, sh⟩ := hd
    unfold KV at ra
    cases ra with
    | @cons _ q _ va' h1 h2 =>
      obtain ⟨k, v⟩ := q
      obtain ⟨e1, r1⟩ := h1
      have e1 : kv.1 = k := e1
      have ih := ih h2
      unfold hitB
      rw [List.all_cons]
      have hk : p.1 = k := e.symm.trans e1
      rcases hq.get k with ⟨n1, n2⟩ | ⟨u, d2, n1, n2, dp2, sh2⟩
      · rw [hk, n2]
        have rr := rb.val k
        rw [n1] at rr
        cases z : valueAt vb k with
        | none => exact .miss z
        | some y =>
          rw [z] at rr
          exact (show False from rr).elim
      · rw [hk, n2]
        have rr := rb.val k
        rw [n1] at rr
        obtain ⟨y, hy, ry⟩ := rr.some_of
        obtain ⟨as, rd1⟩ := Dp.reads I _ _ _ d r1
        obtain ⟨bs, rd2⟩ := Dp.reads I _ _ _ dp2 ry
        exact .hit hy (SeqAt.eqAt_reads _ _ A t _ _ as bs rd1 rd2 (SeqAt.canLay_of_shaped sh) (SeqAt.canLay_of_shaped sh2) (SeqAt.room_of_shaped sh hu)) ih
end
section
variable {X : Cx}
def rEqK (K : PySem.W.Frag) (n : Bool) : R2 := fun x y H Q => ∃ a b ks ls ps qs, x = .ref a ∧ y = .ref b ∧ Rd H a (.dK ks) ∧ Rd H b (.dK ls) ∧ DpK K H ks ps ∧ DpK K H ls qs ∧ Q (.bl (if n then !(ks.length == ls.length && hitB ps qs) else (ks.length == ls.length && hitB ps qs))) H
theorem op_eqK (hu : X.A.units + 65 < cLine) : OpR X (compareOp .Eq) (rEqK X.K false) := fun pins t σ H x y v u Q I rx ry h => by
  obtain ⟨a, b, ks, ls, ps, qs, rfl, rfl, ha, hb, hp, hq, q⟩ := h
  cases rx
  cases ry
  obtain ⟨_, ya, va, ra, da⟩ := dk_rd I.hok ha
  obtain ⟨_, yb, vb, rb, db⟩ := dk_rd I.hok hb
  refine PySem.W.keq_eq (knd := mixKind X.prog X.w) (r := hitB ps qs) ya yb da db (by omega) (fun _ => hits_data I (A := X.A.in1) (by show X.A.units + 1 + 64 < cLine; omega) hq rb hp ra) ⟨.bl (va.length == vb.length && hitB ps qs), H, I, rfl, ?_⟩
  rw [← ra.length, ← rb.length]
  exact q
theorem op_neK (hu : X.A.units + 65 < cLine) : OpR X (compareOp .NotEq) (rEqK X.K true) := fun pins t σ H x y v u Q I rx ry h => by
  obtain ⟨a, b, ks, ls, ps, qs, rfl, rfl, ha, hb, hp, hq, q⟩ := h
  cases rx
  cases ry
  obtain ⟨_, ya, va, ra, da⟩ := dk_rd I.hok ha
  obtain ⟨_, yb, vb, rb, db⟩ := dk_rd I.hok hb
  refine PySem.W.keq_ne (knd := mixKind X.prog X.w) (r := hitB ps qs) ya yb da db (by omega) (fun _ => hits_data I (A := X.A.in1) (by show X.A.units + 1 + 64 < cLine; omega) hq rb hp ra) ⟨.bl (!(va.length == vb.length && hitB ps qs)), H, I, rfl, ?_⟩
  rw [← ra.length, ← rb.length]
  exact q
end
end FR
/-! FrRule5: == and != of lists and tuples within one model, item by item. -/
namespace FR
open PySem PySem.Spec PyProof.Rows L2
open PySem.AutoSeq1 (wpAny_loadPart')
open PySem.MeetsSeq PySem.MeetsSeq2 PySem.MeetsSeq3 PySem.SeqRoads2
section
variable {P : Program} {w : World}
/-- a list as the heap keeps it -/
abbrev lsO (T : String) (d : Option Addr) (xs : Array Value) (n : Nat) (sl : Array (Option Value)) : Obj := { cls := .type T, dict := d, data := .seq xs n, slots := sl }
/-- items alike, place by place -/
abbrev Alk (P : Program) (w : World) (A : Around) (s : Shared) (xs ys : Array Value) (f : Nat → Bool) : Prop := ∀ j (h1 : j < xs.size) (h2 : j < ys.size), SeqAt.EqP P w A.in1 s xs[j] ys[j] (f j)
theorem from_next {n i : Nat} (h : i < n) (f : Nat → Bool) : ((List.range n).drop i).all f = (f i && ((List.range n).drop (i + 1)).all f) := by
  have hl : i < (List.range n).length := by rw [List.length_range]; exact h
  rw [List.drop_eq_getElem_cons hl, List.all_cons, List.getElem_range]
theorem from_end {n i : Nat} (h : n ≤ i) (f : Nat → Bool) : ((List.range n).drop i).all f = true := by
  rw [List.drop_eq_nil_of_le (by rw [List.length_range]; exact h)]
  rfl
theorem neLoop {x y : Addr} {xs ys : Array Value} {n m : Nat} {d e : Option Addr} {sl sm : Array (Option Value)} (hz : xs.size = ys.size) (f : Nat → Bool) : ∀ (r i : Nat), xs.size = i + r →
    MeetsIn P w (Builtin.«list.__eq__.loop» ⟨[.ref x, .ref y, rawInt i, rawInt 3], []⟩) fun A R s => s.heap.get? x = some (lsO "list" d xs n sl) ∧ s.heap.get? y = some (lsO "list" e ys m sm) ∧ Alk P w A s xs ys f ∧ R (.ok (.ret (.bool (!((List.range xs.size).drop i).all f)))) s
  | 0, i, hr => by
    intro A R s h
    obtain ⟨hx, hy, _, q⟩ := h
    obtain ⟨h0, h1, h2, h3, h4⟩ := s
    have ei : (i : Int).toNat = i := Int.toNat_natCast i
    have g1 : xs[(i : Int).toNat]? = none := by rw [ei]; exact Array.getElem?_eq_none (by omega)
    have g2 : ys[(i : Int).toNat]? = none := by rw [ei]; exact Array.getElem?_eq_none (by omega)
    rw [from_end (by omega)] at q
    wp_walk using wpAny_loadPart' hx, wpAny_loadPart' hy
    rw [g1, g2]
    wp_walk using wpAny_loadPart' hx, wpAny_loadPart' hy
    have e2 : (xs.size != ys.size) = false := by simp [hz]
    show R (.ok (.ret (.bool (xs.size != ys.size)))) _
    rw [e2]
    exact q
  | r + 1, i, hr => by
    intro A R s h
    obtain ⟨hx, hy, ha, q⟩ := h
    obtain ⟨h0, h1, h2, h3, h4⟩ := s
    have ei : (i : Int).toNat = i := Int.toNat_natCast i
    have l1 : i < xs.size := by omega
    have l2 : i < ys.size := by omega
    have g1 : xs[(i : Int).toNat]? = some xs[i] := by rw [ei]; exact Array.getElem?_eq_getElem l1
    have g2 : ys[(i : Int).toNat]? = some ys[i] := by rw [ei]; exact Array.getElem?_eq_getElem l2
    have en : (i : Int) + 1 = ((i + 1 : Nat) : Int) := (Int.natCast_add i 1).symm
    rw [from_next l1] at q
    wp_walk using wpAny_loadPart' hx, wpAny_loadPart' hy
    rw [g1, g2]
    refine wpAny_bind (ha i l1 l2 _ _ ?_)
    cases z : f i with
    | false =>
      rw [z] at q
      wp_walk using wpAny_loadPart' hx, wpAny_loadPart' hy
      rw [g1, g2]
      wp_walk
      exact q
    | true =>
      rw [z, Bool.true_and] at q
      wp_walk
      rw [en]
      refine ⟨plainId_quiet plain_eq_loop _, codeAny_builtin entry_eq_loop ?_⟩
      rw [Around.under_plainId plain_eq_loop _]
      exact neLoop hz f r (i + 1) (by omega) A R _ ⟨hx, hy, ha, q⟩
theorem neList {x y : Addr} {xs ys : Array Value} {n m : Nat} {d e : Option Addr} {sl sm : Array (Option Value)} (hz : xs.size = ys.size) (f : Nat → Bool) :
    MeetsIn P w (Builtin.«list.__ne__» ⟨[.ref x, .ref y], []⟩) fun A R s => s.heap.get? x = some (lsO "list" d xs n sl) ∧ s.heap.get? y = some (lsO "list" e ys m sm) ∧ Alk P w A s xs ys f ∧ R (.ok (.ret (.bool (!(List.range xs.size).all f)))) s := by
  intro A R s h
  obtain ⟨hx, hy, ha, q⟩ := h
  obtain ⟨h0, h1, h2, h3, h4⟩ := s
  have sub := AutoSeq1.sub_list_list
  have same : ¬ (xs.size != ys.size) = true := by simp [hz]
  wp_walk using wpAny_loadPart' hx, wpAny_loadPart' hy
  refine ⟨plainId_quiet plain_eq_loop _, codeAny_builtin entry_eq_loop ?_⟩
  rw [Around.under_plainId plain_eq_loop _]
  exact neLoop hz f xs.size 0 (Nat.zero_add _).symm A R _ ⟨hx, hy, ha, q⟩
/-- two tuples, item by item: n tells != -/
def tupAns (n : Bool) (a b : Nat) (f : Nat → Bool) (i : Nat) : Bool := n != (((List.range (min a b)).drop i).all f && a == b)
theorem neTup {x y : Addr} {xs ys : Array Value} {n m : Nat} {d e : Option Addr} {sl sm : Array (Option Value)} (f : Nat → Bool) :
    MeetsIn P w (Builtin.«tuple.__ne__» ⟨[.ref x, .ref y], []⟩) fun A R s => s.heap.get? x = some (lsO "tuple" d xs n sl) ∧ s.heap.get? y = some (lsO "tuple" e ys m sm) ∧ Alk P w A s xs ys f ∧ R (.ok (.ret (.bool (tupAns true xs.size ys.size f 0)))) s := by
  intro A R s h
  obtain ⟨hx, hy, ha, q⟩ := h
  obtain ⟨h0, h1, h2, h3, h4⟩ := s
  have sub := AutoSeq1.sub_tuple_tuple
  have zl : (xs.toList.zip ys.toList).length = min xs.size ys.size := by rw [List.length_zip]; rfl
  wp_walk using wpAny_loadPart' hx, wpAny_loadPart' hy, wpAny_forIn_list _ (fun rest st s' => st.1 = none ∧ s' = ⟨h0, h1, h2, h3, h4⟩ ∧ ∃ i, rest = (xs.toList.zip ys.toList).drop i ∧ R (.ok (.ret (.bool (tupAns true xs.size ys.size f i)))) ⟨h0, h1, h2, h3, h4⟩) _
  case turn =>
    rintro ⟨u, v⟩ rest st s' ⟨z0, rfl, i, z1, z2⟩
    have il : i < (xs.toList.zip ys.toList).length := Nat.lt_of_not_le fun z => by
      rw [List.drop_eq_nil_of_le z] at z1
      cases z1
    have im : i < min xs.size ys.size := by rw [← zl]; exact il
    have i1 : i < xs.size := by omega
    have i2 : i < ys.size := by omega
    rw [List.drop_eq_getElem_cons il, List.getElem_zip] at z1
    cases z1
    unfold tupAns at z2
    rw [from_next im] at z2
    rw [Array.getElem_toList, Array.getElem_toList]
    refine wpAny_bind (ha i i1 i2 _ _ ?_)
    cases z : f i with
    | false =>
      rw [z] at z2
      wp_walk
      exact z2
    | true =>
      rw [z, Bool.true_and] at z2
      wp_walk
      exact ⟨rfl, rfl, i + 1, rfl, z2⟩
  case fin =>
    rintro ⟨u, v⟩ s' ⟨z0, rfl, i, z1, z2⟩
    cases z0
    have ge : min xs.size ys.size ≤ i := Nat.le_of_not_lt fun z => by
      rw [List.drop_eq_getElem_cons (by rw [zl]; exact z)] at z1
      cases z1
    unfold tupAns at z2
    rw [from_end ge, Bool.true_and] at z2
    wp_walk
    have : (true != (xs.size == ys.size)) = (xs.size != ys.size) := by
      unfold bne
      cases (xs.size == ys.size) <;> rfl
    rw [this] at z2
    simpa [Builtin.Tuple.tupleCompareSizes] using z2
  case h => exact ⟨rfl, rfl, 0, rfl, q⟩
end

/-! ### nested lists, tuples, dicts that are alike -/
def LeafV (K : PySem.W.Frag) (H : Hp) (x y : V) : Prop := ∃ d e, Dp K H x d ∧ Dp K H y e ∧ SeqAt.shaped d = true ∧ SeqAt.shaped e = true ∧ PyData.eqv d e = true
def SmR (K : PySem.W.Frag) (H : Hp) (F : V → V → Prop) (x y : V) : Prop := ∃ a b, x = .ref a ∧ y = .ref b ∧
  ((∃ xs ys, SqL K H a xs ∧ SqL K H b ys ∧ Paired F xs ys) ∨ (∃ xs ys, SqT K H a xs ∧ SqT K H b ys ∧ Paired F xs ys) ∨
    ∃ ks ls, Rd H a (.dK ks) ∧ Rd H b (.dK ls) ∧ ks.length = ls.length ∧ ∀ p ∈ ks, ∃ u, valV ls p.1 = some u ∧ F p.2 u)
def SmV (K : PySem.W.Frag) (H : Hp) : Nat → V → V → Prop
  | 0 => LeafV K H
  | n + 1 => fun x y => LeafV K H x y ∨ SmR K H (SmV K H n) x y
theorem paired_at {F : V → V → Prop} {xs ys : List V} (h : Paired F xs ys) : ∀ {us vs : List Value}, Vals xs us → Vals ys vs → ∀ j (h1 : j < us.length) (h2 : j < vs.length), ∃ x y, F x y ∧ RelV x us[j] ∧ RelV y vs[j] := by
  induction h with
  | nil =>
    intro us vs r1 _ j h1
    cases r1
    exact absurd h1 (Nat.not_lt_zero j)
  | cons h0 _ ih =>
    intro us vs r1 r2 j h1 h2
    cases r1 with
    | cons a1 b1 =>
      cases r2 with
      | cons a2 b2 =>
        cases j with
        | zero => exact ⟨_, _, h0, a1, a2⟩
        | succ j => exact ih b1 b2 j (Nat.lt_of_succ_lt_succ h1) (Nat.lt_of_succ_lt_succ h2)
theorem kv_mem {ks : List (Key × V)} {va : List (Key × Value)} (r : KV ks va) {k : Key} {v : Value} (h : (k, v) ∈ va) : ∃ p ∈ ks, p.1 = k ∧ RelV p.2 v := by
  unfold KV at r
  induction r with
  | nil => cases h
  | @cons p q ps qs h0 _ ih =>
    rcases List.mem_cons.mp h with z | z
    · subst z
      exact ⟨p, List.mem_cons_self, h0.1, h0.2⟩
    · obtain ⟨p', m, e⟩ := ih z
      exact ⟨p', List.mem_cons_of_mem _ m, e⟩
section
variable {X : Cx} {pins : List (Addr × Obj)} {σ : L2.St} {H : Hp} {t : Shared}
theorem leaf_tree (I : Inv X pins σ H t) {x y : V} {u v : Value} {n : Nat} (h : LeafV X.K H x y) (rx : RelV x u) (ry : RelV y v) : PySem.W.EqTree X.prog X.w t (n + 64) u v true := by
  obtain ⟨d, e, hd, he, sd, se, q⟩ := h
  obtain ⟨as, r1⟩ := Dp.reads I d x u hd rx
  obtain ⟨bs, r2⟩ := Dp.reads I e y v he ry
  refine .leaf fun A hu => ?_
  rw [← q]
  exact SeqAt.eqAt_reads d e A t u v as bs r1 r2 (SeqAt.canLay_of_shaped sd) (SeqAt.canLay_of_shaped se) (SeqAt.room_of_shaped sd (by omega))
theorem all_true (n : Nat) : ((List.range n).all fun _ => true) = true := List.all_eq_true.mpr fun _ _ => rfl
theorem tree_of (I : Inv X pins σ H t) : ∀ {n : Nat} {x y : V} {u v : Value}, SmV X.K H n x y → RelV x u → RelV y v → PySem.W.EqTree X.prog X.w t (n + 64) u v true
  | 0, x, y, u, v, h, rx, ry => leaf_tree (n := 0) I h rx ry
  | n + 1, x, y, u, v, h, rx, ry => by
    rcases h with h | ⟨a, b, rfl, rfl, h⟩
    · exact leaf_tree I h rx ry
    · cases rx
      cases ry
      by_cases e : a = b
      · subst e
        exact .same
      · have en : n + 1 + 64 = n + 64 + 1 := by omega
        rw [en]
        rcases h with ⟨xs, ys, h1, h2, p⟩ | ⟨xs, ys, h1, h2, p⟩ | ⟨ks, ls, h1, h2, hl, p⟩
        · obtain ⟨us, r1, p1, _⟩ := I.list h1
          obtain ⟨vs, r2, p2, _⟩ := I.list h2
          have z : us.toArray.size = vs.toArray.size := by
            rw [List.size_toArray, List.size_toArray, ← r1.length, ← r2.length]
            exact Paired.length p
          have := PySem.W.EqTree.lists (prog := X.prog) (w := X.w) (s := t) (n := n + 64) (e := fun _ => true) e p1.isList p2.isList z fun j j1 j2 => by
            obtain ⟨x, y, f, rx, ry⟩ := paired_at p r1 r2 j (by simpa using j1) (by simpa using j2)
            have := tree_of I f rx ry
            simpa using this
          rwa [all_true] at this
        · obtain ⟨us, r1, p1, _⟩ := I.tuple h1
          obtain ⟨vs, r2, p2, _⟩ := I.tuple h2
          have z : us.toArray.size = vs.toArray.size := by
            rw [List.size_toArray, List.size_toArray, ← r1.length, ← r2.length]
            exact Paired.length p
          have := PySem.W.EqTree.tuples (prog := X.prog) (w := X.w) (s := t) (n := n + 64) (e := fun _ => true) e p1 p2 fun j j1 j2 => by
            obtain ⟨x, y, f, rx, ry⟩ := paired_at p r1 r2 j (by simpa using j1) (by simpa using j2)
            have := tree_of I f rx ry
            simpa using this
          rw [all_true, z] at this
          simpa using this
        · obtain ⟨_, ya, va, ra, da⟩ := dk_rd I.hok h1
          obtain ⟨_, yb, vb, rb, db⟩ := dk_rd I.hok h2
          have := PySem.W.EqTree.dicts (prog := X.prog) (w := X.w) (s := t) (n := n + 64) (e := fun _ => true) e ya yb da db fun k v y hm hv => by
            obtain ⟨q, qm, rfl, rq⟩ := kv_mem ra hm
            obtain ⟨u, eu, f⟩ := p q qm
            have rr : RelO (some u) (valueAt vb q.1) := by rw [← eu]; exact rb.val q.1
            rw [hv] at rr
            exact tree_of I f rq rr
          have ln : (va.length == vb.length) = true := by
            rw [← ra.length, ← rb.length, hl]
            simp
          have hit : (va.all fun p => (valueAt vb p.1).isSome && true) = true := List.all_eq_true.mpr fun q hq => by
            obtain ⟨k, v⟩ := q
            obtain ⟨r, rm, rfl, _⟩ := kv_mem ra hq
            obtain ⟨u, eu, _⟩ := p r rm
            have rr : RelO (some u) (valueAt vb r.1) := by rw [← eu]; exact rb.val r.1
            obtain ⟨y, hy, _⟩ := rr.some_of
            rw [hy]
            rfl
          rwa [ln, hit] at this
/-- x == y (n: x != y) where all is alike -/
def rSame (K : PySem.W.Frag) (n : Bool) : R2 := fun x y H Q => ∃ a b, x = .ref a ∧ y = .ref b ∧
  ((∃ xs ys, SqL K H a xs ∧ SqL K H b ys ∧ Paired (SmV K H 5) xs ys) ∨ (∃ xs ys, SqT K H a xs ∧ SqT K H b ys ∧ Paired (SmV K H 5) xs ys)) ∧ Q (.bl (!n)) H
theorem op_same (hu : X.A.units + 70 < cLine) : OpR X (compareOp .Eq) (rSame X.K false) := fun pins t σ H x y u v Q I rx ry h => by
  obtain ⟨a, b, rfl, rfl, h, q⟩ := h
  cases rx
  cases ry
  have fin : ∃ y H', Inv X pins σ H' t ∧ RelV y (.bool true) ∧ Q y H' := ⟨.bl true, H, I, rfl, q⟩
  rcases h with ⟨xs, ys, h1, h2, p⟩ | ⟨xs, ys, h1, h2, p⟩
  · obtain ⟨us, r1, p1, _⟩ := I.list h1
    obtain ⟨vs, r2, p2, _⟩ := I.list h2
    have z : us.toArray.size = vs.toArray.size := by
      rw [List.size_toArray, List.size_toArray, ← r1.length, ← r2.length]
      exact Paired.length p
    refine PySem.W.eq_listsT (n := 69) (e := fun _ => true) p1.isList p2.isList z (fun j j1 j2 => ?_) (by omega) ?_
    · obtain ⟨x, y, f, rx, ry⟩ := paired_at p r1 r2 j (by simpa using j1) (by simpa using j2)
      have := tree_of I f rx ry
      simpa using this
    · rw [all_true]
      exact fin
  · obtain ⟨us, r1, p1, _⟩ := I.tuple h1
    obtain ⟨vs, r2, p2, _⟩ := I.tuple h2
    have z : us.toArray.size = vs.toArray.size := by
      rw [List.size_toArray, List.size_toArray, ← r1.length, ← r2.length]
      exact Paired.length p
    refine PySem.W.eq_tuplesT (n := 69) (e := fun _ => true) p1 p2 (fun j j1 j2 => ?_) (by omega) ?_
    · obtain ⟨x, y, f, rx, ry⟩ := paired_at p r1 r2 j (by simpa using j1) (by simpa using j2)
      have := tree_of I f rx ry
      simpa using this
    · have ok : ((List.range (min us.toArray.size vs.toArray.size)).all (fun _ => true) && us.toArray.size == vs.toArray.size) = true := by
        rw [all_true, z]
        simp
      rw [ok]
      exact fin
theorem op_differ (hu : X.A.units + 70 < cLine) : OpR X (compareOp .NotEq) (rSame X.K true) := fun pins t σ H x y u v Q I rx ry h => by
  obtain ⟨a, b, rfl, rfl, h, q⟩ := h
  cases rx
  cases ry
  have fin : ∃ y H', Inv X pins σ H' t ∧ RelV y (.bool false) ∧ Q y H' := ⟨.bl false, H, I, rfl, q⟩
  rcases h with ⟨xs, ys, h1, h2, p⟩ | ⟨xs, ys, h1, h2, p⟩
  · obtain ⟨us, r1, p1, _⟩ := I.list h1
    obtain ⟨vs, r2, p2, _⟩ := I.list h2
    have z : us.toArray.size = vs.toArray.size := by
      rw [List.size_toArray, List.size_toArray, ← r1.length, ← r2.length]
      exact Paired.length p
    obtain ⟨⟨c1, d1, dt1, s1⟩, o1, k1, n1, e1⟩ := p1.isList
    obtain ⟨⟨c2, d2, dt2, s2⟩, o2, k2, n2, e2⟩ := p2.isList
    cases k1
    cases k2
    cases e1
    cases e2
    have ta : t.TypeIs (.ref a) "list" := ⟨_, o1, rfl⟩
    have tb : t.TypeIs (.ref b) "list" := ⟨_, o2, rfl⟩
    refine wpAny_richCompare_same_room (op := .NotEq) ta tb F.slot_list_ne (call_meetsIn F.slot_list_ne ta F.entry_list_ne (F.args_list_ne_2 _ _) (neList z fun _ => true) ⟨o1, o2, fun j j1 j2 => ?_, ?_⟩) (by omega)
    · obtain ⟨x, y, f, rx, ry⟩ := paired_at p r1 r2 j (by simpa using j1) (by simpa using j2)
      have h3 : SeqAt.EqP X.prog X.w X.A.in1 t _ _ true := (tree_of I f rx ry).at X.A.in1 (by show X.A.units + 1 + _ < cLine; omega)
      simpa using h3
    · rw [all_true]
      exact ⟨(fun z => nomatch z), fin⟩
  · obtain ⟨us, r1, p1, _⟩ := I.tuple h1
    obtain ⟨vs, r2, p2, _⟩ := I.tuple h2
    have z : us.toArray.size = vs.toArray.size := by
      rw [List.size_toArray, List.size_toArray, ← r1.length, ← r2.length]
      exact Paired.length p
    obtain ⟨⟨c1, d1, dt1, s1⟩, o1, k1, n1, e1⟩ := id p1
    obtain ⟨⟨c2, d2, dt2, s2⟩, o2, k2, n2, e2⟩ := id p2
    cases k1
    cases k2
    cases e1
    cases e2
    have ta : t.TypeIs (.ref a) "tuple" := ⟨_, o1, rfl⟩
    have tb : t.TypeIs (.ref b) "tuple" := ⟨_, o2, rfl⟩
    refine wpAny_richCompare_same_room (op := .NotEq) ta tb F.slot_tuple_ne (call_meetsIn F.slot_tuple_ne ta F.entry_tuple_ne (F.args_tuple_ne_2 _ _) (neTup fun _ => true) ⟨o1, o2, fun j j1 j2 => ?_, ?_⟩) (by omega)
    · obtain ⟨x, y, f, rx, ry⟩ := paired_at p r1 r2 j (by simpa using j1) (by simpa using j2)
      have h3 : SeqAt.EqP X.prog X.w X.A.in1 t _ _ true := (tree_of I f rx ry).at X.A.in1 (by show X.A.units + 1 + _ < cLine; omega)
      simpa using h3
    · have ans : tupAns true us.toArray.size vs.toArray.size (fun _ => true) 0 = false := by
        unfold tupAns
        rw [List.drop_zero, all_true, z]
        simp
      rw [ans]
      exact ⟨(fun z => nomatch z), fin⟩
end
end FR
/-! FrRule6: list(d.items()) of a dict, locked or not. -/
namespace FR
open PySem PySem.Spec PyProof.Rows L2
/-- the pairs of a dict, each a new tuple, in a new list -/
def rItR : V → Hp → VK → Prop := fun x H Q => ∃ (d : Addr) (kvs : List (Key × V)), x = .ref d ∧ Rd H d (.dK kvs) ∧
  ∀ (H' : Hp) (p : Addr) (ts : List Addr), Same H H' → H p = none → (∀ a ∈ ts, H a = none) → p ∉ ts → H' p = some (.lst (ts.map V.ref)) →
    Paired (fun (a : Addr) (kv : Key × V) => H' a = some (.tup [kV kv.1, kv.2])) ts kvs → Q (.ref p) H'
def tItR (te : TE) : TE := fun σ H Q => te σ H fun x H1 => rItR x H1 Q
section
variable {X : Cx}
theorem pe_itemsR {e : Expr} {te : TE} {p ap cp pos : Pos} (hc : X.calm = true) (he : PE X e te) (hg : Gl X "list") (hm : X.mg "list" = none) (hb : attributeBase e "items" X.env (eval e X.env) = eval e X.env) (hl : (ap.endLine == cp.line) = true) :
    PE X (.Call (.Name "list" p) [.Call (.Attribute e "items" ap) [] [] cp] [] pos) (tItR te) := ⟨fun pins t σ H Q I h => by
  have one : starEach [.Call (.Attribute e "items" ap) [] [] cp] X.env = (false, eval (.Call (.Attribute e "items" ap) [] [] cp) X.env) :: starEach [] X.env := rfl
  have bl : bootBuiltins "list" = some (.type "list") := by decide +kernel
  refine wpAny_Call_Name_kw (ld_blt I hg hm bl (PyProof.Rows.callWith_type1 ?_ one rfl))
  rw [one]
  refine Calls.spliced_cons (wpAny_Call_method (T := "dict") (id := "dict.items") hb rfl hl F.plainAttrs_dict F.slot_dict_items F.type_dict_items (thn (he.run pins t σ H _ I h) fun u t1 ⟨x, H1, I1, rx, d, kvs, ex, hd, q⟩ => ?_))
  subst ex
  cases rx
  obtain ⟨z, lo, vs, rk, dd⟩ := dk_rd I1.hok hd
  obtain ⟨ep, hat⟩ := dd.dictAt
  have ln : kvs.length = vs.length := Paired.length rk
  have J : Inv X pins σ H1 { t1 with heap := t1.heap.push { cls := .type "dict_items", data := .fields #[.ref d] } } := I1.kept (t' := t1.toks) fun b u e => Heap.get?_push_of_some _ e
  refine ⟨dd.typeIs, dd.mapOf.noDict, ?_⟩
  refine method_meetsIn F.slot_dict_items F.entry_dict_items rfl (PySem.evalArgs_none ⟨rfl, dd.typeIs, F.args_dict_items_1 _, _, meets_dict_items (mixKind X.prog X.w) d lo, ⟨vs, dd⟩, Calls.spliced_nil ?_⟩)
  refine PySem.W.kdx_call (knd := mixKind X.prog X.w) (kvs := vs) (ep := ep) (I1.ok.hd hc) ⟨_, Heap.get?_push_size _ rfl, rfl, rfl⟩ (hat.push _) (by rw [← ln]; exact z) fun h' tk acc c as k0 kS kl kG ka => ?_
  obtain ⟨H', a1, a2, a3, a4, a5, a6, J2⟩ := LiI.items_laid (tk := tk) J z rk k0 kS kl kG ka
  exact ⟨.ref _, H', J2, rfl, q H' _ as (fun b o e => a1 b o e) a2 a3 a4 a5 a6⟩⟩
end
end FR
/-! FrRule7: sets of things that stand on the heap: set(a list), len; pairs of pairs of ints. -/
namespace FR
open PySem PySem.Spec PyProof.Rows L2
/-! ### small questions asked of a tuple, item by item -/
section
variable {P : Program} {w : World} {A : Around} {E : Value → Shared → Prop} {s : Shared}
theorem noCls_tup {n : Nat} {b : Addr} {items : Array Value} {Q : Bool → Shared → Prop} (ht : s.heap.IsTuple b items) (hi : ∀ v ∈ items.toList, ∀ Q' : Bool → Shared → Prop, Q' false s → wpAny (model P w) A (ofAClassStatement n v) Q' E s) (q : Q false s) :
    wpAny (model P w) A (ofAClassStatement (n + 1) (.ref b)) Q E s := by
  obtain ⟨o, ho, hc, m, hd⟩ := ht
  have ty : s.TypeIs (.ref b) "tuple" := ⟨o, ho, hc⟩
  unfold ofAClassStatement
  refine wpAny_bind (wpAny_typeOf ty ?_)
  dsimp only
  rw [show (("tuple" : String) == "tuple") = true from by decide]
  simp only [if_true, Bool.not_true, Bool.false_eq_true, if_false]
  try refine wpAny_bind (wpAny_pure ?_)
  try simp only [Bool.not_true, Bool.false_eq_true, if_false]
  show wpAny _ _ (seqItems? (.ref b) >>= _) _ _ s
  refine wpAny_bind (wpAny_seqItems ho hd ?_)
  dsimp only
  refine wpAny_bind ?_
  show wpAny _ _ (forIn items _ _) _ _ s
  rw [← Array.forIn_toList]
  refine wpAny_forIn_list _ (fun rest r t => r.1 = none ∧ t = s ∧ ∀ v ∈ rest, v ∈ items.toList) _ (fun v rest r t ⟨e1, e2, hr⟩ => ?_) (fun ⟨r1, r2⟩ t ⟨e1, e2, _⟩ => ?_) _ _ ⟨rfl, rfl, fun v hv => hv⟩
  · subst e2
    refine wpAny_bind (hi v (hr v List.mem_cons_self) _ ?_)
    simp only [Bool.false_eq_true, if_false]
    exact wpAny_pure ⟨rfl, rfl, fun u hu => hr u (List.mem_cons_of_mem _ hu)⟩
  · simp only at e1
    subst e1 e2
    exact wpAny_pure q
theorem byVal_tup {n : Nat} {b : Addr} {items : Array Value} {Q : Bool → Shared → Prop} (ht : s.heap.IsTuple b items) (hi : ∀ v ∈ items.toList, ∀ Q' : Bool → Shared → Prop, Q' true s → wpAny (model P w) A (hashByValue n v) Q' E s) (q : Q true s) :
    wpAny (model P w) A (hashByValue (n + 1) (.ref b)) Q E s := by
  obtain ⟨o, ho, hc, m, hd⟩ := ht
  have ty : s.TypeIs (.ref b) "tuple" := ⟨o, ho, hc⟩
  unfold hashByValue
  refine wpAny_bind (wpAny_specialOf ty F.slot_tuple_hash.lookup ?_)
  show wpAny _ _ (seqItems? (.ref b) >>= _) _ _ s
  refine wpAny_bind (wpAny_seqItems ho hd ?_)
  refine wpAny_bind ?_
  show wpAny _ _ (forIn items _ _) _ _ s
  rw [← Array.forIn_toList]
  refine wpAny_forIn_list _ (fun rest r t => r.1 = none ∧ t = s ∧ ∀ v ∈ rest, v ∈ items.toList) _ (fun v rest r t ⟨e1, e2, hr⟩ => ?_) (fun ⟨r1, r2⟩ t ⟨e1, e2, _⟩ => ?_) _ _ ⟨rfl, rfl, fun v hv => hv⟩
  · subst e2
    refine wpAny_bind (hi v (hr v List.mem_cons_self) _ ?_)
    simp only [Bool.not_true, Bool.false_eq_true, if_false]
    exact wpAny_pure ⟨rfl, rfl, fun u hu => hr u (List.mem_cons_of_mem _ hu)⟩
  · simp only at e1
    subst e1 e2
    exact wpAny_pure q
theorem quiet_tup {n : Nat} {b : Addr} {items : Array Value} {Q : Bool → Shared → Prop} (ht : s.heap.IsTuple b items) (hi : ∀ v ∈ items.toList, ∀ Q' : Bool → Shared → Prop, Q' true s → wpAny (model P w) A (eqIsQuiet n v) Q' E s) (q : Q true s) :
    wpAny (model P w) A (eqIsQuiet (n + 1) (.ref b)) Q E s := by
  obtain ⟨o, ho, hc, m, hd⟩ := ht
  have ty : s.TypeIs (.ref b) "tuple" := ⟨o, ho, hc⟩
  unfold eqIsQuiet
  refine wpAny_bind (wpAny_specialOf ty F.slot_tuple_eq.lookup ?_)
  show wpAny _ _ (isInstance (.ref b) (.type "tuple") >>= _) _ _ s
  refine wpAny_bind (wpAny_isInstance ty isSubtype_tuple_tuple ?_)
  simp only [Bool.not_true, Bool.false_eq_true, if_false]
  refine wpAny_bind (wpAny_seqItems ho hd ?_)
  refine wpAny_bind ?_
  show wpAny _ _ (forIn items _ _) _ _ s
  rw [← Array.forIn_toList]
  refine wpAny_forIn_list _ (fun rest r t => r.1 = none ∧ t = s ∧ ∀ v ∈ rest, v ∈ items.toList) _ (fun v rest r t ⟨e1, e2, hr⟩ => ?_) (fun ⟨r1, r2⟩ t ⟨e1, e2, _⟩ => ?_) _ _ ⟨rfl, rfl, fun v hv => hv⟩
  · subst e2
    refine wpAny_bind (hi v (hr v List.mem_cons_self) _ ?_)
    simp only [Bool.not_true, Bool.false_eq_true, if_false]
    exact wpAny_pure ⟨rfl, rfl, fun u hu => hr u (List.mem_cons_of_mem _ hu)⟩
  · simp only at e1
    subst e1 e2
    exact wpAny_pure q
/-- the hash of each item, whatever tokens were drawn -/
inductive HshL (P : Program) (w : World) (A : Around) (E : Value → Shared → Prop) (s : Shared) : List Value → List Int → Prop
  | nil : HshL P w A E s [] []
  | cons {v : Value} {h : Int} {vs : List Value} {hs : List Int} : (∀ (tk : Nat) (Q : Int → Shared → Prop), s.toks ≤ tk → (∀ tk2, tk ≤ tk2 → Q h { s with toks := tk2 }) → wpAny (model P w) A (pyHash v) Q E { s with toks := tk }) → HshL P w A E s vs hs → HshL P w A E s (v :: vs) (h :: hs)
theorem hash_tup {b : Addr} {items : Array Value} {hs : List Int} {Q : Int → Shared → Prop} {tk : Nat} (hu : A.units < cLine) (hk : s.toks ≤ tk) (ht : s.heap.IsTuple b items) (hi : HshL P w A.in1 E s items.toList hs)
    (q : ∀ tk2, tk ≤ tk2 → Q (reduceHash (Builtin.Tuple.tupleHashOf hs)) { s with toks := tk2 }) : wpAny (model P w) A (pyHash (.ref b)) Q E { s with toks := tk } := by
  obtain ⟨o, ho, hc, m, hd⟩ := ht
  have ty : Shared.TypeIs { s with toks := tk } (.ref b) "tuple" := ⟨o, ho, hc⟩
  unfold pyHash
  first | unfold pyHashByItsType | skip
  first | refine wpAny_bind (wpAny_cRoomFor_or (.inr hu) ?_) | skip
  refine wpAny_bind (wpAny_specialOf ty F.slot_tuple_hash.lookup ?_)
  show wpAny _ _ (if (some (Value.builtin "tuple.__hash__") == some Value.none) = true then _ else _) Q E _
  rw [if_neg (by rw [beq_builtin_none]; exact Bool.false_ne_true)]
  refine wpAny_bind (wpAny_specialOf ty F.slot_tuple_hash.lookup ?_)
  show wpAny _ _ (callSpecialIfBoundUnlessNone? (.ref b) "__hash__" _ >>= _) Q E _
  refine wpAny_bind (wpAny_callSpecialIfBoundUnlessNone?_slot ty F.slot_tuple_hash (wpAny_call_entry F.slot_tuple_hash ty F.entry_tuple_hash ?_ (F.args_tuple_hash_1 _)))
  show wpAny _ _ (Builtin.Tuple.tupleItemsOf (.ref b) >>= _) _ _ _
  refine wpAny_bind (wpAny_tupleItemsOf (s := { s with toks := tk }) ho hd ?_)
  refine wpAny_bind ?_
  rw [← Array.forIn_toList]
  refine wpAny_forIn_list _ (fun rest (b : Array Int) t => ∃ done left tk2, hs = done ++ left ∧ HshL P w A.in1 E s rest left ∧ b.toList = done ∧ tk ≤ tk2 ∧ t = { s with toks := tk2 }) _ (fun v rest b t ⟨done, left, tk2, e1, hl, hb, le, e2⟩ => ?_) (fun b t ⟨done, left, tk2, e1, hl, hb, le, e2⟩ => ?_) _ _ ⟨[], hs, tk, rfl, hi, rfl, Nat.le_refl _, rfl⟩
  · subst e2
    cases hl with
    | @cons _ h _ left hv hl =>
      refine wpAny_bind (hv tk2 _ (Nat.le_trans hk le) fun tk3 le3 => ?_)
      first
        | exact wpAny_pure ⟨done ++ [h], left, tk3, by rw [e1]; simp, hl, by simp [hb], Nat.le_trans le le3, rfl⟩
        | exact wpAny_bind (wpAny_pure (wpAny_pure ⟨done ++ [h], left, tk3, by rw [e1]; simp, hl, by simp [hb], Nat.le_trans le le3, rfl⟩))
  · subst e2
    cases hl
    rw [List.append_nil] at e1
    subst e1
    show wpAny _ _ (retInt (Builtin.Tuple.tupleHashOf b.toList)) _ _ _
    rw [hb]
    refine wpAny_ret_mkInt ?_
    show wpAny _ _ (if (decide (-(2 : Int) ^ 63 ≤ Builtin.Tuple.tupleHashOf hs) && decide (Builtin.Tuple.tupleHashOf hs < 2 ^ 63)) = true then _ else _) Q E _
    have q1 := q (tk2 + 1) (by omega)
    unfold reduceHash at q1
    by_cases hr : (decide (-(2 : Int) ^ 63 ≤ Builtin.Tuple.tupleHashOf hs) && decide (Builtin.Tuple.tupleHashOf hs < 2 ^ 63)) = true
    · rw [if_pos hr] at q1 ⊢
      exact wpAny_pure q1
    · rw [if_neg hr] at q1 ⊢
      exact wpAny_bind (wpAny_rule (wpAny_pure q1))
end

/-! ### what a set may hold -/
structure HKd (P : Program) (w : World) (κ : Type) [DecidableEq κ] where
  is : Heap → κ → Addr → Prop
  hash : κ → Int
  stay : ∀ {h h' : Heap} {k : κ} {a : Addr}, is h k a → (∀ c o, o.cls = .type "tuple" → h.get? c = some o → h'.get? c = some o) → is h' k a
  eqv : ∀ {A : Around} {E : Value → Shared → Prop} {s : Shared} {x y : κ} {a b : Addr} {Q : Bool → Shared → Prop}, A.units + 4 < cLine → is s.heap x a → is s.heap y b → Q (decide (x = y)) s → wpAny (model P w) A (eqBool (.ref a) (.ref b)) Q E s
  quiet : ∀ {A : Around} {E : Value → Shared → Prop} {s : Shared} {k : κ} {a : Addr} {Q : Bool → Shared → Prop}, is s.heap k a → Q true s → wpAny (model P w) A (eqIsQuiet 8 (.ref a)) Q E s
  noCls : ∀ {A : Around} {E : Value → Shared → Prop} {s : Shared} {k : κ} {a : Addr} {Q : Bool → Shared → Prop}, is s.heap k a → Q false s → wpAny (model P w) A (ofAClassStatement 8 (.ref a)) Q E s
  byVal : ∀ {A : Around} {E : Value → Shared → Prop} {s : Shared} {k : κ} {a : Addr} {Q : Bool → Shared → Prop}, is s.heap k a → Q true s → wpAny (model P w) A (hashByValue 8 (.ref a)) Q E s
  hsh : ∀ {A : Around} {E : Value → Shared → Prop} {s : Shared} {k : κ} {a : Addr} {Q : Int → Shared → Prop}, A.units + 4 < cLine → is s.heap k a → (∀ tk, s.toks ≤ tk → Q (hash k) { s with toks := tk }) → wpAny (model P w) A (pyHash (.ref a)) Q E s
section
variable {P : Program} {w : World} {κ : Type} [DecidableEq κ] {T : HKd P w κ} {A : Around} {E : Value → Shared → Prop} {s : Shared}
/-- a search among such shows nothing -/
theorem HKd.seen {k : κ} {b : Addr} {Q : Bool → Shared → Prop} (hk : T.is s.heap k b) {ys : List Value} (hy : ∀ y ∈ ys, ∃ j c, y = Value.ref c ∧ T.is s.heap j c) (q : Q false s) :
    wpAny (model P w) A (searchCouldBeSeen (.ref b) ys) Q E s := by
  unfold searchCouldBeSeen
  refine wpAny_bind (wpAny_forIn_list _ (fun rest r t => r.1 = none ∧ t = s ∧ ∀ y ∈ rest, y ∈ ys) _ (fun v rest r t ⟨e1, e2, hr⟩ => ?_) (fun ⟨r1, r2⟩ t ⟨e1, e2, _⟩ => ?_) _ _ ⟨rfl, rfl, fun v hv => hv⟩)
  · subst e2
    obtain ⟨j, c, rfl, hc⟩ := hy v (hr v List.mem_cons_self)
    have go : ∀ y ∈ rest, y ∈ ys := fun u hu => hr u (List.mem_cons_of_mem _ hu)
    dsimp only
    by_cases hv : (b == c || (carriedByValue (.ref b) && carriedByValue (.ref c))) = true
    · exact wp_if_pos hv (wpAny_pure ⟨rfl, rfl, go⟩)
    · refine wp_if_neg hv (wpAny_bind (T.quiet hk ?_))
      simp only [Bool.not_true, Bool.false_eq_true, if_false]
      refine wpAny_bind (T.quiet hc ?_)
      simp only [Bool.not_true, Bool.false_eq_true, if_false]
      refine wpAny_bind (T.noCls hk ?_)
      simp only [Bool.false_eq_true, if_false]
      refine wpAny_bind (T.noCls hc ?_)
      simp only [Bool.false_eq_true, if_false]
      exact wpAny_pure ⟨rfl, rfl, go⟩
  · simp only at e1
    subst e1 e2
    exact wpAny_pure q
/-- the set at a: its entries in the table's order -/
structure Hset (T : HKd P w κ) (h : Heap) (a : Addr) (L : List (Addr × κ)) (o : Obj) (es : Array (Int × Value)) (ep : Nat) (t : SetTable) : Prop where
  ob : h.get? a = some o
  ex : o.ExactSet
  dat : o.data = .set es ep t
  row : es.toList = L.map fun p => (T.hash p.2, Value.ref p.1)
  tab : TabOk t (L.map fun p => T.hash p.2)
  nd : (L.map (·.2)).Nodup
  all : ∀ p ∈ L, T.is h p.2 p.1
  pl : t.plain = true
  led : w.params.followText "set-order" = true ∨ t.led = true
  rm : L.length * 5 < t.mask * 3
  few : L.length < 64
variable {a : Addr} {L : List (Addr × κ)} {o : Obj} {es : Array (Int × Value)} {ep : Nat} {t : SetTable}
theorem hrows_len {hf : κ → Int} (h : es.toList = L.map fun p => (hf p.2, Value.ref p.1)) : es.size = L.length := by
  rw [← Array.length_toList, h, List.length_map]
theorem fits_of {n : Nat} (hd : t.dummies = #[]) (hz : t.place.size = n) (hm : n ≤ t.mask) : t.fits n = true := by
  unfold SetTable.fits SetTable.fill
  rw [hd, Bool.and_eq_true, beq_iff_eq, decide_eq_true_eq]
  exact ⟨hz, by rw [hz]; exact hm⟩
theorem Hset.place (R : Hset T s.heap a L o es ep t) : t.place.size = L.length := by
  have z := R.tab.sz
  rw [List.length_map] at z
  exact z
theorem Hset.fits (R : Hset T s.heap a L o es ep t) : t.fits es.size = true := fits_of R.tab.dm (by rw [R.place, hrows_len R.row]) (by have := R.rm; rw [hrows_len R.row]; omega)
theorem hrow_at {hf : κ → Int} {i : Nat} {p : Addr × κ} (h : es.toList = L.map fun p => (hf p.2, Value.ref p.1)) (e : L[i]? = some p) : es[i]? = some (hf p.2, Value.ref p.1) := by
  rw [← Array.getElem?_toList, h, List.getElem?_map, e]
  rfl
theorem nth_dm (m : Nat) : ∀ (n : Nat) (p : SetTable.Probe), p.dummy = none → (nth m p n).dummy = none
  | 0, _, h => h
  | n + 1, p, h => nth_dm m n (adv m p) (by unfold adv; split <;> exact h)
/-- the search from the c-th step of the way on -/
theorem Hset.from (R : Hset T s.heap a L o es ep t) {x : Addr} {k : κ} (hx : T.is s.heap k x) (hu : A.units + 4 < cLine) {K : Nat} (hf : K < 10 * SetTable.turns t.mask) (hK : way t.mask (T.hash k) K ∉ t.place.toList)
    (hb : ∀ c, c < K → way t.mask (T.hash k) c ∈ t.place.toList) {Q : SetFound → Shared → Prop} (hin : k ∈ L.map (·.2) → Q (.there none) s) (hout : k ∉ L.map (·.2) → Q (.free (way t.mask (T.hash k) K) false) s) :
    ∀ (f c : Nat) (st : Option SetTable.Probe), st.getD (t.probeStart (T.hash k)) = nth t.mask (t.probeStart (T.hash k)) c → c ≤ K → K - c < f →
      (∀ (i : Nat) (p : Addr × κ), L[i]? = some p → p.2 = k → ∃ d, c ≤ d ∧ d < K ∧ t.place.toList[i]? = some (way t.mask (T.hash k) d)) →
      wpAny (model P w) A (setSearchFrom a (.ref x) (T.hash k) true f st) Q E s
  | 0, _, _, _, _, z, _ => absurd z (Nat.not_lt_zero _)
  | f + 1, c, st, hst, hc, hl, hre => by
    rw [setSearchFrom_succ]
    refine wpAny_bind (wpAny_setState_of R.ob R.dat R.fits ?_)
    dsimp only
    refine wp_if_neg (by unfold SetTable.gaveWay; rw [mask_odd R.tab.mok]; decide) ?_
    try refine wpAny_bind (wpAny_pure ?_)
    have jd : ∀ q, (nth t.mask (nth t.mask (t.probeStart (T.hash k)) c) q).j = way t.mask (T.hash k) (c + q) := fun q => congrArg SetTable.Probe.j (nth_add t.mask c _ q).symm
    have hat : ∀ (i : Nat) (p : Addr × κ), L[i]? = some p → (es[i]?.map (·.1)).getD 0 = T.hash p.2 := fun i p e => by
      rw [hrow_at R.row e]
      rfl
    rcases go_spec t R.tab.ris R.tab.dm (fun i => (es[i]?.map (·.1)).getD 0) (T.hash k) (10 * SetTable.turns t.mask) (K - c) (nth t.mask (t.probeStart (T.hash k)) c) (nth_dm _ _ _ rfl) (by omega)
      (fun q hq => by rw [jd]; exact hb _ (by omega)) (by rw [jd, Nat.add_sub_cancel' hc]; exact hK) with ⟨q, i, hq, hi, hh, hno, pr⟩ | ⟨hno, pr⟩
    · rw [jd] at hi pr
      have pr2 : t.probe (fun i => (es[i]?.map (·.1)).getD 0) (T.hash k) (st.getD (t.probeStart (T.hash k))) = some (.candidate (way t.mask (T.hash k) (c + q)) i (nth t.mask (t.probeStart (T.hash k)) (c + (q + 1)))) := by
        rw [hst, nth_add]
        exact pr
      rw [pr2]
      dsimp only
      have il : i < L.length := by
        have z := (List.getElem?_eq_some_iff.mp hi).1
        rw [Array.length_toList, R.place] at z
        exact z
      have hp : L[i]? = some L[i] := List.getElem?_eq_getElem il
      generalize L[i] = p at hp
      have mp : p ∈ L := List.mem_of_getElem? hp
      have isp := R.all p mp
      have lv : t.slot (way t.mask (T.hash k) (c + q)) = .live i := slot_live R.tab.ris hi
      have rest : wpAny (model P w) A (searchRest a (.ref x) (T.hash k) true f es t (way t.mask (T.hash k) (c + q)) i (nth t.mask (t.probeStart (T.hash k)) (c + (q + 1)))) Q E s := by
        unfold searchRest
        rw [hrow_at R.row hp]
        dsimp only
        refine wpAny_bind (wpAny_holding (T.eqv hu isp hx (wpAny_bind (wpAny_setState_of R.ob R.dat R.fits ?_))))
        dsimp only
        by_cases hkk : p.2 = k
        · exact wp_if_pos (by simp [hkk]) (wpAny_pure (hin (List.mem_map.mpr ⟨p, mp, hkk⟩)))
        · refine wp_if_neg (by simp [hkk]) ?_
          try refine wpAny_bind (wpAny_pure ?_)
          rw [sameMem]
          dsimp only
          simp only [if_true, lv, hrow_at R.row hp]
          refine wpAny_bind (wpAny_isSame_ref_self (wpAny_bind (wpAny_pure ?_)))
          simp only [if_true]
          refine wp_if_neg (by simp [hkk]) (Hset.from R hx hu hf hK hb hin hout f (c + (q + 1)) _ rfl (by omega) (by omega) fun i0 p0 h0 k0 => ?_)
          obtain ⟨d, d1, d2, d3⟩ := hre i0 p0 h0 k0
          refine ⟨d, ?_, d2, d3⟩
          rcases Nat.lt_trichotomy d (c + q) with z | z | z
          · refine absurd ((hat i0 p0 h0).trans (congrArg T.hash k0)) (hno (d - c) i0 (by omega) ?_)
            rw [jd, Nat.add_sub_cancel' d1]
            exact d3
          · rw [z] at d3
            have s0 := slot_live R.tab.ris d3
            rw [lv] at s0
            injection s0 with s0
            rw [← s0, hp] at h0
            exact absurd ((congrArg Prod.snd (Option.some.inj h0)).trans k0) hkk
          · omega
      by_cases hl : t.led = true
      · refine wp_if_neg (by simp [hl]) ?_
        try refine wpAny_bind (wpAny_pure ?_)
        exact rest
      · refine wp_if_pos (by simp [hl]) (wpAny_bind (HKd.seen hx (fun y hy => ?_) ?_))
        · obtain ⟨e, he, rfl⟩ := List.mem_map.mp hy
          have he1 : e ∈ es ∧ e.1 = T.hash k := by simpa using he
          have he2 : e ∈ es.toList := by simpa using he1.1
          rw [R.row] at he2
          obtain ⟨p2, m2, rfl⟩ := List.mem_map.mp he2
          exact ⟨p2.2, p2.1, rfl, R.all p2 m2⟩
        · refine wp_if_neg (by decide) ?_
          try refine wpAny_bind (wpAny_pure ?_)
          exact rest
    · rw [jd, Nat.add_sub_cancel' hc] at pr
      have pr2 : t.probe (fun i => (es[i]?.map (·.1)).getD 0) (T.hash k) (st.getD (t.probeStart (T.hash k))) = some (.empty (way t.mask (T.hash k) K) none) := by
        rw [hst]
        exact pr
      rw [pr2]
      dsimp only
      refine wpAny_pure (hout fun hm => ?_)
      obtain ⟨p0, m0, k0⟩ := List.mem_map.mp hm
      obtain ⟨i0, h0⟩ := List.getElem?_of_mem m0
      obtain ⟨d, d1, d2, d3⟩ := hre i0 p0 h0 k0
      refine absurd ((hat i0 p0 h0).trans (congrArg T.hash k0)) (hno (d - c) i0 (by omega) ?_)
      rw [jd, Nat.add_sub_cancel' d1]
      exact d3
theorem Hset.search (R : Hset T s.heap a L o es ep t) {x : Addr} {k : κ} (hx : T.is s.heap k x) (hu : A.units + 4 < cLine) {Q : SetFound → Shared → Prop} (hin : k ∈ L.map (·.2) → Q (.there none) s)
    (hout : ∀ K, k ∉ L.map (·.2) → way t.mask (T.hash k) K ∉ t.place.toList → (∀ c, c < K → way t.mask (T.hash k) c ∈ t.place.toList) → Q (.free (way t.mask (T.hash k) K) false) s) :
    wpAny (model P w) A (setSearch a (.ref x) (T.hash k) true) Q E s := by
  obtain ⟨K, hf, hK, hb⟩ := R.tab.first (by have := R.rm; rw [List.length_map]; omega) (T.hash k)
  have big : K < 100000 := by
    have z : 10 * SetTable.turns t.mask ≤ 1420 := by
      unfold SetTable.turns
      rcases R.tab.mok with e | e | e <;> omega
    omega
  unfold setSearch
  refine Hset.from R hx hu hf hK hb hin (fun hn => hout K hn hK hb) 100000 0 none rfl (Nat.zero_le _) (by omega) fun i p e k0 => ?_
  have hi : (L.map fun p => T.hash p.2)[i]? = some (T.hash k) := by
    rw [List.getElem?_map, e, ← k0]
    rfl
  have il : i < t.place.toList.length := by
    rw [Array.length_toList, R.place]
    exact (List.getElem?_eq_some_iff.mp e).1
  obtain ⟨c, h1, h2⟩ := R.tab.before hK hi (List.getElem?_eq_getElem il)
  exact ⟨c, Nat.zero_le _, h1, by rw [List.getElem?_eq_getElem il, h2]⟩
/-- what is no set stays -/
theorem HKd.other {h h' : Heap} {k : κ} {b : Addr} (hb : T.is h k b) (ho : h.get? a = some o) (hex : o.ExactSet) (hs : Heap.SameBut a h h') : T.is h' k b := T.stay hb fun c u hc hu => by
  refine (hs.2 c ?_).trans hu
  rintro rfl
  rw [ho] at hu
  cases hu
  have z := hex.1.symm.trans hc
  injection z with z
  exact absurd z (by decide)
/-- the table's rows in another order -/
theorem rows_by {hf : κ → Int} (order : Array Nat) (h : es.toList = L.map fun p => (hf p.2, Value.ref p.1)) (hp : order.toList.Perm (List.range L.length)) :
    ∃ M : List (Addr × κ), (order.filterMap (es[·]?)).toList = (M.map fun p => (hf p.2, Value.ref p.1)) ∧ M.Perm L ∧ (M.map fun p => hf p.2) = order.toList.map fun i => (es.map (·.1)).getD i 0 := by
  refine ⟨order.toList.filterMap fun i => L[i]?, ?_, ?_, ?_⟩
  · have e : (order.filterMap (es[·]?)).toList = order.toList.filterMap (es[·]?) := by simp
    rw [e, List.map_filterMap]
    congr 1
    funext i
    rw [← Array.getElem?_toList, h, List.getElem?_map]
  · refine (hp.filterMap _).trans (List.Perm.of_eq ?_)
    have e : ∀ n, n ≤ L.length → (List.range n).filterMap (fun i => L[i]?) = L.take n := fun n => by
      induction n with
      | zero => exact fun _ => rfl
      | succ n ih =>
        intro hn
        rw [List.range_succ, List.filterMap_append, ih (Nat.le_of_lt hn), List.take_add_one, List.getElem?_eq_getElem hn, List.filterMap_cons_some (List.getElem?_eq_getElem hn)]
        rfl
    rw [e _ (Nat.le_refl _), List.take_length]
  · have hall : ∀ i ∈ order.toList, i < L.length := fun i hi => List.mem_range.mp (hp.mem_iff.mp hi)
    generalize order.toList = l at hall
    induction l with
    | nil => rfl
    | cons i l ih =>
      have il := hall i List.mem_cons_self
      rw [List.filterMap_cons_some (List.getElem?_eq_getElem il), List.map_cons, List.map_cons, ih fun j hj => hall j (List.mem_cons_of_mem _ hj)]
      have e : (es.map (·.1))[i]? = some (hf (L[i]).2) := by
        rw [Array.getElem?_map, hrow_at h (List.getElem?_eq_getElem il)]
        rfl
      rw [Array.getD_eq_getD_getElem?, e]
      rfl
/-- the table laid anew -/
theorem relay_all (ho : s.heap.get? a = some o) (hex : o.ExactSet) (hd : o.data = .set es ep t) (row : es.toList = L.map fun p => (T.hash p.2, Value.ref p.1)) (hz : t.place.size = es.size) (dm : t.dummies = #[]) (fl : es.size ≤ t.mask)
    (nd : (L.map (·.2)).Nodup) (al : ∀ p ∈ L, T.is s.heap p.2 p.1) (pl : t.plain = true) (ld : w.params.followText "set-order" = true ∨ t.led = true) (few : L.length < 64) {want M : Nat} (hw : SetTable.sizeAbove want - 1 = M) (hM : MaskOk M)
    (h128 : SetTable.sizeAbove want ≤ 128) (hn : L.length * 5 < M * 3) {Q : Unit → Shared → Prop} (q : ∀ h' L' o' es' ep' t', Heap.SameBut a s.heap h' → Hset T h' a L' o' es' ep' t' → L'.Perm L → Q () { s with heap := h' }) :
    wpAny (model P w) A (setRelay a want) Q E s := by
  have sl := hrows_len row
  obtain ⟨t', order, e, pm, T', em, el, epl, _⟩ := relaid_ok t (hs := es.map (·.1)) (wanted := want) hw hM (by rw [Array.size_map, sl]; omega)
  rw [Array.size_map, sl] at pm
  obtain ⟨M2, r1, r2, r3⟩ := rows_by (hf := T.hash) order row pm
  rw [← r3] at T'
  have s2 : (order.filterMap (es[·]?)).size = es.size := by
    rw [hrows_len r1, r2.length_eq, sl]
  rw [setRelay_eq]
  refine wpAny_bind (wpAny_setState_of ho hd (fits_of dm hz fl) ?_)
  dsimp only
  refine wp_if_neg (by rw [sizeLine_eq]; omega) ?_
  try refine wpAny_bind (wpAny_pure ?_)
  rw [e]
  dsimp only
  refine wpAny_bind (wp_if_neg (by rw [s2]; simp) ?_)
  try refine wpAny_bind (wpAny_pure ?_)
  refine wpAny_pure ?_
  dsimp only
  refine wpAny_storeSet_of ho hd ?_ (by rw [s2, sl, sizeLine_eq]; omega)
  have sb : Heap.SameBut a s.heap (s.heap.update a (Obj.putSet (order.filterMap (es[·]?)) t')) := Heap.SameBut.update ..
  exact q _ M2 _ (order.filterMap (es[·]?)) (ep + 1) t' sb ⟨store_at ho hd, ⟨hex.1, hex.2.1, hex.2.2⟩, rfl, r1, T', (r2.map (·.2)).nodup_iff.mpr nd, fun p m => HKd.other (al p (r2.mem_iff.mp m)) ho hex sb, by rw [epl]; exact pl, by rw [el]; exact ld, by rw [r2.length_eq, em]; exact hn, by rw [r2.length_eq]; exact few⟩ r2
/-- one more -/
theorem Hset.add (R : Hset T s.heap a L o es ep t) {x : Addr} {k : κ} (hx : T.is s.heap k x) (hu : A.units + 4 < cLine) (few : L.length + 1 < 64) {Q : Bool → Shared → Prop}
    (q : ∀ b h' L' o' es' ep' t', Heap.SameBut a s.heap h' → Hset T h' a L' o' es' ep' t' → ((k ∈ L.map (·.2) ∧ L' = L) ∨ (k ∉ L.map (·.2) ∧ L'.Perm ((x, k) :: L))) → Q b { s with heap := h' }) :
    wpAny (model P w) A (setAddHashed a (.ref x) (T.hash k)) Q E s := by
  have sl := hrows_len R.row
  have rm := R.rm
  unfold setAddHashed
  refine wpAny_holding ?_
  rw [show (100000 : Nat) = 99999 + 1 from rfl, setAddHashedIn_succ]
  refine wpAny_bind (wpAny_setState_of R.ob R.dat R.fits ?_)
  dsimp only
  refine wp_if_neg (by simp [byScan, Value.scannable]) ?_
  try refine wpAny_bind (wpAny_pure ?_)
  refine wpAny_bind (R.search hx hu (fun hm => ?_) fun K hm hK hb => ?_)
  · dsimp only
    exact wpAny_pure (q false s.heap L o es ep t (Heap.SameBut.refl a s.heap) R (.inl ⟨hm, rfl⟩))
  · dsimp only
    refine wpAny_bind (wpAny_setState_of R.ob R.dat R.fits ?_)
    dsimp only
    obtain ⟨q1, q2, q3, q4, q5, q6, _, _, q9⟩ := R.tab.put hK hb
    have p1 : (t.put (way t.mask (T.hash k) K)).1.plain = true := q6.trans R.pl
    generalize t.put (way t.mask (T.hash k) K) = pt at q1 q3 q4 q5 q9 p1 ⊢
    obtain ⟨t1, p⟩ := pt
    dsimp only at q1 q3 q4 q5 q9 p1 ⊢
    subst q1
    first
      | (refine wpAny_bind ?_; refine wp_if_pos p1 ?_; refine T.byVal hx ?_)
      | refine wp_if_pos p1 (wpAny_bind (T.byVal hx ?_))
    simp only [if_true]
    generalize SetTable.below t.place (way t.mask (T.hash k) K) = p at q2 q3 ⊢
    have row1 : (SetTable.insertAt es p (T.hash k, Value.ref x)).toList = (L.take p ++ (x, k) :: L.drop p).map fun p => (T.hash p.2, Value.ref p.1) := by
      rw [SetTable.toList_insertAt, R.row, List.map_append, List.map_cons, List.map_take, List.map_drop]
    have pm : (L.take p ++ (x, k) :: L.drop p).Perm ((x, k) :: L) := by
      have z : (L.take p ++ (x, k) :: L.drop p).Perm ((x, k) :: (L.take p ++ L.drop p)) := List.perm_middle
      rwa [List.take_append_drop] at z
    rw [← List.map_take, ← List.map_drop, ← List.map_cons (f := fun p : Addr × κ => T.hash p.2) (a := (x, k)), ← List.map_append] at q3
    generalize L.take p ++ (x, k) :: L.drop p = L1 at pm q3 row1
    have len1 : L1.length = L.length + 1 := pm.length_eq
    have nd1 : (L1.map (·.2)).Nodup := by
      refine (pm.map (·.2)).nodup_iff.mpr ?_
      rw [List.map_cons]
      exact List.nodup_cons.mpr ⟨hm, R.nd⟩
    have sz1 := (hrows_len row1).trans len1
    generalize SetTable.insertAt es p (T.hash k, Value.ref x) = es1 at row1 sz1 ⊢
    refine wpAny_bind (wpAny_storeSet_of R.ob R.dat ?_ (by rw [sz1, sizeLine_eq]; omega))
    have sb : Heap.SameBut a s.heap (s.heap.update a (Obj.putSet es1 t1)) := Heap.SameBut.update ..
    have ob1 := store_at (es' := es1) (t' := t1) R.ob R.dat
    generalize s.heap.update a (Obj.putSet es1 t1) = h1 at sb ob1 ⊢
    have al1 : ∀ p ∈ L1, T.is h1 p.2 p.1 := fun p m => by
      rcases List.mem_cons.mp (pm.mem_iff.mp m) with e | m
      · rw [e]
        exact HKd.other hx R.ob R.ex sb
      · exact HKd.other (R.all p m) R.ob R.ex sb
    have ld1 : w.params.followText "set-order" = true ∨ t1.led = true := by
      rw [q5]
      exact R.led
    have tf : t1.tooFull = decide ((L.length + 1) * 5 ≥ t1.mask * 3) := by
      unfold SetTable.tooFull
      rw [q9, List.length_map]
    have pz : t1.place.size = es1.size := by
      have z := q3.sz
      rw [List.length_map] at z
      rw [z, len1, sz1]
    by_cases hf : t1.tooFull = true
    · first
        | (refine wpAny_bind ?_; refine wp_if_pos (by simp [hf]) ?_)
        | (refine wp_if_pos (by simp [hf]) ?_; refine wpAny_bind ?_)
      rw [tf, decide_eq_true_eq, q4] at hf
      rw [sl]
      have two : (t.mask = 7 ∧ L.length = 4) ∨ (t.mask = 31 ∧ L.length = 18) := by
        rcases R.tab.mok with e | e | e <;> rw [e] at hf rm
        · exact .inl ⟨e, by omega⟩
        · exact .inr ⟨e, by omega⟩
        · omega
      have go : ∀ M, SetTable.sizeAbove (SetTable.grown (L.length + 1)) - 1 = M → MaskOk M → SetTable.sizeAbove (SetTable.grown (L.length + 1)) ≤ 128 → (L.length + 1) * 5 < M * 3 →
          wpAny (model P w) A (setRelay a (SetTable.grown (L.length + 1))) (fun _ s' => wpAny (model P w) A (pure true) Q E s') E { s with heap := h1 } := fun M e1 e2 e3 e4 =>
        relay_all (s := { s with heap := h1 }) ob1 ⟨R.ex.1, R.ex.2.1, R.ex.2.2⟩ rfl row1 pz q3.dm (by rw [sz1, q4]; rcases two with ⟨e, e'⟩ | ⟨e, e'⟩ <;> omega) nd1 al1 p1 ld1 (by rw [len1]; exact few) e1 e2 e3 (by rw [len1]; exact e4)
          fun h2 L2 o2 es2 ep2 t2 sb2 R2 pm2 => wpAny_pure (q true h2 L2 o2 es2 ep2 t2 (sb.trans sb2) R2 (.inr ⟨hm, pm2.trans pm⟩))
      rcases two with ⟨_, e⟩ | ⟨_, e⟩
      · exact go 31 (by rw [e, size_20]) (.inr (.inl rfl)) (by rw [e, size_20]; decide) (by omega)
      · exact go 127 (by rw [e, size_76]) (.inr (.inr rfl)) (by rw [e, size_76]; decide) (by omega)
    · first
        | refine wp_if_neg (by simp [hf]) ?_
        | (refine wpAny_bind ?_; refine wp_if_neg (by simp [hf]) ?_; refine wpAny_pure ?_)
      refine wpAny_pure (q true h1 L1 _ es1 (ep + 1) t1 sb ⟨ob1, ⟨R.ex.1, R.ex.2.1, R.ex.2.2⟩, rfl, row1, q3, nd1, al1, p1, ld1, ?_, by rw [len1]; exact few⟩ (.inr ⟨hm, pm⟩))
      rw [tf, decide_eq_true_eq] at hf
      rw [len1]
      omega
/-- the things of a list, put into a set -/
theorem hset_grows {items : Array Value} {ks : List (Addr × κ)} (B : Heap) (S : Addr) (hi : items.toList = ks.map fun p => Value.ref p.1) (al : ∀ p ∈ ks, T.is B p.2 p.1) (few : ks.length < 64) (hu : A.units + 4 < cLine) (hS : B.get? S = none) :
    Grows P w A B S items fun i h => (∀ b u, B.get? b = some u → h.get? b = some u) ∧ ∃ L o es ep t, Hset T h S L o es ep t ∧ L.length ≤ i ∧ i ≤ ks.length ∧ (∀ p ∈ L, p ∈ ks) ∧ ∀ x, x ∈ L.map (·.2) ↔ x ∈ (ks.take i).map (·.2) where
  start := fun h ho kp => ⟨kp, [], _, #[], 0, _, ⟨ho, ⟨rfl, rfl, rfl⟩, rfl, rfl, ⟨List.Pairwise.nil, rfl, rfl, .inl rfl, fun x hx => (by cases hx), fun i h j hi => (by simp at hi)⟩, List.nodup_nil, fun p hp => (by cases hp), rfl, by
    show _ ∨ (!w.params.followText "set-order") = true
    cases w.params.followText "set-order" <;> simp, by show 0 * 5 < 7 * 3; decide, by show 0 < 64; decide⟩, Nat.le_refl _, Nat.zero_le _, fun p hp => (by cases hp), fun x => by simp⟩
  keep := fun i h h' ⟨kp, L, o, es, ep, t, R, hl, hk, hs, hm⟩ k => ⟨fun b u e => k b u (.inr ⟨u, e⟩) (kp b u e), L, o, es, ep, t, ⟨k S o (.inl rfl) R.ob, R.ex, R.dat, R.row, R.tab, R.nd,
    fun p m => T.stay (al p (hs p m)) fun c u _ e => k c u (.inr ⟨u, e⟩) (kp c u e), R.pl, R.led, R.rm, R.few⟩, hl, hk, hs, hm⟩
  step := fun i v t Q E hv ⟨kp, L, o, es, ep, tb, R, hl, _, hs, hm⟩ hQ => by
    obtain ⟨p, hp, rfl⟩ : ∃ p, ks[i]? = some p ∧ v = Value.ref p.1 := by
      rw [← Array.getElem?_toList, hi, List.getElem?_map] at hv
      obtain ⟨p, e1, e2⟩ := Option.map_eq_some_iff.mp hv
      exact ⟨p, e1, e2.symm⟩
    have lt : i < ks.length := (List.getElem?_eq_some_iff.mp hp).1
    have mp : p ∈ ks := List.mem_of_getElem? hp
    have isp : T.is t.heap p.2 p.1 := T.stay (al p mp) fun c u _ e => kp c u e
    unfold setAdd
    refine wpAny_holding (wpAny_bind (T.hsh hu isp fun tk le => ?_))
    refine Hset.add (s := { t with toks := tk }) R isp hu (by omega) fun r h' L' o' es' ep' t' sb R' c => hQ r h' _ le sb ⟨fun b u e => ?_, L', o', es', ep', t', R', ?_, lt, fun p' m => ?_, fun x => ?_⟩
    · refine (sb.2 b ?_).trans (kp b u e)
      rintro rfl
      rw [hS] at e
      cases e
    · rcases c with ⟨_, rfl⟩ | ⟨_, pm⟩
      · omega
      · rw [pm.length_eq, List.length_cons]
        omega
    · rcases c with ⟨_, rfl⟩ | ⟨_, pm⟩
      · exact hs p' m
      · rcases List.mem_cons.mp (pm.mem_iff.mp m) with e | m
        · rw [e]
          exact mp
        · exact hs p' m
    · rw [List.take_add_one, hp]
      show _ ↔ x ∈ (ks.take i ++ [p]).map (·.2)
      rw [List.map_append, List.mem_append, ← hm x]
      show _ ↔ _ ∨ x ∈ [p.2]
      rw [List.mem_singleton]
      rcases c with ⟨m, rfl⟩ | ⟨_, pm⟩
      · exact ⟨.inl, fun z => z.elim id fun e => e ▸ m⟩
      · rw [(pm.map (·.2)).mem_iff, List.map_cons, List.mem_cons]
        exact Or.comm
end
/-! ### pairs of pairs of ints -/
section
variable {P : Program} {w : World} {A : Around} {E : Value → Shared → Prop} {s : Shared}
def IsP1 (h : Heap) (k : Int × Int) (a : Addr) : Prop := ∃ t u, h.IsTuple a #[.int k.1 t, .int k.2 u]
def IsP2 (h : Heap) (k : PtK) (a : Addr) : Prop := ∃ b c, h.IsTuple a #[.ref b, .ref c] ∧ IsP1 h k.1 b ∧ IsP1 h k.2 c
theorem isTuple_stay {h h' : Heap} {a : Addr} {items : Array Value} (x : h.IsTuple a items) (k : ∀ c o, o.cls = .type "tuple" → h.get? c = some o → h'.get? c = some o) : h'.IsTuple a items := by
  obtain ⟨o, h1, h2, r⟩ := x
  exact ⟨o, k a o h2 h1, h2, r⟩
theorem IsP1.stay {h h' : Heap} {k : Int × Int} {a : Addr} (x : IsP1 h k a) (z : ∀ c o, o.cls = .type "tuple" → h.get? c = some o → h'.get? c = some o) : IsP1 h' k a := by
  obtain ⟨t, u, x⟩ := x
  exact ⟨t, u, isTuple_stay x z⟩
theorem isTuple_inj {h : Heap} {a : Addr} {xs ys : Array Value} (x : h.IsTuple a xs) (y : h.IsTuple a ys) : xs = ys := by
  obtain ⟨o, h1, _, n, h2⟩ := x
  obtain ⟨o', h3, _, m, h4⟩ := y
  rw [h1] at h3
  cases h3
  rw [h2] at h4
  cases h4
  rfl
theorem IsP1.eqAt (hu : A.units < cLine) {x y : Int × Int} {a b : Addr} (hx : IsP1 s.heap x a) (hy : IsP1 s.heap y b) : SeqAt.EqAt A s (.ref a) (.ref b) (decide (x = y)) := by
  obtain ⟨x1, x2⟩ := x
  obtain ⟨y1, y2⟩ := y
  obtain ⟨t, u, hx⟩ := hx
  obtain ⟨t', u', hy⟩ := hy
  by_cases e : a = b
  · subst e
    have z := isTuple_inj hx hy
    simp only [Array.mk.injEq, List.cons.injEq, Value.int.injEq, and_true] at z
    obtain ⟨⟨rfl, _⟩, rfl, _⟩ := z
    rw [decide_eq_true rfl]
    exact SeqAt.EqAt.same _
  · have z := SeqAt.RcAt.tuples (e := fun j => if j = 0 then x1 == y1 else x2 == y2) hx hy hu fun j h1 h2 => by
      match j, h1, h2 with
      | 0, _, _ => exact SeqAt.EqAt.int_int _ _ _ _
      | 1, _, _ => exact SeqAt.EqAt.int_int _ _ _ _
      | j + 2, h, _ => exact absurd h (by simp)
    have e2 : ((List.range (min (#[Value.int x1 t, Value.int x2 u] : Array Value).size (#[Value.int y1 t', Value.int y2 u'] : Array Value).size)).all (fun j => if j = 0 then x1 == y1 else x2 == y2) && (#[Value.int x1 t, Value.int x2 u] : Array Value).size == (#[Value.int y1 t', Value.int y2 u'] : Array Value).size) = decide ((x1, x2) = (y1, y2)) := by
      simp only [List.size_toArray, List.length_cons, List.length_nil, Nat.min_self, beq_self_eq_true, Bool.and_true]
      show ([0, 1].all fun j => if j = 0 then x1 == y1 else x2 == y2) = _
      rw [Bool.eq_iff_iff]
      simp
    rw [e2] at z
    exact SeqAt.EqAt.of_refs e z
theorem IsP2.eqAt (hu : A.units + 1 < cLine) {x y : PtK} {a b : Addr} (hx : IsP2 s.heap x a) (hy : IsP2 s.heap y b) : SeqAt.EqAt A s (.ref a) (.ref b) (decide (x = y)) := by
  obtain ⟨x1, x2⟩ := x
  obtain ⟨y1, y2⟩ := y
  obtain ⟨p, q, hx, g1, g2⟩ := hx
  obtain ⟨p', q', hy, g3, g4⟩ := hy
  by_cases e : a = b
  · subst e
    have z := isTuple_inj hx hy
    simp only [Array.mk.injEq, List.cons.injEq, Value.ref.injEq, and_true] at z
    obtain ⟨rfl, rfl⟩ := z
    obtain ⟨_, _, g1⟩ := g1
    obtain ⟨_, _, g2⟩ := g2
    obtain ⟨_, _, g3⟩ := g3
    obtain ⟨_, _, g4⟩ := g4
    have z1 := isTuple_inj g1 g3
    have z2 := isTuple_inj g2 g4
    simp only [Array.mk.injEq, List.cons.injEq, Value.int.injEq, and_true] at z1 z2
    have e3 : (x1, x2) = (y1, y2) := by
      refine Prod.ext (Prod.ext z1.1.1 z1.2.1) (Prod.ext z2.1.1 z2.2.1)
    rw [decide_eq_true e3]
    exact SeqAt.EqAt.same _
  · have z := SeqAt.RcAt.tuples (e := fun j => if j = 0 then decide (x1 = y1) else decide (x2 = y2)) hx hy (A := A) (by omega) fun j h1 h2 => by
      match j, h1, h2 with
      | 0, _, _ => exact IsP1.eqAt (A := A.in1) hu g1 g3
      | 1, _, _ => exact IsP1.eqAt (A := A.in1) hu g2 g4
      | j + 2, h, _ => exact absurd h (by simp)
    have e2 : ((List.range (min (#[Value.ref p, Value.ref q] : Array Value).size (#[Value.ref p', Value.ref q'] : Array Value).size)).all (fun j => if j = 0 then decide (x1 = y1) else decide (x2 = y2)) && (#[Value.ref p, Value.ref q] : Array Value).size == (#[Value.ref p', Value.ref q'] : Array Value).size) = decide ((x1, x2) = (y1, y2)) := by
      simp only [List.size_toArray, List.length_cons, List.length_nil, Nat.min_self, beq_self_eq_true, Bool.and_true]
      show ([0, 1].all fun j => if j = 0 then decide (x1 = y1) else decide (x2 = y2)) = _
      rw [Bool.eq_iff_iff]
      simp
    rw [e2] at z
    exact SeqAt.EqAt.of_refs e z
theorem two_mem {x y v : Value} (h : v ∈ (#[x, y] : Array Value).toList) : v = x ∨ v = y := by
  simpa using h
def pHash1 (P : Program) (w : World) (k : Int × Int) : Int := reduceHash (Builtin.Tuple.tupleHashOf [(PySem.intKind P w).hash k.1, (PySem.intKind P w).hash k.2])
theorem int_hash (i : Int) (t : Tok) (tk : Nat) (Q : Int → Shared → Prop) (q : ∀ tk2, tk ≤ tk2 → Q ((PySem.intKind P w).hash i) { s with toks := tk2 }) : wpAny (model P w) A (pyHash (.int i t)) Q E { s with toks := tk } :=
  (PySem.intKind P w).pyHash (k := i) (by simp [PySem.intKind, Value.isInt]) (q (tk + 1) (Nat.le_succ _))
theorem IsP1.hsh {tk : Nat} (hu : A.units < cLine) {k : Int × Int} {a : Addr} {Q : Int → Shared → Prop} (hk : s.toks ≤ tk) (x : IsP1 s.heap k a) (q : ∀ tk2, tk ≤ tk2 → Q (pHash1 P w k) { s with toks := tk2 }) : wpAny (model P w) A (pyHash (.ref a)) Q E { s with toks := tk } := by
  obtain ⟨t, u, x⟩ := x
  exact hash_tup hu hk x (.cons (fun tk2 Q2 _ q2 => int_hash _ _ _ _ q2) (.cons (fun tk2 Q2 _ q2 => int_hash _ _ _ _ q2) .nil)) q
/-- points, as a set holds them -/
def ptKd (P : Program) (w : World) : HKd P w PtK where
  is := IsP2
  hash := fun k => reduceHash (Builtin.Tuple.tupleHashOf [pHash1 P w k.1, pHash1 P w k.2])
  stay := fun ⟨b, c, x, y, z⟩ k => ⟨b, c, isTuple_stay x k, y.stay k, z.stay k⟩
  eqv := fun {A E s x y a b Q} hu hx hy q => IsP2.eqAt (A := A) (by omega) hx hy _ _ _ _ q
  quiet := fun ⟨b, c, x, ⟨_, _, y⟩, ⟨_, _, z⟩⟩ q => quiet_tup x (fun v hv Q' q' => by
    rcases two_mem hv with rfl | rfl
    · exact quiet_tup y (fun v hv Q' q' => by rcases two_mem hv with rfl | rfl <;> exact wpAny_pure q') q'
    · exact quiet_tup z (fun v hv Q' q' => by rcases two_mem hv with rfl | rfl <;> exact wpAny_pure q') q') q
  noCls := fun ⟨b, c, x, ⟨_, _, y⟩, ⟨_, _, z⟩⟩ q => noCls_tup x (fun v hv Q' q' => by
    rcases two_mem hv with rfl | rfl
    · exact noCls_tup y (fun v hv Q' q' => by rcases two_mem hv with rfl | rfl <;> exact wpAny_pure q') q'
    · exact noCls_tup z (fun v hv Q' q' => by rcases two_mem hv with rfl | rfl <;> exact wpAny_pure q') q') q
  byVal := fun ⟨b, c, x, ⟨_, _, y⟩, ⟨_, _, z⟩⟩ q => byVal_tup x (fun v hv Q' q' => by
    rcases two_mem hv with rfl | rfl
    · exact byVal_tup y (fun v hv Q' q' => by rcases two_mem hv with rfl | rfl <;> exact wpAny_pure q') q'
    · exact byVal_tup z (fun v hv Q' q' => by rcases two_mem hv with rfl | rfl <;> exact wpAny_pure q') q') q
  hsh := fun {A E s k a Q} hu ⟨b, c, x, y, z⟩ q => hash_tup (tk := s.toks) (by omega) (Nat.le_refl _) x (.cons (fun tk2 Q2 h2 q2 => y.hsh (A := A.in1) (by show A.units + 1 < cLine; omega) h2 q2) (.cons (fun tk2 Q2 h2 q2 => z.hsh (A := A.in1) (by show A.units + 1 < cLine; omega) h2 q2) .nil)) q
end
section
variable {X : Cx}
/-- a set of points, as the heap tells it, without the points themselves -/
structure Pset (P : Program) (w : World) (h : Heap) (a : Addr) (n : Nat) : Prop where
  mk' :: (raw : ∃ o es ep t, h.get? a = some o ∧ o.ExactSet ∧ o.data = .set es ep t ∧ es.size = n ∧ n < 64 ∧ t.fits n = true)
def PsO (P : Program) (w : World) (a : Addr) (n : Nat) : HO := .ext fun h => Pset P w h a n
theorem psO_ok {P : Program} {w : World} {H : Hp} {h : Heap} {a : Addr} {n : Nat} (R : Pset P w h a n) : ObjOk P w H h a (PsO P w a n) :=
  ⟨R, let ⟨o, _, _, _, r, _⟩ := R.raw; ⟨o, r⟩, fun h1 h2 ⟨o, es, ep, t, e, r⟩ k => ⟨o, es, ep, t, k o e, r⟩⟩
/-- set(xs), xs a list of points -/
def rSetP (K : PySem.W.Frag) (P : Program) (w : World) : List V → Hp → VK → Prop := fun xs H Q => ∃ (l : Addr) (ks : List (Addr × PtK)), xs = [.ref l] ∧ SqL K H l (ks.map fun p => V.ref p.1) ∧ ks.length < 64 ∧
  (∀ p ∈ ks, ∃ b c, SqT K H p.1 [.ref b, .ref c] ∧ SqT K H b [.int p.2.1.1, .int p.2.1.2] ∧ SqT K H c [.int p.2.2.1, .int p.2.2.2]) ∧
  ∀ p (L : List PtK), H p = none → L.Nodup → (∀ x, x ∈ L ↔ x ∈ ks.map (·.2)) → Q (.ref p) (upd H p (PsO P w p L.length))
theorem vals_refs : ∀ {ks : List (Addr × PtK)} {us : List Value}, Vals (ks.map fun p => V.ref p.1) us → us = ks.map fun p => Value.ref p.1
  | [], [], .nil => rfl
  | k :: ks, u :: us, .cons h r => by
    cases h
    rw [List.map_cons, vals_refs r]
theorem tup_vals {pins : List (Addr × Obj)} {σ : L2.St} {H : Hp} {t : Shared} (I : Inv X pins σ H t) {a : Addr} {x y : V} (h : SqT X.K H a [x, y]) : ∃ u v, RelV x u ∧ RelV y v ∧ t.heap.IsTuple a #[u, v] := by
  obtain ⟨its, rv, pl, _⟩ := I.tuple h
  cases rv with
  | cons r1 rv =>
    cases rv with
    | cons r2 rv =>
      cases rv
      exact ⟨_, _, r1, r2, pl⟩
theorem cr_setP (hc : X.calm = true) (hu : X.A.units + 16 < cLine) : CallR X (.type "set") (rSetP X.K X.prog X.w) := fun pins t σ H xs us Q I r h => by
  obtain ⟨l, ks, rfl, hl, few, pts, q⟩ := h
  obtain ⟨u, rfl, ru⟩ := vals1 r
  cases ru
  obtain ⟨its, rv, pl, _⟩ := I.list hl
  have hi := vals_refs rv
  have fr : t.heap.get? t.heap.objs.size = none := by
    cases e : t.heap.get? t.heap.objs.size with
    | none => rfl
    | some o => exact absurd (Heap.lt_size e) (Nat.lt_irrefl _)
  have al : ∀ p ∈ ks, (ptKd X.prog X.w).is t.heap p.2 p.1 := fun p m => by
    obtain ⟨b, c, h1, h2, h3⟩ := pts p m
    obtain ⟨u1, v1, r1, r2, k1⟩ := tup_vals I h1
    cases r1
    cases r2
    obtain ⟨u2, v2, r1, r2, k2⟩ := tup_vals I h2
    obtain ⟨t1, rfl⟩ := r1
    obtain ⟨t2, rfl⟩ := r2
    obtain ⟨u3, v3, r1, r2, k3⟩ := tup_vals I h3
    obtain ⟨t3, rfl⟩ := r1
    obtain ⟨t4, rfl⟩ := r2
    exact ⟨b, c, k1, ⟨t1, t2, k2⟩, ⟨t3, t4, k3⟩⟩
  refine set_of_list (I.ok.hd hc) pl.isList (hset_grows (T := ptKd X.prog X.w) t.heap t.heap.objs.size (ks := ks) (by rw [← hi]) al few (by show X.A.units + 3 + 4 < cLine; omega) fr) fun h' tk ⟨_, L, o, es, ep, tb, R, _, _, _, hm⟩ kp => ?_
  have hz : its.toArray.size = ks.length := by
    rw [List.size_toArray, ← rv.length, List.length_map]
  rw [hz, List.take_length] at hm
  have len : es.size = (L.map (·.2)).length := by
    rw [hrows_len R.row, List.length_map]
  exact ⟨.ref t.heap.objs.size, _, I.laid (o := PsO X.prog X.w t.heap.objs.size (L.map (·.2)).length) kp (Nat.le_refl _) (psO_ok ⟨⟨o, es, ep, tb, R.ob, R.ex, R.dat, len, by rw [List.length_map]; exact R.few, by rw [← len]; exact Hset.fits (s := { t with heap := h', toks := tk }) R⟩⟩), rfl, q _ _ (I.hok.fresh (Nat.le_refl _)) R.nd hm⟩
/-- len(a set of points) -/
def rLenP (P : Program) (w : World) : List V → Hp → VK → Prop := fun xs H Q => ∃ (a : Addr) (n : Nat), xs = [.ref a] ∧ H a = some (PsO P w a n) ∧ Q (.int n) H
theorem cr_lenP : CallR X (.builtin "len") (rLenP X.prog X.w) := fun pins t σ H xs us Q I r h => by
  obtain ⟨a, n, rfl, ha, q⟩ := h
  obtain ⟨u, rfl, ru⟩ := vals1 r
  cases ru
  obtain ⟨o, es, ep, tb, e1, e2, e3, e4, e5, e6⟩ := ((I.hok a _ ha).1 : Pset X.prog X.w t.heap a n).raw
  subst e4
  exact call_len_set e1 e2 e3 e6 (by omega) ⟨.int es.size, H, I.tok _, ⟨_, rfl⟩, q⟩
end
end FR
/-! FrRule8: a < b of nested data. -/
namespace FR
open PySem PySem.Spec PyProof.Rows L2
section
variable {X : Cx}
def rLtD (K : PySem.W.Frag) : R2 := fun x y H Q => ∃ d e, Dp K H x d ∧ Dp K H y e ∧ PySem.W.alike d e = true ∧ d ≠ .none ∧ d.depth ≤ 8 ∧ Q (.bl (PySem.W.dataLt d e)) H
theorem op_ltD (hu : X.A.units + 16 < cLine) : OpR X (compareOp .Lt) (rLtD X.K) := fun pins t σ H x y v u Q I rx ry h => by
  obtain ⟨d, e, hd, he, al, nn, hz, q⟩ := h
  obtain ⟨as, r1⟩ := Dp.reads I d x v hd rx
  obtain ⟨bs, r2⟩ := Dp.reads I e y u he ry
  exact PySem.W.lt_data r1 r2 al nn (by have := Nat.min_le_left d.depth e.depth; omega) ⟨.bl _, H, I, rfl, q⟩
end
theorem rowLt_cons {a b : Int} {xs ys : List PyData} : PySem.W.rowLt (.int a :: xs) (.int b :: ys) = (decide (a < b) || (a == b && PySem.W.rowLt xs ys)) := by
  unfold PySem.W.rowLt
  by_cases h : a = b
  · subst h
    rw [PySem.W.dataLt_all_yes rfl (by simp [PyData.eqv])]
    simp
  · rw [PySem.W.dataLt_all_no rfl (by simp [PyData.eqv, h]), PySem.W.dataLt_int]
    simp [h]
theorem rowLt_ints : ∀ ms ns : List Int, PySem.W.rowLt (ms.map .int) (ns.map .int) = lexK ms ns
  | ms, [] => by
    rw [PySem.W.dataLt_ints]
    cases ms <;> simp [lexK]
  | [], n :: ns => by
    rw [PySem.W.dataLt_ints]
    simp [lexK]
  | m :: ms, n :: ns => by
    rw [List.map_cons, List.map_cons, rowLt_cons, rowLt_ints ms ns]
    rfl
theorem alike_ints : ∀ ms ns : List Int, PySem.W.alikeAll (ms.map .int) (ns.map .int) = true
  | [], _ => by simp [PySem.W.alikeAll]
  | _ :: _, [] => by simp [PySem.W.alikeAll]
  | m :: ms, n :: ns => by
    rw [List.map_cons, List.map_cons, PySem.W.alikeAll, alike_ints ms ns]
    rfl
theorem eqv_ints : ∀ ms ns : List Int, PyData.eqvAll (ms.map .int) (ns.map .int) = (ms == ns)
  | [], [] => rfl
  | [], _ :: _ => rfl
  | _ :: _, [] => rfl
  | m :: ms, n :: ns => by
    show (PyData.eqv (.int m) (.int n) && PyData.eqvAll (ms.map .int) (ns.map .int)) = _
    rw [eqv_ints ms ns]
    rfl
theorem key_lt (a b c d : Int) (ms ns : List Int) : PySem.W.dataLt (.tuple [.int a, .int b, .list (ms.map .int)]) (.tuple [.int c, .int d, .list (ns.map .int)]) = (decide (a < c) || (a == c && (decide (b < d) || (b == d && lexK ms ns)))) := by
  rw [PySem.W.dataLt_tuple]
  show PySem.W.rowLt _ _ = _
  rw [rowLt_cons, rowLt_cons]
  congr 3
  congr 1
  unfold PySem.W.rowLt
  by_cases h : ms = ns
  · subst h
    rw [PySem.W.dataLt_all_yes (by simp [PySem.W.alike, alike_ints]) (by simp [PyData.eqv, eqv_ints])]
    have e : lexK ms ms = false := by
      induction ms with
      | nil => rfl
      | cons m ms ih => simp [lexK, ih]
    rw [e]
    exact lex_irrefl _
  · rw [PySem.W.dataLt_all_no (by simp [PySem.W.alike, alike_ints]) (by simp [PyData.eqv, eqv_ints, h]), PySem.W.dataLt_list]
    exact rowLt_ints ms ns
end FR
/-! FrRule9: xs[:0:-1] of a list, t[1::-1] of a tuple. -/
namespace FR
open PySem PySem.Spec PyProof.Rows L2
/-- places from the last to the second -/
theorem rng_back (n : Nat) : sliceRange (n : Int) 0 (-1) = (List.range n).map fun k => n - k := by
  unfold sliceRange
  cases n with
  | zero => rfl
  | succ n =>
    have c : (if ((-1 : Int) > 0) then (if (((n + 1 : Nat) : Int)) < 0 then (0 - (((n + 1 : Nat) : Int)) + -1 - 1) / -1 else 0) else (if (((n + 1 : Nat) : Int)) > 0 then ((((n + 1 : Nat) : Int)) - 0 - -1 - 1) / (- -1) else 0)).toNat = n + 1 := by
      rw [if_neg (by decide), if_pos (by omega), show (- -1 : Int) = 1 by decide, Int.ediv_one]
      omega
    dsimp only
    rw [c]
    refine List.map_congr_left fun k hk => ?_
    have := List.mem_range.mp hk
    omega
theorem fm_same9 {α β : Type} {f g : α → Option β} : ∀ {l : List α}, (∀ x ∈ l, f x = g x) → l.filterMap f = l.filterMap g
  | [], _ => rfl
  | x :: l, h => by
    rw [List.filterMap_cons, List.filterMap_cons, h x List.mem_cons_self, fm_same9 fun y hy => h y (List.mem_cons_of_mem _ hy)]
/-- all but the first, from the end -/
theorem pick_back (items : Array Value) : slicePick items none (some 0) (some (-1)) = items.toList.tail.reverse.toArray := by
  obtain ⟨xs⟩ := items
  unfold slicePick
  cases xs with
  | nil => rfl
  | cons x r =>
    have b : sliceBounds none (some 0) (some (-1)) (x :: r).toArray.size = ((r.length : Int), 0, -1) := by
      unfold sliceBounds
      simp
      omega
    rw [b]
    dsimp only
    rw [rng_back]
    have all := PySem.W.krv_all r.toArray
    have rv : (List.range r.length).reverse.filterMap (r.toArray[·]?) = r.reverse := by
      rw [List.filterMap_reverse]
      rw [List.size_toArray] at all
      rw [all]
    rw [← PySem.W.krv_range, List.filterMap_map] at rv
    rw [List.filterMap_map]
    congr 1
    rw [List.tail_cons, ← rv]
    refine fm_same9 fun k hk => ?_
    have := List.mem_range.mp hk
    show (x :: r).toArray[r.length - k]? = r.toArray[r.length - 1 - k]?
    rw [List.getElem?_toArray, List.getElem?_toArray, show r.length - k = (r.length - 1 - k) + 1 by omega, List.getElem?_cons_succ]
/-- a slice of three parts: what a thing answers -/
def R3 : Type := V → Option Int → Option Int → Option Int → Hp → VK → Prop
def Sl3 (X : Cx) (R : R3) : Prop := ∀ (pins : List (Addr × Obj)) (t : Shared) (σ : L2.St) (H : Hp) (x : V) (v vl vu vs : Value) (lo hi st : Option Int) (Q : VK) (e : Expr) (a b c : Option Expr) (p : Pos),
  Inv X pins σ H { t with heap := t.heap.push { cls := .type "slice", data := .fields #[vl, vu, vs] } } → RelV x v → IsPart vl lo → IsPart vu hi → IsPart vs st → (∀ o i, subscripted (.Slice a b c p) false o i = operate [o, i] (getItem o i)) → R x lo hi st H Q →
    wpAny (model X.prog X.w) X.A (subscriptTail e (.Slice a b c p) v (.ref t.heap.objs.size)) (EP X pins σ Q) X.xe { t with heap := t.heap.push { cls := .type "slice", data := .fields #[vl, vu, vs] } }
def tSl3 (R : R3) (te : TE) (tl tu ts : TO) : TE := fun σ H Q => te σ H fun x H1 => tl σ H1 fun lo H2 => tu σ H2 fun hi H3 => ts σ H3 fun st H4 => R x lo hi st H4 Q
theorem Vals.tl {xs : List V} {us : List Value} (h : Vals xs us) : Vals xs.tail us.tail := by
  cases h with
  | nil => exact .nil
  | cons _ t => exact t
section
variable {X : Cx}
theorem pe_sl3 {R : R3} {e : Expr} {a b c : Option Expr} {te : TE} {tl tu ts : TO} {p pos : Pos} (h3 : Sl3 X R) (he : PE X e te) (ha : PO X a tl) (hb : PO X b tu) (hc : PO X c ts) (sb : ∀ o i, subscripted (.Slice a b c p) false o i = operate [o, i] (getItem o i)) : PE X (.Subscript e (.Slice a b c p) pos) (tSl3 R te tl tu ts) := ⟨fun pins s σ H Q I h => by
  refine Subscript_ (thn (he.run pins s σ H _ I h) fun v s1 ⟨x, H1, I1, rx, h1⟩ => wpAny_Slice (thn (ha.run pins s1 σ H1 _ I1 h1) fun vl s2 ⟨lo, H2, I2, pl, h2⟩ => ?_))
  refine thn (hb.run pins s2 σ H2 _ I2 h2) fun vu s3 ⟨hi, H3, I3, pu, h3'⟩ => thn (hc.run pins s3 σ H3 _ I3 h3') fun vs s4 ⟨st, H4, I4, ps, h4⟩ => ?_
  exact h3 pins s4 σ H4 x v vl vu vs lo hi st Q e a b c p (I4.kept (t' := s4.toks) fun _ _ z => Heap.get?_push_of_some _ z) rx pl pu ps sb h4⟩
/-- xs[:0:-1] -/
def rBack (K : PySem.W.Frag) : R3 := fun x lo hi st H Q => lo = none ∧ hi = some 0 ∧ st = some (-1) ∧ ∃ a xs, x = .ref a ∧ SqL K H a xs ∧ ∀ p, H p = none → Q (.ref p) (upd H p (.lst xs.tail.reverse))
theorem sl3_back : Sl3 X (rBack X.K) := fun pins t σ H x v vl vu vs lo hi st Q e a b c p J rx pl pu ps sb ⟨h1, h2, h3, l, xs, ex, hx, q⟩ => by
  subst h1 h2 h3 ex
  cases rx
  obtain ⟨its, r, ht, hn⟩ := J.list hx
  have n := r.length
  refine tail_any (ops := [.ref l, .ref t.heap.objs.size]) ht.isList.typeIs PySem.slot_list_getitem.lookup (wpAny_getItem_list_slice ht.isList (Heap.IsSliceOf.new _ vl vu vs) pl pu ps (by decide) ?_ (by rw [List.size_toArray]; omega)) (sb _ _)
  rw [pick_back]
  exact ⟨.ref _, _, J.laid (t' := t.toks) (o := .lst xs.tail.reverse) (fun _ _ z => Heap.get?_push_of_some _ z) (Nat.le_refl _) ⟨by rw [List.length_reverse, List.length_tail]; omega, _, 0, (Vals.tl r).reverse, Heap.get?_push_size _ rfl⟩, rfl, q _ (J.hok.fresh (Nat.le_refl _))⟩
/-- t[1::-1]: the second, then the first -/
def rTwo (K : PySem.W.Frag) : R3 := fun x lo hi st H Q => lo = some 1 ∧ hi = none ∧ st = some (-1) ∧ ∃ a u v r, x = .ref a ∧ SqT K H a (u :: v :: r) ∧ ∀ p, H p = none → Q (.ref p) (upd H p (.tup [v, u]))
theorem adj_two {n : Nat} (h : 2 ≤ n) : Builtin.Slice.sliceAdjust (some 1) none (-1) (n : Int) = (1, -1) ∧ Builtin.Slice.slicePlaces 1 (-1) (-1) = 2 := by
  refine ⟨?_, by decide⟩
  unfold Builtin.Slice.sliceAdjust
  simp
  omega
theorem app_two {A : Around} {E : Value → Shared → Prop} {s : Shared} {sl : Addr} {vl vu vs : Value} {n : Nat} {Q : Int × Int × Nat → Shared → Prop} (h2 : 2 ≤ n) (hs : s.heap.IsSliceOf sl vl vu vs) (pl : IsPart vl (some 1)) (pu : IsPart vu none) (ps : IsPart vs (some (-1)))
    (q : Q (1, -1, 2) s) : wpAny (model X.prog X.w) A (Builtin.Slice.sliceApplied (.ref sl) (pure (n : Int))) Q E s := by
  obtain ⟨os, g, _, f⟩ := hs
  unfold Builtin.Slice.sliceApplied Builtin.Slice.sliceFields
  refine wpAny_bind (wpAny_bind (wpAny_field g f (x := vl) rfl (wpAny_bind (wpAny_field g f (x := vu) rfl (wpAny_bind (wpAny_field g f (x := vs) rfl (wpAny_pure ?_)))))))
  refine wpAny_bind (HT.slicePart_ ps ?_)
  show wpAny _ _ (if ((-1 : Int) == 0) = true then _ else _) _ _ s
  rw [if_neg (by decide)]
  refine wpAny_bind (HT.slicePart_ pl (wpAny_bind (HT.slicePart_ pu (wpAny_bind (wpAny_pure ?_)))))
  show wpAny _ _ (match Builtin.Slice.sliceAdjust (some 1) none (-1) (n : Int) with | (lo, hi) => pure (lo, (-1 : Int), Builtin.Slice.slicePlaces lo hi (-1))) _ _ s
  rw [(adj_two h2).1]
  show wpAny _ _ (pure ((1 : Int), (-1 : Int), Builtin.Slice.slicePlaces 1 (-1) (-1))) _ _ s
  rw [(adj_two h2).2]
  exact wpAny_pure q
theorem get_two {A : Around} {E : Value → Shared → Prop} {s : Shared} {t sl : Addr} {u v : Value} {r : List Value} {vl vu vs : Value} {Q : Value → Shared → Prop} (ht : IsTup s.heap t (u :: v :: r).toArray) (hs : s.heap.IsSliceOf sl vl vu vs) (pl : IsPart vl (some 1)) (pu : IsPart vu none) (ps : IsPart vs (some (-1)))
    (q : Q (.ref s.heap.objs.size) { s with heap := s.heap.push { cls := .type "tuple", data := .seq #[v, u] } }) : wpAny (model X.prog X.w) A (getItem (.ref t) (.ref sl)) Q E s := by
  have ts : s.TypeIs (.ref sl) "slice" := hs.imp fun _ h => ⟨h.1, h.2.1⟩
  have two : ((List.range 2).filterMap fun (k : Nat) => (u :: v :: r).toArray[((1 : Int) + (k : Int) * (-1)).toNat]?).toArray = #[v, u] := rfl
  unfold getItem
  try with_reducible refine wpAny_holding ?_
  first | refine wpAny_bind (wpAny_pure ?_) | skip
  refine wpAny_bind (wpAny_sequenceKey ht.typeIs (by decide) (wpAny_bind (wpAny_callSpecial?_slot (name := Str.ofString "__getitem__") ht.typeIs PyProof.Rows.slot_tuple_getitem (wpAny_call_entry PyProof.Rows.slot_tuple_getitem ht.typeIs entry_tuple_getitem ?_ (args_tuple_getitem _ _)))))
  show wpAny _ _ (Builtin.Tuple.tupleItemsOf (.ref t) >>= _) _ _ s
  refine wpAny_bind (tupleItemsOf_ ht (wpAny_bind (wpAny_typeOf ts ?_)))
  rw [if_pos (by decide)]
  refine wpAny_bind (app_two (by simp) hs pl pu ps ?_)
  show wpAny _ _ (if (((1 : Int) == 0 && (-1 : Int) == 1 && 2 == (u :: v :: r).toArray.size)) = true then _ else _) _ _ s
  rw [if_neg (by simp), two]
  have sz : sizeOk (.seq #[v, u]) := by
    show (2 : Nat) ≤ sizeLine
    decide
  first
    | exact wpAny_bind (m := Builtin.Tuple.tupleExact _) (wpAny_newObj_type (wpAny_pure ⟨_, rfl, wpAny_pure q⟩) sz)
    | exact wpAny_bind (m := Builtin.Tuple.tupleExact _) (wpAny_newObj_type (wpAny_bind (wpAny_pure (wpAny_pure ⟨_, rfl, wpAny_pure q⟩))) sz)
    | exact wpAny_bind (wpAny_bind (m := Builtin.Tuple.tupleExact _) (wpAny_newObj_type (wpAny_pure (wpAny_pure ⟨_, rfl, wpAny_pure q⟩)) sz))
    | exact wpAny_bind (wpAny_bind (m := Builtin.Tuple.tupleExact _) (wpAny_newObj_type (wpAny_pure ⟨_, rfl, wpAny_pure q⟩) sz))
theorem sl3_two : Sl3 X (rTwo X.K) := fun pins t σ H x v vl vu vs lo hi st Q e a b c p J rx pl pu ps sb ⟨h1, h2, h3, l, y, z, r, ex, hx, q⟩ => by
  subst h1 h2 h3 ex
  cases rx
  obtain ⟨its, rv, ht, hn⟩ := J.tuple hx
  cases rv with
  | cons r1 r' =>
    cases r' with
    | cons r2 r3 =>
      refine tail_any (ops := [.ref l, .ref t.heap.objs.size]) ht.typeIs PyProof.Rows.slot_tuple_getitem.lookup (get_two ht (Heap.IsSliceOf.new _ vl vu vs) pl pu ps ?_) (sb _ _)
      exact ⟨.ref _, _, J.laid (t' := t.toks) (o := .tup [z, y]) (fun _ _ z => Heap.get?_push_of_some _ z) (Nat.le_refl _) ⟨by simp [sizeLine], _, .cons r2 (.cons r1 .nil), IsTup.new _ _⟩, rfl, q _ (J.hok.fresh (Nat.le_refl _))⟩
end
end FR
/-! FrRule10: texts: list(x), x * n, and the library's words for texts as plain lists of signs. -/
namespace FR
open PySem PySem.Spec PyProof.Rows L2
theorem ofL_eq {x : Str} {l : List Nat} (h : x.cps.toList = l) : x = ofL l := TL.ext_tl (by subst h; rfl)
/-! list(x) -/
def sgV (x : Str) : List V := (tlS x).map fun c => V.str ⟨#[c]⟩
theorem signs_vals0 : ∀ (l : List Nat) (us : List Value), l.length = us.length → (∀ (j : Nat) (v : Value), us[j]? = some v → ∃ (c : Nat) (u : Tok), l[j]? = some c ∧ v = Value.str ⟨#[c]⟩ u) → Vals (l.map fun c => V.str ⟨#[c]⟩) us
  | [], us, hl, _ => by
    cases us with
    | nil => exact .nil
    | cons _ _ => simp at hl
  | c :: l, us, hl, hj => by
    cases us with
    | nil => simp at hl
    | cons u us =>
      obtain ⟨c', t, e1, e2⟩ := hj 0 u rfl
      cases e1
      exact .cons ⟨t, e2⟩ (signs_vals0 l us (by simpa using hl) fun j v e => hj (j + 1) v (by simpa using e))
theorem signs_vals {x : Str} {acc : Array Value} (h : ItemsOf (SignAt x) acc x.cps.size) : Vals (sgV x) acc.toList := by
  obtain ⟨h1, h2⟩ := h
  refine signs_vals0 _ _ (by simp [tlS, h1]) fun j v e => ?_
  obtain ⟨c, u, e1, e2⟩ := h2 j v (by simpa using e)
  exact ⟨c, u, by simpa [tlS] using e1, e2⟩
def rListS : List V → Hp → VK → Prop := fun xs H Q => ∃ x, xs = [.str x] ∧ x.length ≤ 1000 ∧ ∀ p, H p = none → Q (.ref p) (upd H p (.lst (sgV x)))
theorem cr_listS {X : Cx} (hc : X.calm = true) : CallR X (.type "list") rListS := by
  intro pins s σ H xs us Q I r h
  obtain ⟨x, rfl, hl, q⟩ := h
  obtain ⟨u, rfl, t, rfl⟩ := vals1 r
  have hz : x.cps.size ≤ sizeLine := Nat.le_trans hl (by decide)
  refine PySem.call_list_str (I.ok.hd hc) x t (fun h' tk acc' c' hk e hi => ?_) hz
  exact ⟨.ref s.heap.objs.size, _, I.laid (t' := tk) hk (Nat.le_refl _) (show ObjOk X.prog X.w _ h' _ (.lst (sgV x)) from ⟨by simp only [sgV, tlS, List.length_map, Array.length_toList]; exact hz, acc'.toList, c', signs_vals hi, by simpa using e⟩), rfl, q _ (I.hok.fresh (Nat.le_refl _))⟩
/-! x * n -/
theorem foldl_app (x : Array Nat) : ∀ (n : Nat) (acc : Array Nat), ((List.replicate n x).foldl (· ++ ·) acc).toList = acc.toList ++ (List.replicate n x.toList).flatten
  | 0, acc => by simp
  | n + 1, acc => by
    rw [List.replicate_succ, List.foldl_cons, foldl_app x n, List.replicate_succ, List.flatten_cons, Array.toList_append, List.append_assoc]
theorem mul_list (x : Str) (n : Int) : Txt.mul x n = ofL (List.replicate n.toNat (tlS x)).flatten := by
  refine ofL_eq ?_
  unfold Txt.mul
  by_cases h1 : n < 1
  · rw [if_pos h1, show n.toNat = 0 by omega]
    rfl
  · rw [if_neg h1]
    by_cases h2 : n = 1
    · subst h2
      simp [tlS]
    · by_cases h3 : x.length = 0
      · have h4 : x.cps.toList = [] := by
          have : x.cps.size = 0 := h3
          exact List.length_eq_zero_iff.mp (by simpa using this)
        rw [if_pos (by rw [Bool.or_eq_true]; exact .inr (beq_iff_eq.mpr h3))]
        have e : ∀ n : Nat, (List.replicate n ([] : List Nat)).flatten = [] := fun n => by induction n with | zero => rfl | succ n ih => rw [List.replicate_succ, List.flatten_cons, ih]; rfl
        rw [show tlS x = [] from h4, e]
        exact h4
      · rw [if_neg (fun hh => by rw [Bool.or_eq_true, beq_iff_eq, beq_iff_eq] at hh; omega)]
        show ((List.replicate n.toNat x.cps).foldl (· ++ ·) #[]).toList = _
        rw [foldl_app]
        rfl
theorem op_mulS {X : Cx} : OpR X (binaryOp .Mult) (fun x y H Q => ∃ z k, x = .str z ∧ y = .int k ∧ (z.length * k.toNat ≤ 100000 ∧ k.natAbs ≤ SZ) ∧ Q (.str (ofL (List.replicate k.toNat (tlS z)).flatten)) H) := by
  intro pins s σ H x y v u Q I rx ry h
  obtain ⟨z, k, rfl, rfl, ⟨h1, h2⟩, q⟩ := h
  obtain ⟨t, rfl⟩ := rx
  obtain ⟨t', rfl⟩ := ry
  have hz : k.natAbs ≤ 1000000 := h2
  refine SB.mul ⟨?_, fun a b => ?_, fun a b => ?_⟩ fun t2 k2 => ⟨.str (Txt.mul z k), H, I.tok k2, ⟨t2, rfl⟩, by rw [mul_list]; exact q⟩
  · rw [Bool.or_eq_false_iff]
    exact ⟨decide_eq_false (by omega), decide_eq_false (by omega)⟩
  · have e : (z.length : Int) * k ≤ 100000 := by
      have h3 := Int.ofNat_le.mpr h1
      rw [Int.natCast_mul, Int.toNat_of_nonneg (by omega)] at h3
      exact h3
    have : (z.length : Int) ≤ (2 ^ 63 - 1) / k := (Int.le_ediv_iff_mul_le (by omega)).mpr (by omega)
    omega
  · unfold PySem.Builtin.Str.tooLong
    rw [decide_eq_false]
    have : sizeLine ≥ 100000 := by decide
    omega
/-! cut, joined -/
theorem spl_one (c : Nat) : ∀ (l acc : List Nat), TL.spl [c] 0 acc l = match splitT c l with | [] => [acc] | p :: q => (acc ++ p) :: q
  | [], acc => by
    rw [TL.spl_nil, splitT]
    simp
  | x :: r, acc => by
    by_cases h : x = c
    · subst h
      rw [TL.spl_hit (by simp [TL.pre]), splitT, if_pos rfl]
      show acc :: TL.spl [x] 0 [] r = (acc ++ []) :: splitT x r
      rw [spl_one x r [], List.append_nil]
      cases e : splitT x r with
      | nil =>
        exfalso
        cases r with
        | nil => cases e
        | cons y r =>
          rw [splitT] at e
          split at e
          · cases e
          · split at e <;> cases e
      | cons p q => rfl
    · rw [TL.spl_miss (by simp [TL.pre, h]), splitT, if_neg h, spl_one c r (acc ++ [x])]
      cases e : splitT c r with
      | nil => rfl
      | cons p q =>
        show (acc ++ [x] ++ p) :: q = (acc ++ x :: p) :: q
        rw [List.append_assoc]
        rfl
theorem splitT_ne (c : Nat) : ∀ l : List Nat, splitT c l ≠ []
  | [], h => by cases h
  | y :: r, e => by
    rw [splitT] at e
    split at e
    · cases e
    · split at e <;> cases e
theorem split_list {x y : Str} {c : Nat} (hy : tlS y = [c]) (hc : c < 256) : Txt.split x y = (splitT c (tlS x)).map ofL := by
  have e : TL.tl y = [c] := hy
  refine TL.map_tl_inj ?_
  rw [TL.split_spl x y (by rw [e]; simp) (TL.kind_ok (by rw [← Array.all_toList]; show (TL.tl y).all _ = true; rw [e]; simpa using hc)), e, spl_one, List.map_map]
  show _ = (splitT c (tlS x)).map _
  cases q : splitT c (tlS x) with
  | nil => exact absurd q (splitT_ne c _)
  | cons p r =>
    rw [show TL.tl x = tlS x from rfl, q]
    show ([] ++ p) :: r = (p :: r).map (TL.tl ∘ ofL)
    rw [List.nil_append, show (TL.tl ∘ ofL) = id from rfl, List.map_id]
theorem joinL_T (s : List Nat) : ∀ ps : List (List Nat), TL.joinL s ps = joinT s ps
  | [] => rfl
  | [p] => by
    show p = p ++ []
    rw [List.append_nil]
  | p :: q :: r => by
    show p ++ (s ++ TL.joinL s (q :: r)) = p ++ (s ++ joinT s (q :: r))
    rw [joinL_T s (q :: r)]
theorem join_list' (z : Str) (ks : List Str) : Txt.join z ks = ofL (joinT (tlS z) (ks.map tlS)) := by
  refine ofL_eq ?_
  rw [TL.join_eq]
  show TL.tl (Str.join z ks) = _
  rw [TL.tl_join, joinL_T]
  rfl
/-! numbers -/
theorem digs_num : ∀ n : Nat, TL.numL n = digs n := fun n => by
  induction n using Nat.strongRecOn with
  | _ n ih =>
    rw [digs]
    by_cases h : n < 10
    · rw [if_pos h, TL.numL_lt h]
    · rw [if_neg h, TL.numL_step (by omega), ih (n / 10) (by omega)]
theorem num_text (i : Int) : Str.ofString (toString i) = ofL (numT i) := by
  refine ofL_eq ?_
  show TL.tl (Str.ofString (toString i)) = _
  unfold numT
  cases i with
  | ofNat n =>
    rw [show (Int.ofNat n) = ((n : Nat) : Int) from rfl, if_neg (Int.not_lt.mpr (Int.natCast_nonneg n))]
    exact (TL.tl_num n).trans (digs_num n)
  | negSucc n =>
    rw [if_pos (Int.negSucc_lt_zero n), show (Int.negSucc n).natAbs = n + 1 from rfl, ← digs_num, ← TL.tl_num]
    have e : toString (Int.negSucc n) = "-" ++ toString (((n + 1 : Nat)) : Int) := rfl
    rw [e, TL.tl_ofString, TL.tl_ofString, String.toList_append, List.map_append]
    rfl
theorem digB_all {l : List Nat} (h : l.all digB = true) : NumText.AllDigits l := fun c hc => by
  have z := List.all_eq_true.mp h c hc
  unfold digB at z
  rw [Bool.and_eq_true, decide_eq_true_eq, decide_eq_true_eq] at z
  exact z
theorem intT_text {x : Str} {n : Int} (h : intT (tlS x) = some n) (hl : x.length ≤ 640) : PySem.intText? x = some n := by
  cases e : tlS x with
  | nil =>
    rw [e] at h
    cases h
  | cons c r =>
    rw [e] at h
    rw [intT] at h
    split at h
    · rename_i hc
      subst hc
      split at h
      · rename_i z
        cases h
        exact PySem.intText_neg e (digB_all z.2) z.1 (by omega)
      · cases h
    · split at h
      · rename_i z
        cases h
        rw [← e] at z ⊢
        exact PySem.intText_digits (digB_all z) (by rw [show x.cps.toList = tlS x from rfl, e]; simp) (by omega)
      · cases h
/-- a text's sign put otherwise everywhere -/
theorem replace_list {x y z : Str} {c : Nat} (hy : tlS y = [c]) (hc : c < 256) : Txt.replace x y z = ofL (joinT (tlS z) (splitT c (tlS x))) := by
  have yl : y.length = 1 := by
    have : (tlS y).length = 1 := by rw [hy]; rfl
    simpa [tlS, Str.length] using this
  have e : Txt.replace x y z = Txt.join z (Txt.split x y) := by
    have hk : ¬ Builtin.Str.strKind x < Builtin.Str.strKind y := TL.kind_ok (by rw [← Array.all_toList]; show (tlS y).all _ = true; rw [hy]; simpa using hc)
    have emp : x.length < y.length → Builtin.Str.occurrences x y 0 x.length (x.length + 1) = [] := fun h => by
      exact PySem.W.occ_nil_of_no x y (lim := x.length + 1) fun i hi => by omega
    have y0 : (y.length == 0) = false := by rw [yl]; rfl
    unfold Txt.replace Txt.split Txt.join
    rw [y0, Bool.false_and, Bool.or_false]
    by_cases h2 : (Builtin.Str.occurrences x y 0 x.length (x.length + 1)).isEmpty = true
    · rw [if_pos h2, if_pos h2, ite_self]
      rfl
    · rw [if_neg h2, if_neg h2, if_neg]
      intro h
      rcases Bool.or_eq_true_iff.mp h with h | h
      · exact h2 (List.isEmpty_iff.mpr (emp (by simpa using h)))
      · exact hk (by simpa using h)
  rw [e, split_list hy hc, join_list', List.map_map]
  show ofL (joinT (tlS z) ((splitT c (tlS x)).map id)) = _
  rw [List.map_id]
end FR
/-! FrRule11: a dict that got the key None. -/
namespace FR
open PySem PySem.Spec PyProof.Rows L2
/-- a key: an int, a text, or None -/
abbrev NKey := Option Key
def nIs : NKey → Value → Bool
  | none, v => match v with | .none => true | _ => false
  | some k, v => keyIs k v
def nH (w : World) : NKey → Int
  | none => 0xFCA86420
  | some k => keyH w k
theorem nIs_shape {k : NKey} {v : Value} (h : nIs k v = true) : (k = none ∧ v = .none) ∨ ∃ q, k = some q ∧ keyIs q v = true := by
  cases k with
  | some q => exact .inr ⟨q, rfl, h⟩
  | none =>
    left
    cases v <;> first | exact ⟨rfl, rfl⟩ | cases h
section
variable {prog : Program} {w : World} {A : Around} {E : Value → Shared → Prop} {s : Shared}
theorem wp_hashNone {Q : Int → Shared → Prop} (h : Q 0xFCA86420 { s with toks := s.toks + 1 }) : wpAny (model prog w) A (pyHash .none) Q E s := by
  have ty : s.TypeIs .none "NoneType" := rfl
  unfold pyHash
  first | unfold pyHashByItsType | skip
  have hv : [Value.none].any Value.onHeap = false := rfl
  refine wpAny_bind ?_
  rw [cRoomFor, if_neg (by rw [hv]; exact Bool.false_ne_true)]
  refine wpAny_pure ?_
  refine wpAny_bind (wpAny_specialOf ty F.slot_NoneType_hash.lookup ?_)
  show wpAny _ _ (if (some (Value.builtin "NoneType.__hash__") == some Value.none) = true then _ else _) Q E s
  rw [if_neg (by rw [beq_builtin_none]; exact Bool.false_ne_true)]
  refine wpAny_bind (wpAny_specialOf ty F.slot_NoneType_hash.lookup ?_)
  show wpAny _ _ (callSpecialIfBoundUnlessNone? .none "__hash__" _ >>= _) Q E s
  refine wpAny_bind (wpAny_callSpecialIfBoundUnlessNone?_slot ty F.slot_NoneType_hash
    (wpAny_call_entry F.slot_NoneType_hash ty F.entry_NoneType_hash
      (show wpAny _ _ (do ret (← mkInt 0xFCA86420)) _ _ s from wpAny_ret_mkInt ?_) (F.args_NoneType_hash_1 _)))
  show wpAny _ _ (if (decide (-(2 : Int) ^ 63 ≤ 0xFCA86420) && decide ((0xFCA86420 : Int) < 2 ^ 63)) = true then _ else _) Q E _
  rw [if_pos (by decide)]
  exact wpAny_pure h
end
def nKind (prog : Program) (w : World) : PySem.KeyKind prog w NKey where
  is := nIs
  hash := nH w
  inj := fun v a b ha hb => by
    rcases nIs_shape ha with ⟨rfl, rfl⟩ | ⟨p, rfl, ha⟩
    · rcases nIs_shape hb with ⟨rfl, _⟩ | ⟨q, rfl, hb⟩
      · rfl
      · rcases keyIs_shape hb with ⟨_, _, _, e⟩ | ⟨_, _, _, e⟩ <;> cases e
    · rcases nIs_shape hb with ⟨rfl, rfl⟩ | ⟨q, rfl, hb⟩
      · rcases keyIs_shape ha with ⟨_, _, _, e⟩ | ⟨_, _, _, e⟩ <;> cases e
      · exact congrArg some ((mixKind prog w).inj v p q ha hb)
  byValue := fun k v h => by
    rcases nIs_shape h with ⟨rfl, rfl⟩ | ⟨p, rfl, h⟩
    · rfl
    · exact (mixKind prog w).byValue p v h
  pyHash := fun {A E s k v Q} hv h => by
    rcases nIs_shape hv with ⟨rfl, rfl⟩ | ⟨p, rfl, hv⟩
    · exact wp_hashNone h
    · exact (mixKind prog w).pyHash (k := p) hv h
  eqBool := fun {A E s a b u v Q} hu hv h => by
    rcases nIs_shape hu with ⟨rfl, rfl⟩ | ⟨p, rfl, hu⟩
    · rcases nIs_shape hv with ⟨rfl, rfl⟩ | ⟨q, rfl, hv⟩
      · exact SeqAt.EqAt.same .none _ _ _ _ h
      · have hh : Q false s := by
          have : decide ((none : NKey) = some q) = false := by simp
          rw [this] at h
          exact h
        rcases keyIs_shape hv with ⟨i, t, rfl, rfl⟩ | ⟨x, t, rfl, rfl⟩
        · exact SeqAt.EqAt.none_int i t _ _ _ _ hh
        · exact SeqAt.EqAt.none_str x t _ _ _ _ hh
    · rcases nIs_shape hv with ⟨rfl, rfl⟩ | ⟨q, rfl, hv⟩
      · have hh : Q false s := by
          have : decide ((some p : NKey) = none) = false := by simp
          rw [this] at h
          exact h
        rcases keyIs_shape hu with ⟨i, t, rfl, rfl⟩ | ⟨x, t, rfl, rfl⟩
        · exact SeqAt.EqAt.int_none i t _ _ _ _ hh
        · exact SeqAt.EqAt.str_none x t _ _ _ _ hh
      · refine (mixKind prog w).eqBool (a := p) (b := q) hu hv ?_
        have : decide ((some p : NKey) = some q) = decide (p = q) := by simp
        rw [this] at h
        exact h
  «strs» := fun k x t v h => by
    rcases nIs_shape h with ⟨rfl, e⟩ | ⟨p, rfl, h⟩
    · cases e
    · exact (mixKind prog w).strs p x t v h

/-! ### such a dict -/
def nL (vs : List (Key × Value)) (u : Value) : List (NKey × Value) := vs.map (fun p => (some p.1, p.2)) ++ [(none, u)]
/-- ints and texts as keys, then None -/
def NDc (w : World) (a : Addr) (kvs : List (Key × V)) (d : V) : HO := .ext fun h => kvs.length < sizeLine ∧ (a == sysModules) = false ∧ ∃ vs u, KV kvs vs ∧ RelV d u ∧ ∀ P : Program, h.DictOf (nKind P w) a (nL vs u)
theorem nDc_ok {P : Program} {w : World} {H : Hp} {h : Heap} {a : Addr} {kvs : List (Key × V)} {d : V} {vs : List (Key × Value)} {u : Value} (h1 : kvs.length < sizeLine) (h2 : (a == sysModules) = false) (h3 : KV kvs vs) (h4 : RelV d u) (h5 : ∀ P : Program, h.DictOf (nKind P w) a (nL vs u)) :
    ObjOk P w H h a (NDc w a kvs d) :=
  ⟨⟨h1, h2, vs, u, h3, h4, h5⟩, let ⟨o, _, _, ho, _⟩ := h5 P; ⟨o, ho⟩, fun g1 g2 ⟨a1, a2, vs, u, a3, a4, a5⟩ k => ⟨a1, a2, vs, u, a3, a4, fun P => let ⟨o, es, ep, ho, r⟩ := a5 P; ⟨o, es, ep, k _ ho, r⟩⟩⟩
theorem nL_len {vs : List (Key × Value)} {u : Value} : (nL vs u).length = vs.length + 1 := by
  unfold nL
  rw [List.length_append, List.length_map]
  rfl
theorem nL_at {vs : List (Key × Value)} {u : Value} {k : Key} : valueAt (nL vs u) (some k) = valueAt vs k := by
  unfold nL valueAt
  rw [List.find?_append]
  have e : ([((none : NKey), u)].find? fun kv => decide (kv.1 = some k)) = none := rfl
  rw [e, Option.or_none]
  induction vs with
  | nil => rfl
  | cons p r ih =>
    rw [List.map_cons, List.find?_cons, List.find?_cons]
    by_cases h : p.1 = k
    · simp [h]
    · simp only [Option.some.injEq, h, decide_false]
      exact ih
theorem dict_some {P : Program} {w : World} {h : Heap} {a : Addr} {vs : List (Key × Value)} (x : h.DictOf (mixKind P w) a vs) (Q : Program) : h.DictOf (nKind Q w) a (vs.map fun p => (some p.1, p.2)) := by
  obtain ⟨o, es, ep, h1, h2, h3, h4, h5, h6⟩ := x
  refine ⟨o, es, ep, h1, h2, h3, fun e he => ?_, ?_, ?_⟩
  · obtain ⟨k, e1, e2⟩ := h4 e he
    exact ⟨some k, e1, e2⟩
  · clear h1 h2 h3 h4 h6
    generalize es.toList = l at h5
    induction h5 with
    | nil => exact .nil
    | cons a b c ih => exact .cons a b ih
  · rw [List.map_map]
    have e : ((fun p : NKey × Value => p.1) ∘ fun p : Key × Value => (some p.1, p.2)) = some ∘ (fun p : Key × Value => p.1) := rfl
    have e2 : (vs.map ((·.1) ∘ fun p : Key × Value => ((some p.1 : NKey), p.2))) = (vs.map (·.1)).map some := by rw [List.map_map]; rfl
    rw [e2]
    exact List.Pairwise.map _ (fun a b hab z => hab (Option.some.inj z)) h6
theorem dict_P {P : Program} {w : World} {h : Heap} {a : Addr} {l : List (NKey × Value)} (x : h.DictOf (nKind P w) a l) (Q : Program) : h.DictOf (nKind Q w) a l := by
  obtain ⟨o, es, ep, h1, h2, h3, h4, h5, h6⟩ := x
  refine ⟨o, es, ep, h1, h2, h3, fun e he => ?_, ?_, h6⟩
  · obtain ⟨k, e1, e2⟩ := h4 e he
    exact ⟨k, e1, e2⟩
  · clear h1 h2 h3 h4 h6
    generalize es.toList = m at h5
    induction h5 with
    | nil => exact .nil
    | cons a b c ih => exact .cons a b ih
theorem stored_none {vs : List (Key × Value)} {u : Value} : stored (vs.map fun p => ((some p.1 : NKey), p.2)) none u = nL vs u := by
  unfold stored nL
  rw [if_neg]
  rw [List.any_eq_true]
  rintro ⟨p, hp, e⟩
  obtain ⟨q, _, rfl⟩ := List.mem_map.mp hp
  simp at e
/-- o[None] = v -/
def rSetN (w : World) : TSet := fun o i v H Q => ∃ a kvs, o = .ref a ∧ i = .non ∧ H a = some (.dK kvs) ∧ kvs.length < SZ ∧ ∀ ob, Q (upd H a (.frz ob (NDc w a kvs v)))
section
variable {X : Cx}
theorem set_none : PSet X (rSetN X.w) := by
  intro pins s σ H o i v ov iv u Q I ro ri rv h
  obtain ⟨a, kvs, rfl, rfl, e, l, q⟩ := h
  cases (show ov = Value.ref a from ro)
  cases (show iv = Value.none from ri)
  obtain ⟨z, hd, vs, rel, dd⟩ := dk_of I.hok e
  have ln : kvs.length = vs.length := Paired.length rel
  have zl : kvs.length < sizeLine := Nat.lt_of_lt_of_le l (by decide)
  refine wpAny_setItem_pairs (hsz := by rw [List.length_map, ← ln]; exact z) (k := (none : NKey)) (knd := nKind X.prog X.w) rfl (dict_some dd X.prog) fun h' dd' hs => ?_
  have dd2 : ∀ P : Program, h'.DictOf (nKind P X.w) a (nL vs u) := fun P => by
    rw [stored_none] at dd'
    exact dict_P dd' P
  have he : ∃ q, h'.get? a = some q := let ⟨q, _, _, hq, _⟩ := dd2 X.prog; ⟨q, hq⟩
  have I2 := d_write (t' := s.toks + 1) (ob := NDc X.w a kvs v) I (by rw [e]; exact True.intro) hs he (nDc_ok zl hd rel rv dd2)
  obtain ⟨od, I3⟩ := I2.lock (d := a) (u := NDc X.w a kvs v) upd_same True.intro
  rw [upd_upd] at I3
  exact ⟨_, I3, q od⟩
theorem Inv.ndc {pins : List (Addr × Obj)} {σ : L2.St} {H : Hp} {s : Shared} {a : Addr} {o : Obj} {kvs : List (Key × V)} {d : V} (I : Inv X pins σ H s) (h : H a = some (.frz o (NDc X.w a kvs d))) :
    (a == sysModules) = false ∧ s.heap.get? a = some o ∧ o.ExactDict ∧ ∃ (es : Array DictEntry) (ep : Nat) (vs : List (Key × Value)) (u : Value), o.data = .dict es ep ∧ es.size = kvs.length + 1 ∧ kvs.length < sizeLine ∧ KV kvs vs ∧ RelV d u ∧ s.heap.DictAt (nKind X.prog X.w) a (nL vs u) ep := by
  obtain ⟨hd, ⟨z, hs, vs, u, kv, ru, dd⟩, _⟩ := I.hok a _ h
  obtain ⟨o', es, ep, ho, hx, hdt, r⟩ := dd X.prog
  rw [hd] at ho
  cases ho
  refine ⟨hs, hd, hx, es, ep, vs, u, hdt, ?_, z, kv, ru, o, es, hd, hx, hdt, r⟩
  have l1 := r.2.1.length
  have l2 : kvs.length = vs.length := Paired.length kv
  rw [Array.length_toList, nL_len] at l1
  omega
/-- d[k] -/
def rIxN (w : World) : R2 := fun x y H Q => ∃ (a : Addr) (o : Obj) (kvs : List (Key × V)) (d : V) (k : Key) (v : V), x = .ref a ∧ y = kV k ∧ H a = some (.frz o (NDc w a kvs d)) ∧ valV kvs k = some v ∧ Q v H
theorem ix_none (hu : X.A.units + 1 < cLine) : IxR X (rIxN X.w) := fun value slice pins t σ H x y v u Q I rx ry h hs => by
  obtain ⟨a, o, kvs, d, k, r, rfl, rfl, hd, hv, q⟩ := h
  cases rx
  obtain ⟨hss, hgd, hx, es, ep, vs, ud, hdt, hsz, z, kv, ru, hm⟩ := Inv.ndc I hd
  obtain ⟨w', hw, rw'⟩ := RelO.some_of (v := r) (o := valueAt vs k) (by rw [← hv]; exact kv.val k)
  have hw2 : valueAt (nL vs ud) (some k) = some w' := by rw [nL_at]; exact hw
  exact tail_any hm.dictOf.typeIs slot_dict_getitem.lookup (wpAny_getItem_of (knd := nKind X.prog X.w) (k := some k) (kV_is (P := X.prog) (w := X.w) ry) hm.dictOf.mapOf hw2 ⟨r, H, I.tok _, rw', q⟩) hs
/-- len(d) -/
def rLenN (w : World) : List V → Hp → VK → Prop := fun xs H Q => ∃ (a : Addr) (o : Obj) (kvs : List (Key × V)) (d : V), xs = [.ref a] ∧ H a = some (.frz o (NDc w a kvs d)) ∧ Q (.int ((kvs.length + 1 : Nat) : Int)) H
theorem cr_lenN : CallR X (.builtin "len") (rLenN X.w) := fun pins t σ H xs us Q I r h => by
  obtain ⟨a, o, kvs, d, rfl, hd, q⟩ := h
  obtain ⟨u, rfl, ru⟩ := vals1 r
  cases ru
  obtain ⟨hss, hgd, hx, es, ep, vs, ud, hdt, hsz, z, kv, rd, hm⟩ := Inv.ndc I hd
  have ln : kvs.length = vs.length := Paired.length kv
  have l63 := line63
  refine call_len_dict (knd := nKind X.prog X.w) hss hm.dictOf (by rw [nL_len]; omega) ?_
  rw [nL_len, ← ln]
  exact ⟨.int ((kvs.length + 1 : Nat) : Int), H, I.tok _, ⟨_, rfl⟩, q⟩
/-- isinstance(d, c) -/
def rIsN (K : PySem.W.Frag) (w : World) : List V → Hp → VK → Prop := fun xs H Q => ∃ (a : Addr) (o : Obj) (kvs : List (Key × V)) (d c : V) (u : Value) (b : Bool), xs = [.ref a, c] ∧ ClsV c u ∧ H a = some (.frz o (NDc w a kvs d)) ∧ PySem.W.kitOne K (.type "dict") u = some b ∧ Q (.bl b) H
theorem cr_isN : CallR X (.builtin "isinstance") (rIsN X.K X.w) := fun pins t σ H xs us Q I r h => by
  obtain ⟨a, o, kvs, d, c, u, b, rfl, k, hd, e, q⟩ := h
  obtain ⟨w1, w2, e2, r1, r2⟩ := vals2 r
  subst e2
  cases k.eq r2
  cases (show w1 = Value.ref a from r1)
  obtain ⟨hss, hgd, hx, _⟩ := Inv.ndc I hd
  exact PySem.W.kia_one PySem.W.kitx_dict I.kIn ⟨o, hgd, hx.1⟩ e (fun z => nomatch z) fun tk => ⟨.bl b, H, I.tok tk, rfl, q⟩
/-- the keys -/
def nKV (kvs : List (Key × V)) : List V := kvs.map (fun p => kV p.1) ++ [.non]
def Itn (w : World) (d : Addr) (o : Obj) (kvs : List (Key × V)) (x0 : V) : It :=
  ⟨fun i H => H d = some (.frz o (NDc w d kvs x0)) ∧ i < kvs.length + 1, fun i H x H' => H' = H ∧ (nKV kvs)[i]? = some x, fun i H => H d = some (.frz o (NDc w d kvs x0)) ∧ kvs.length + 1 ≤ i⟩
theorem nL_get {kvs : List (Key × V)} {vs : List (Key × Value)} {u : Value} {d : V} (kv : KV kvs vs) {i : Nat} (hi : i < kvs.length + 1) : ∃ (k : NKey) (v : Value) (x : V), (nL vs u)[i]? = some (k, v) ∧ (nKV kvs)[i]? = some x ∧ ∀ y, nIs k y = true → RelV x y := by
  have ln : kvs.length = vs.length := Paired.length kv
  unfold nL nKV
  by_cases h : i < kvs.length
  · obtain ⟨⟨k, v⟩, hkv⟩ : ∃ p, kvs[i]? = some p := ⟨kvs[i], List.getElem?_eq_getElem h⟩
    obtain ⟨v', hv, _⟩ := kv_get kv hkv
    refine ⟨some k, v', kV k, ?_, ?_, fun y hy => relV_key hy⟩
    · rw [List.getElem?_append_left (by rw [List.length_map, ← ln]; exact h), List.getElem?_map, hv]
      rfl
    · rw [List.getElem?_append_left (by rw [List.length_map]; exact h), List.getElem?_map, hkv]
      rfl
  · have e : i = kvs.length := by omega
    refine ⟨none, u, .non, ?_, ?_, fun y hy => ?_⟩
    · rw [List.getElem?_append_right (by rw [List.length_map, ← ln]; omega), List.length_map, ← ln, e, Nat.sub_self]
      rfl
    · rw [List.getElem?_append_right (by rw [List.length_map]; omega), List.length_map, e, Nat.sub_self]
      rfl
    · rcases nIs_shape hy with ⟨_, rfl⟩ | ⟨_, z, _⟩
      · rfl
      · cases z
theorem turn_keysN {w : World} {P : Program} {K : PySem.W.Frag} {tg : Expr} {d : Addr} {o : Obj} {es : Array DictEntry} {ep : Nat} {kvs : List (Key × V)} {x0 : V} (it : Addr) (hod : o.data = .dict es ep) : Turn P w K tg (Itn w d o kvs x0) [it] it (fun i h => h.IsKeyIter it d i (kvs.length + 1) ep) where
  mem := by simp
  obj := fun i h st b hb => by
    have e : b = it := by simpa using hb
    subst e
    obtain ⟨oi, e, c, dd⟩ := st
    exact ⟨oi, e, fun v z => by rw [dd] at z; cases z⟩
  keep := fun i h h' st k => st.at fun oi e => k it (by simp) oi e
  item := by
    intro X hP hw hK hc i pins s σ H E I hf st hg
    subst hP hw hK
    obtain ⟨hd, hi⟩ := hg
    obtain ⟨f0, f1, f2, f3, f4, f5⟩ := hf it (by simp)
    obtain ⟨hs, hgd, hx, es', ep', vs, u, hdt, hsz, z, kv, ru, hm⟩ := Inv.ndc I hd
    obtain ⟨rfl, rfl⟩ := dict_ep hod hdt
    obtain ⟨k, v, x, hu, hx2, hrel⟩ := nL_get (u := u) (d := x0) kv hi
    have hl : kvs.length + 1 = (nL vs u).length := by rw [nL_len, show kvs.length = vs.length from Paired.length kv]
    rw [hl] at st
    refine wpAny_pyNext_dict_item st hm hu fun key h' hkey st' sb => ?_
    have I1 : Inv X pins σ H { s with heap := h' } := I.turned (t' := s.toks) (fun b ob hb e => (sb.2 b hb).trans e) f0 f1 f3 f4 f5
    obtain ⟨oi, e, c, dd⟩ := id st'
    refine ⟨key, rfl, go_of (s := { s with heap := h' }) e c dd (by decide) ⟨x, H, I1, hrel key hkey, ⟨rfl, hx2⟩, ?_, fun b hb => (hf b hb).1⟩⟩
    show h'.IsKeyIter it d (i + 1) (kvs.length + 1) _
    rw [hl]
    exact st'
  done := by
    intro X hP hw hK hc i pins s σ H E I hf st hg
    subst hP hw hK
    obtain ⟨hd, hi⟩ := hg
    obtain ⟨f0, f1, f2, f3, f4, f5⟩ := hf it (by simp)
    obtain ⟨hs, hgd, hx, es', ep', vs, u, hdt, hsz, z, kv, ru, hm⟩ := Inv.ndc I hd
    obtain ⟨rfl, rfl⟩ := dict_ep hod hdt
    exact next_key_end (I.ok.hd hc) st hgd hdt hsz hi fun h' eb => ⟨rfl, I.turned (t' := s.toks) (fun b ob hb e => eb b ob hb e) f0 f1 f3 f4 f5⟩
  self := fun A i s Q E st h => wpAny_pyIter_keyiter st h
/-- of either kind -/
def iKeysB (w : World) (td : TE) : TI := fun σ H R => td σ H fun x H1 => (∃ d o kvs, x = .ref d ∧ H1 d = some (.frz o (.dK kvs)) ∧ R (Itk d o kvs) H1) ∨ ∃ d o kvs x0, x = .ref d ∧ H1 d = some (.frz o (NDc w d kvs x0)) ∧ R (Itn w d o kvs x0) H1
theorem pi_keysB {tg e : Expr} {td : TE} {apos cpos : Pos} (he : PE X e td) (hbase : attributeBase e "keys" X.env (eval e X.env) = eval e X.env) (hline : (apos.endLine == cpos.line) = true) : PI X tg (.Call (.Attribute e "keys" apos) [] [] cpos) (iKeysB X.w td) := by
  refine ⟨fun pins s σ H R I h => ?_⟩
  refine wpAny_Call_method (T := "dict") (id := "dict.keys") hbase rfl hline F.plainAttrs_dict F.slot_dict_keys F.type_dict_keys (thn (he.run pins s σ H _ I h) fun u s1 ⟨x, H1, I1, rx, q⟩ => ?_)
  rcases q with ⟨d, o, kvs, ex, hd, q⟩ | ⟨d, o, kvs, x0, ex, hd, q⟩
  · subst ex
    obtain rfl : u = Value.ref d := rx
    obtain ⟨hs, hgd, hx, es, ep, vs, hdt, hsz, kv, hm⟩ := I1.frzK hd
    have hl : kvs.length = vs.length := Paired.length kv
    refine ⟨hm.dictOf.typeIs, hm.dictOf.mapOf.noDict, ?_⟩
    have I2 : Inv X pins σ H1 { s1 with heap := s1.heap.push { cls := .type "dict_keys", data := .fields #[.ref d] } } := I1.kept (t' := s1.toks) fun b ob q => Heap.get?_push_of_some _ q
    have fin : wpAny (model X.prog X.w) X.A (pyIter (.ref s1.heap.objs.size)) (PIE X pins σ tg R) X.xe { s1 with heap := s1.heap.push { cls := .type "dict_keys", data := .fields #[.ref d] } } := by
      refine PySem.W.kdl_pyIter_keys (d := d) (knd := mixKind X.prog X.w) ⟨_, Heap.get?_push_size _ rfl, rfl, rfl⟩ (hm.push _) (pi_one (tk := s1.toks) I2 _ (turn_keys _ hdt) ⟨_, Heap.get?_push_size _ rfl, rfl, ?_⟩ q)
      rw [hl] <;> rfl
    show wpAny _ _ (callWith cpos (.builtin "dict.keys") [.ref d] [] []) _ X.xe s1
    exact method_meetsIn F.slot_dict_keys F.entry_dict_keys rfl (PySem.evalArgs_none ⟨rfl, hm.dictOf.typeIs, F.args_dict_keys_1 _, _, PySem.W.kdl_meets_keys (mixKind X.prog X.w) d hs, ⟨vs, hm.dictOf⟩, fin⟩)
  · subst ex
    obtain rfl : u = Value.ref d := rx
    obtain ⟨hs, hgd, hx, es, ep, vs, ud, hdt, hsz, z, kv, rd, hm⟩ := Inv.ndc I1 hd
    have hl : kvs.length + 1 = (nL vs ud).length := by rw [nL_len, show kvs.length = vs.length from Paired.length kv]
    refine ⟨hm.dictOf.typeIs, hm.dictOf.mapOf.noDict, ?_⟩
    have I2 : Inv X pins σ H1 { s1 with heap := s1.heap.push { cls := .type "dict_keys", data := .fields #[.ref d] } } := I1.kept (t' := s1.toks) fun b ob q => Heap.get?_push_of_some _ q
    have fin : wpAny (model X.prog X.w) X.A (pyIter (.ref s1.heap.objs.size)) (PIE X pins σ tg R) X.xe { s1 with heap := s1.heap.push { cls := .type "dict_keys", data := .fields #[.ref d] } } := by
      refine PySem.W.kdl_pyIter_keys (d := d) (knd := nKind X.prog X.w) ⟨_, Heap.get?_push_size _ rfl, rfl, rfl⟩ (hm.push _) (pi_one (tk := s1.toks) I2 _ (turn_keysN _ hdt) ⟨_, Heap.get?_push_size _ rfl, rfl, ?_⟩ q)
      rw [hl] <;> rfl
    show wpAny _ _ (callWith cpos (.builtin "dict.keys") [.ref d] [] []) _ X.xe s1
    exact method_meetsIn F.slot_dict_keys F.entry_dict_keys rfl (PySem.evalArgs_none ⟨rfl, hm.dictOf.typeIs, F.args_dict_keys_1 _, _, PySem.W.kdl_meets_keys (nKind X.prog X.w) d hs, ⟨_, hm.dictOf⟩, fin⟩)
end
end FR
/-! FrSnd0: how data stand in the heap; states. -/
namespace FR
open PySem PySem.Spec PyProof.Rows L2

/-- what is fixed through a law: the written part, the town's place, the classes' and the defs' places -/
structure Gd where
  K : PySem.W.Frag
  T : Option Addr
  cA : Nat → Addr
  fA : Nat → Addr
  w : World

/-- a caught error of the class cls, tracked at a -/
def ExV (cls : Value) (a : Addr) : HO := .ext fun h => ∃ (oe : Obj) (vs : Array Value), h.get? a = some oe ∧ Zc cls none oe ∧ oe.data = .fields vs
mutual
inductive Rep (Z : Gd) (h : Hp) : D → V → Prop
  | non : Rep Z h .non .non
  | bl (b : Bool) : Rep Z h (.bl b) (.bl b)
  | int (i : Int) : Rep Z h (.int i) (.int i)
  | str (x : Str) : Rep Z h (.str x) (.str x)
  | tup {a : Addr} {vs : List V} {ds : List D} : SqT Z.K h a vs → RepL Z h ds vs → Rep Z h (.tup ds) (.ref a)
  | lst {a : Addr} {vs : List V} {ds : List D} : h a = some (.lst vs) → RepL Z h ds vs → Rep Z h (.lst ds) (.ref a)
  | dct {a : Addr} {o : Obj} {vs : List (Key × V)} {ds : List (Key × D)} : h a = some (.frz o (.dK vs)) → RepK Z h ds vs → Rep Z h (.dct ds) (.ref a)
  | ndc {a : Addr} {o : Obj} {vs : List (Key × V)} {ds : List (Key × D)} {d : D} {v : V} : h a = some (.frz o (NDc Z.w a vs v)) → RepK Z h ds vs → Rep Z h d v → Rep Z h (.ndc ds d) (.ref a)
  | fn (f : Nat) : Rep Z h (.fn f) (.ref (Z.fA f))
  | exc {a : Addr} (c : Nat) : h a = some (ExV (.ref (Z.cA c)) a) → Rep Z h (.exc c) (.ref a)
  | town {a : Addr} : Z.T = some a → Rep Z h .town (.ref a)
  | scr {a : Addr} {ns : List Int} : SqL Z.K h a (ns.map V.int) → Rep Z h (.scr ns) (.ref a)
inductive RepL (Z : Gd) (h : Hp) : List D → List V → Prop
  | nil : RepL Z h [] []
  | cons {d : D} {v : V} {ds : List D} {vs : List V} : Rep Z h d v → RepL Z h ds vs → RepL Z h (d :: ds) (v :: vs)
inductive RepK (Z : Gd) (h : Hp) : List (Key × D) → List (Key × V) → Prop
  | nil : RepK Z h [] []
  | cons {k : Key} {d : D} {v : V} {ds : List (Key × D)} {vs : List (Key × V)} : Rep Z h d v → RepK Z h ds vs → RepK Z h ((k, d) :: ds) ((k, v) :: vs)
end

section
variable {Z : Gd} {h h' : Hp}
theorem seqT {K : PySem.W.Frag} {H H' : Hp} {a : Addr} {xs : List V} (e : Same H H') (x : SqT K H a xs) : SqT K H' a xs := by
  rcases x with (x | ⟨o, x⟩) | x
  · exact .inl (.inl (e _ _ x))
  · exact .inl (.inr ⟨o, e _ _ x⟩)
  · exact .inr x
mutual
theorem Rep.mono (e : Same h h') : ∀ {d : D} {v : V}, Rep Z h d v → Rep Z h' d v
  | _, _, .non => .non
  | _, _, .bl b => .bl b
  | _, _, .int b => .int b
  | _, _, .str b => .str b
  | _, _, .tup x y => .tup (seqT e x) (RepL.mono e y)
  | _, _, .lst x y => .lst (e _ _ x) (RepL.mono e y)
  | _, _, .dct x y => .dct (e _ _ x) (RepK.mono e y)
  | _, _, .ndc x y z => .ndc (e _ _ x) (RepK.mono e y) (Rep.mono e z)
  | _, _, .fn f => .fn f
  | _, _, .exc c x => .exc c (e _ _ x)
  | _, _, .town x => .town x
  | _, _, .scr x => .scr (e.seq x)
theorem RepL.mono (e : Same h h') : ∀ {d : List D} {v : List V}, RepL Z h d v → RepL Z h' d v
  | _, _, .nil => .nil
  | _, _, .cons x y => .cons (Rep.mono e x) (RepL.mono e y)
theorem RepK.mono (e : Same h h') : ∀ {d : List (Key × D)} {v : List (Key × V)}, RepK Z h d v → RepK Z h' d v
  | _, _, .nil => .nil
  | _, _, .cons x y => .cons (Rep.mono e x) (RepK.mono e y)
end
theorem RepL.length : ∀ {ds : List D} {vs : List V}, RepL Z h ds vs → ds.length = vs.length
  | _, _, .nil => rfl
  | _, _, .cons _ y => congrArg (· + 1) y.length
theorem RepL.get : ∀ {ds : List D} {vs : List V} {i : Nat} {d : D}, RepL Z h ds vs → ds[i]? = some d → ∃ v, vs[i]? = some v ∧ Rep Z h d v
  | _, _, _, _, .nil, e => by simp at e
  | _, _, 0, _, .cons x y, e => by
    simp only [List.getElem?_cons_zero, Option.some.injEq] at e
    subst e
    exact ⟨_, rfl, x⟩
  | _, _, i + 1, _, .cons x y, e => by
    rw [List.getElem?_cons_succ] at e
    obtain ⟨v, e1, r⟩ := y.get e
    exact ⟨v, by rw [List.getElem?_cons_succ]; exact e1, r⟩
theorem RepL.app : ∀ {ds es : List D} {vs us : List V}, RepL Z h ds vs → RepL Z h es us → RepL Z h (ds ++ es) (vs ++ us)
  | _, _, _, _, .nil, y => y
  | _, _, _, _, .cons a b, y => .cons a (b.app y)
theorem RepL.drop : ∀ {ds : List D} {vs : List V} (n : Nat), RepL Z h ds vs → RepL Z h (ds.drop n) (vs.drop n)
  | _, _, 0, x => x
  | _, _, n + 1, .nil => by simpa using RepL.nil
  | _, _, n + 1, .cons _ y => y.drop n
theorem RepL.take : ∀ {ds : List D} {vs : List V} (n : Nat), RepL Z h ds vs → RepL Z h (ds.take n) (vs.take n)
  | _, _, 0, x => by simpa using RepL.nil
  | _, _, n + 1, .nil => by simpa using RepL.nil
  | _, _, n + 1, .cons x y => .cons x (y.take n)
theorem RepL.rev : ∀ {ds : List D} {vs : List V}, RepL Z h ds vs → RepL Z h ds.reverse vs.reverse
  | _, _, .nil => .nil
  | _, _, .cons x y => by
    rw [List.reverse_cons, List.reverse_cons]
    exact y.rev.app (.cons x .nil)
theorem RepL.rep {ds : List D} {vs : List V} (x : RepL Z h ds vs) : ∀ n : Nat, RepL Z h (List.replicate n ds).flatten (List.replicate n vs).flatten
  | 0 => .nil
  | n + 1 => by
    rw [List.replicate_succ, List.replicate_succ, List.flatten_cons, List.flatten_cons]
    exact x.app (x.rep n)
theorem RepL.set : ∀ {ds : List D} {vs : List V} {d : D} {v : V} (i : Nat), RepL Z h ds vs → Rep Z h d v → RepL Z h (ds.set i d) (vs.set i v)
  | _, _, _, _, _, .nil, _ => .nil
  | _, _, _, _, 0, .cons x y, r => .cons r y
  | _, _, _, _, i + 1, .cons x y, r => .cons x (y.set i r)
theorem RepL.snoc {ds : List D} {vs : List V} {d : D} {v : V} (x : RepL Z h ds vs) (r : Rep Z h d v) : RepL Z h (ds ++ [d]) (vs ++ [v]) := x.app (.cons r .nil)
theorem RepL.ints : ∀ {ds : List D} {vs : List V} {ns : List Int}, RepL Z h ds vs → intsD ds = some ns → vs = ns.map V.int
  | _, _, _, .nil, e => by
    rw [intsD] at e
    cases e
    rfl
  | _, _, ns, .cons x y, e => by
    cases x with
    | int i =>
      rw [intsD] at e
      obtain ⟨ms, e1, rfl⟩ := Option.map_eq_some_iff.mp e
      rw [y.ints e1]
      rfl
    | _ => cases e
theorem RepL.bools : ∀ {ds : List D} {vs : List V} {ns : List Bool}, RepL Z h ds vs → boolsD ds = some ns → vs = ns.map V.bl
  | _, _, _, .nil, e => by
    rw [boolsD] at e
    cases e
    rfl
  | _, _, ns, .cons x y, e => by
    cases x with
    | bl i =>
      rw [boolsD] at e
      obtain ⟨ms, e1, rfl⟩ := Option.map_eq_some_iff.mp e
      rw [y.bools e1]
      rfl
    | _ => cases e
end

/-! ### states -/
def TownOk (Z : Gd) (H Sh : Hp) (s : S) : Prop := match Z.T, s with
  | none, none => True
  | some t, some n => Sh t = none ∧ H t = some (.lst (List.replicate n (V.int 0)))
  | _, _ => False

/-- the heap at the def's entry, its shared part -/
structure Ent where
  H : Hp
  Sh : Hp
/-- our own lists, each at its place -/
def NIn (Z : Gd) (H Sh : Hp) (H0 : Ent) : List (List D) → List Addr → Prop
  | [], [] => True
  | ds :: dss, b :: bs => (Sh b = none ∧ some b ≠ Z.T ∧ H0.H b = none ∧ b ∉ bs ∧ ∃ od vs, H b = some (.frz od (.lst vs)) ∧ RepL Z Sh ds vs) ∧ NIn Z H Sh H0 dss bs
  | _, _ => False
theorem NIn.mv {Z : Gd} {H Sh H' Sh' : Hp} {H0 H0' : Ent} (f : ∀ b od vs, Sh b = none → some b ≠ Z.T → H0.H b = none → H b = some (.frz od (.lst vs)) → Sh' b = none ∧ H0'.H b = none ∧ H' b = some (.frz od (.lst vs))) (m : ∀ ds vs, RepL Z Sh ds vs → RepL Z Sh' ds vs) :
    ∀ {dss : List (List D)} {bs : List Addr}, NIn Z H Sh H0 dss bs → NIn Z H' Sh' H0' dss bs
  | [], [], _ => trivial
  | ds :: dss, b :: bs, ⟨⟨h1, h2, h3, h4, od, vs, h5, h6⟩, h7⟩ => by
    obtain ⟨q1, q2, q3⟩ := f b od vs h1 h2 h3 h5
    exact ⟨⟨q1, h2, q2, h4, od, vs, q3, m _ _ h6⟩, NIn.mv f m h7⟩
  | [], _ :: _, h => h.elim
  | _ :: _, [], h => h.elim
def SlOk (Z : Gd) (H Sh : Hp) (H0 : Ent) : Sl → Option V → Prop
  | .un, _ => True
  | .dat d, o => ∃ v, o = some v ∧ Rep Z Sh d v
  | .own ds, o => ∃ a vs, o = some (.ref a) ∧ Sh a = none ∧ some a ≠ Z.T ∧ H0.H a = none ∧ H a = some (.lst vs) ∧ RepL Z Sh ds vs
  | .ownD ds, o => ∃ a vs, o = some (.ref a) ∧ Sh a = none ∧ some a ≠ Z.T ∧ H0.H a = none ∧ H a = some (.dK vs) ∧ RepK Z Sh ds vs
  | .lkD ds, o => ∃ a od vs, o = some (.ref a) ∧ Sh a = some (.frz od (.dK vs)) ∧ some a ≠ Z.T ∧ H0.H a = none ∧ H0.Sh a = none ∧ RepK Z Sh ds vs
  | .ownN dss, o => ∃ a bs, o = some (.ref a) ∧ Sh a = none ∧ some a ≠ Z.T ∧ H0.H a = none ∧ H a = some (.lst (bs.map V.ref)) ∧ NIn Z H Sh H0 dss bs
def isOwn : Sl → Bool
  | .own _ => true
  | .ownD _ => true
  | .ownN _ => true
  | _ => false
structure Ext (Z : Gd) (H Sh H' Sh' : Hp) (s' : S) : Prop where
  frame : ∀ (a : Addr) (o : HO), some a ≠ Z.T → H a = some o → H' a = some o
  shs : Same Sh Sh'
  sub : Same Sh' H'
  town : TownOk Z H' Sh' s'
  new : ∀ (a : Addr) (o : HO), Sh' a = some o → Sh a = some o ∨ H a = none

structure Ok (Z : Gd) (H0 : Ent) (σ : L2.St) (g : G) (H Sh : Hp) (s : S) : Prop where
  ent : Ext Z H0.H H0.Sh H Sh s
  len : σ.length = g.length
  slot : ∀ (i : Nat) (x : Sl) (o : Option V), g[i]? = some x → σ[i]? = some o → SlOk Z H Sh H0 x o
  dist : ∀ (i j : Nat) (x y : Sl) (o : Option V), g[i]? = some x → g[j]? = some y → isOwn x = true → isOwn y = true → σ[i]? = some o → σ[j]? = some o → i = j
theorem Ok.sub {Z : Gd} {H0 : Ent} {σ : L2.St} {g : G} {H Sh : Hp} {s : S} (k : Ok Z H0 σ g H Sh s) : Same Sh H := k.ent.sub
theorem Ok.town {Z : Gd} {H0 : Ent} {σ : L2.St} {g : G} {H Sh : Hp} {s : S} (k : Ok Z H0 σ g H Sh s) : TownOk Z H Sh s := k.ent.town

section
variable {Z : Gd} {H0 : Ent} {H Sh H' Sh' H2 Sh2 : Hp} {σ : L2.St} {g : G} {s s' s2 : S}
theorem TownOk.there (t : TownOk Z H Sh s) {a : Addr} (e : Z.T = some a) : ∃ n, s = some n ∧ Sh a = none ∧ H a = some (.lst (List.replicate n (V.int 0))) := by
  unfold TownOk at t
  rw [e] at t
  cases s with
  | none => exact t.elim
  | some n => exact ⟨n, rfl, t.1, t.2⟩
theorem Ext.refl (sub : Same Sh H) (t : TownOk Z H Sh s) : Ext Z H Sh H Sh s := ⟨fun _ _ _ e => e, Same.refl _, sub, t, fun _ _ e => .inl e⟩
theorem Ext.gone (e : Ext Z H Sh H' Sh' s') {a : Addr} (x : H' a = none) : (H a = none ∨ some a = Z.T) := by
  by_cases h : some a = Z.T
  · exact .inr h
  · cases q : H a with
    | none => exact .inl rfl
    | some o =>
      rw [e.frame a o h q] at x
      cases x
theorem Ext.trans (e : Ext Z H Sh H' Sh' s') (f : Ext Z H' Sh' H2 Sh2 s2) : Ext Z H Sh H2 Sh2 s2 where
  frame := fun a o h q => f.frame a o h (e.frame a o h q)
  shs := e.shs.trans f.shs
  sub := f.sub
  town := f.town
  new := fun a o q => by
    rcases f.new a o q with h | h
    · exact e.new a o h
    · rcases e.gone h with h3 | h3
      · exact .inr h3
      · obtain ⟨n, _, h1, h2⟩ := e.town.there h3.symm
        rw [h2] at h
        cases h
theorem SlOk.ext (x : Ext Z H Sh H' Sh' s') {sl : Sl} {o : Option V} (k : SlOk Z H Sh H0 sl o) : SlOk Z H' Sh' H0 sl o := by
  cases sl with
  | un => trivial
  | dat d =>
    obtain ⟨v, e, r⟩ := k
    exact ⟨v, e, r.mono x.shs⟩
  | own ds =>
    obtain ⟨a, vs, e, h1, h2, h3, h4, r⟩ := k
    refine ⟨a, vs, e, ?_, h2, h3, x.frame a _ h2 h4, r.mono x.shs⟩
    cases q : Sh' a with
    | none => rfl
    | some o =>
      rcases x.new a o q with z | z
      · rw [h1] at z; cases z
      · rw [h4] at z; cases z
  | ownD ds =>
    obtain ⟨a, vs, e, h1, h2, h3, h4, r⟩ := k
    refine ⟨a, vs, e, ?_, h2, h3, x.frame a _ h2 h4, r.mono x.shs⟩
    cases q : Sh' a with
    | none => rfl
    | some o =>
      rcases x.new a o q with z | z
      · rw [h1] at z; cases z
      · rw [h4] at z; cases z
  | lkD ds =>
    obtain ⟨a, od, vs, e, h1, h2, h3, h5, r⟩ := k
    exact ⟨a, od, vs, e, x.shs _ _ h1, h2, h3, h5, r.mono x.shs⟩
  | ownN dss =>
    obtain ⟨a, bs, e, h1, h2, h3, h4, r⟩ := k
    have no : ∀ b o, Sh b = none → H b = some o → Sh' b = none := fun b o h1 h4 => by
      cases q : Sh' b with
      | none => rfl
      | some o' =>
        rcases x.new b o' q with z | z
        · rw [h1] at z; cases z
        · rw [h4] at z; cases z
    exact ⟨a, bs, e, no a _ h1 h4, h2, h3, x.frame a _ h2 h4, r.mv (fun b od vs q1 q2 q3 q4 => ⟨no b _ q1 q4, q3, x.frame b _ q2 q4⟩) fun ds vs q => q.mono x.shs⟩
theorem Ok.ext (k : Ok Z H0 σ g H Sh s) (x : Ext Z H Sh H' Sh' s') : Ok Z H0 σ g H' Sh' s' where
  ent := k.ent.trans x
  len := k.len
  slot := fun i sl o e1 e2 => (k.slot i sl o e1 e2).ext x
  dist := k.dist
end
end FR
/-! FrSnd1: readings by the evaluator, and the rules for expressions. -/
namespace FR
open PySem PySem.Spec PyProof.Rows L2

/-! ### new objects -/
section
variable {Z : Gd} {H Sh : Hp} {s : S} {p : Addr}
theorem same_none (sub : Same Sh H) (hp : H p = none) : Sh p = none := sub.free hp
theorem same_upd2 (sub : Same Sh H) (o : HO) : Same (upd Sh p o) (upd H p o) := fun b x e => by
  by_cases h : b = p
  · subst h
    rw [upd_same] at e ⊢
    exact e
  · rw [upd_ne h] at e ⊢
    exact sub b x e
theorem same_fresh {o : HO} (hp : H p = none) : Same H (upd H p o) := fun b x e => by
  rw [upd_ne (ne_of_none e hp)]
  exact e
theorem TownOk.put {o : HO} (t : TownOk Z H Sh s) (hp : H p = none) : TownOk Z (upd H p o) (upd Sh p o) s := by
  unfold TownOk at t ⊢
  split at t
  · trivial
  · rename_i x a n e1
    have h : a ≠ p := fun q => by
      subst q
      rw [hp] at t
      cases t.2
    rw [upd_ne h, upd_ne h]
    exact t
  · exact t
theorem TownOk.putH {o : HO} (t : TownOk Z H Sh s) (hp : H p = none) : TownOk Z (upd H p o) Sh s := by
  unfold TownOk at t ⊢
  split at t
  · trivial
  · rename_i x a n e1
    have h : a ≠ p := fun q => by
      subst q
      rw [hp] at t
      cases t.2
    rw [upd_ne h]
    exact t
  · exact t
theorem Ext.alloc (sub : Same Sh H) (t : TownOk Z H Sh s) (hp : H p = none) (o : HO) : Ext Z H Sh (upd H p o) (upd Sh p o) s where
  frame := fun a x _ e => same_fresh hp a x e
  shs := same_fresh (same_none sub hp)
  sub := same_upd2 sub o
  town := t.put hp
  new := fun a x e => by
    by_cases h : a = p
    · subst h
      exact .inr hp
    · rw [upd_ne h] at e
      exact .inl e
theorem Ext.allocH (sub : Same Sh H) (t : TownOk Z H Sh s) (hp : H p = none) (o : HO) : Ext Z H Sh (upd H p o) Sh s where
  frame := fun a x _ e => same_fresh hp a x e
  shs := Same.refl _
  sub := sub.trans (same_fresh hp)
  town := t.putH hp
  new := fun a x e => .inl e
end

/-! ### what is wanted of an answer -/
section
variable (Z : Gd) (W : WX)
def EvX {α β : Type} (rel : Hp → α → β → Prop) (o : EV α) (σ : L2.St) (H Sh : Hp) (Q : β → Hp → Prop) : Prop := match o with
  | some (.ok d, s) => ∀ (v : β) (H' Sh' : Hp), Ext Z H Sh H' Sh' s → rel Sh' d v → Q v H'
  | some (.exn c, s) => ∀ (H' Sh' : Hp), Ext Z H Sh H' Sh' s → W (.ref (Z.cA c)) none σ H'
  | none => False
end
section
variable {Z : Gd} {W : WX} {α β γ δ : Type} {rel : Hp → α → β → Prop} {rel2 : Hp → γ → δ → Prop} {σ : L2.St} {H Sh H' Sh' : Hp} {s : S}
theorem EvX.bind {o : EV α} {f : α → S → EV γ} {Q : δ → Hp → Prop} {Q' : β → Hp → Prop} (h : EvX Z W rel2 (rb o f) σ H Sh Q)
    (k : ∀ a s' v H' Sh', Ext Z H Sh H' Sh' s' → rel Sh' a v → EvX Z W rel2 (f a s') σ H' Sh' Q → Q' v H') : EvX Z W rel o σ H Sh Q' := by
  unfold EvX
  cases o with
  | none => exact h
  | some p =>
    obtain ⟨r, s1⟩ := p
    cases r with
    | exn c => exact h
    | ok a =>
      intro v H' Sh' e r
      refine k a s1 v H' Sh' e r ?_
      rw [rb_ok] at h
      unfold EvX at h ⊢
      cases q : f a s1 with
      | none =>
        rw [q] at h
        exact h
      | some p =>
        obtain ⟨r2, s2⟩ := p
        rw [q] at h
        cases r2 with
        | exn c => exact fun H2 Sh2 e2 => h H2 Sh2 (e.trans e2)
        | ok d => exact fun v2 H2 Sh2 e2 r2 => h v2 H2 Sh2 (e.trans e2) r2
theorem EvX.mv {o : EV α} {Q : β → Hp → Prop} {s0 : S} (h : EvX Z W rel o σ H Sh Q) (e : Ext Z H Sh H' Sh' s0) : EvX Z W rel o σ H' Sh' Q := by
  unfold EvX at h ⊢
  cases o with
  | none => exact h
  | some p =>
    obtain ⟨r, s1⟩ := p
    cases r with
    | exn c => exact fun H2 Sh2 e2 => h H2 Sh2 (e.trans e2)
    | ok d => exact fun v2 H2 Sh2 e2 r2 => h v2 H2 Sh2 (e.trans e2) r2
theorem EvX.imp {o : EV α} {Q Q' : β → Hp → Prop} (h : EvX Z W rel o σ H Sh Q) (w : ∀ v H, Q v H → Q' v H) : EvX Z W rel o σ H Sh Q' := by
  unfold EvX at h ⊢
  split
  · exact fun v H' Sh' e r => w _ _ (h v H' Sh' e r)
  · exact h
  · exact h
/-- the answer stands where we are -/
theorem EvX.here {d : α} {v : β} {Q : β → Hp → Prop} (h : EvX Z W rel (some (.ok d, s)) σ H Sh Q) (sub : Same Sh H) (t : TownOk Z H Sh s) (r : rel Sh d v) : Q v H :=
  h v H Sh (Ext.refl sub t) r
theorem EvX.rp {o : Option α} {Q : β → Hp → Prop} (h : EvX Z W rel (rp o s) σ H Sh Q) : ∃ d, o = some d ∧ EvX Z W rel (some (.ok d, s)) σ H Sh Q := by
  cases o with
  | none => exact h.elim
  | some d => exact ⟨d, rfl, h⟩
end

section
variable (Z : Gd) (W : WX) (H0 : Ent)
def tX {α β : Type} (rel : Hp → α → β → Prop) (ev : G → S → EV α) : L2.St → Hp → (β → Hp → Prop) → Prop := fun σ H Q =>
  ∃ (g : G) (s : S) (Sh : Hp), Ok Z H0 σ g H Sh s ∧ EvX Z W rel (ev g s) σ H Sh Q
abbrev tV (ev : G → S → EV D) : TE := tX Z W H0 (Rep Z) ev
abbrev tA (ev : G → S → EV (List D)) : TA := tX Z W H0 (RepL Z) ev
abbrev tB (ev : G → S → EV Bool) : TT := tX Z W H0 (fun _ a b => a = b) ev
end

theorem peW {X : Cx} {e : Expr} {t t' : TE} (h : PE X e t) (w : ∀ σ H Q, t' σ H Q → t σ H Q) : PE X e t' := ⟨fun pins s σ H Q I q => h.run pins s σ H Q I (w σ H Q q)⟩
theorem ptW {X : Cx} {e : Expr} {t t' : TT} (h : PT X e t) (w : ∀ σ H Q, t' σ H Q → t σ H Q) : PT X e t' := ⟨fun pins s σ H Q I q => h.run pins s σ H Q I (w σ H Q q)⟩
theorem paW {X : Cx} {e : List Expr} {t t' : TA} (h : PA X e t) (w : ∀ σ H Q, t' σ H Q → t σ H Q) : PA X e t' := ⟨fun pos pins s σ H Q I q => h.run pos pins s σ H Q I (w σ H Q q)⟩
theorem psW {X : Cx} {e : Stmt} {t t' : TS} (h : PS X e t) (w : ∀ D σ H, t' D σ H → t D σ H) : PS X e t' := ⟨fun pins s σ H D I q => h.run pins s σ H D I (w D σ H q)⟩
theorem pssW {X : Cx} {e : List Stmt} {t t' : TS} (h : PSs X e t) (w : ∀ D σ H, t' D σ H → t D σ H) : PSs X e t' := ⟨fun pins s σ H D I q => h.run pins s σ H D I (w D σ H q)⟩

section
variable {Z : Gd} {W : WX} {H0 : Ent} {X : Cx} {pos : Pos} {a b c e : Expr} {ea eb ec : G → S → EV D}

/-! ### constants and names -/
theorem sCst {k : Cst} {ev : G → S → EV D} {v : V} (h : PE X e (tC v)) (hv : ∀ Sh, Rep Z Sh k.d v) (he : ∀ g s, ev g s = some (.ok k.d, s)) : PE X e (tV Z W H0 ev) :=
  peW h fun σ H Q ⟨g, s, Sh, ok, h⟩ => by
    rw [he] at h
    exact h.here ok.sub ok.town (hv Sh)
theorem Ok.get {σ : L2.St} {g : G} {H Sh : Hp} {s : S} (k : Ok Z H0 σ g H Sh s) {i : Nat} {x : Sl} (e : g[i]? = some x) : ∃ o, σ[i]? = some o ∧ SlOk Z H Sh H0 x o := by
  have hl : i < σ.length := by
    rw [k.len]
    exact (List.getElem?_eq_some_iff.mp e).1
  exact ⟨σ[i], List.getElem?_eq_getElem hl, k.slot i x _ e (List.getElem?_eq_getElem hl)⟩
theorem Ok.rd {σ : L2.St} {g : G} {H Sh : Hp} {s : S} (k : Ok Z H0 σ g H Sh s) {i : Nat} {d : D} (h : g.rd i = some d) : ∃ v, σ[i]? = some (some v) ∧ Rep Z Sh d v := by
  unfold G.rd at h
  split at h
  · rename_i d' e
    cases h
    obtain ⟨o, e2, v, rfl, r⟩ := k.get e
    exact ⟨v, e2, r⟩
  · rename_i ks e
    cases h
    obtain ⟨o, e2, a, od, vs, rfl, h1, _, _, _, r⟩ := k.get e
    exact ⟨_, e2, .dct h1 r⟩
  · cases h
theorem sVar {i : Nat} (h : PE X e (tVar i)) : PE X e (tV Z W H0 fun g s => rp (g.rd i) s) :=
  peW h fun σ H Q ⟨g, s, Sh, ok, h⟩ => by
    obtain ⟨d, e1, h⟩ := h.rp
    obtain ⟨v, e2, r⟩ := ok.rd e1
    exact ⟨v, e2, h.here ok.sub ok.town r⟩

/-! ### operators -/
/-- a rule by values does what a function of data says -/
def RD (Z : Gd) (W : WX) (r : R2) (f : D → D → Option D) : Prop := ∀ (x y : V) (d1 d2 : D) (σ : L2.St) (H Sh : Hp) (s : S) (Q : VK), Same Sh H → TownOk Z H Sh s → Rep Z Sh d1 x → Rep Z Sh d2 y →
  EvX Z W (Rep Z) (rp (f d1 d2) s) σ H Sh Q → r x y H Q
theorem sOp {r : R2} {f : D → D → Option D} (hr : RD Z W r f) {t : TE} (ht : ∀ σ H Q, tOp r (tV Z W H0 ea) (tV Z W H0 eb) σ H Q → t σ H Q) (h : PE X e t) :
    PE X e (tV Z W H0 fun g s => rb (ea g s) fun x s => rb (eb g s) fun y s => rp (f x y) s) :=
  peW h fun σ H Q ⟨g, s, Sh, ok, h⟩ => ht σ H Q
    ⟨g, s, Sh, ok, h.bind fun x s1 v H1 Sh1 e1 r1 h1 => ⟨g, s1, Sh1, ok.ext e1, h1.bind fun y s2 u H2 Sh2 e2 r2 h2 =>
      hr v u x y σ H2 Sh2 s2 Q e2.sub e2.town (r1.mono e2.shs) r2 h2⟩⟩
theorem sBin {op : Operator} {r : R2} {f : D → D → Option D} (ho : OpR X (binaryOp op) r) (hr : RD Z W r f) (ha : PE X a (tV Z W H0 ea)) (hb : PE X b (tV Z W H0 eb)) :
    PE X (.BinOp a op b pos) (tV Z W H0 fun g s => rb (ea g s) fun x s => rb (eb g s) fun y s => rp (f x y) s) := sOp hr (fun _ _ _ h => h) (pe_op ho ha hb)
theorem sCmp {op : CmpOp} {r : R2} {f : D → D → Option D} (ho : OpR X (compareOp op) r) (hr : RD Z W r f) (ha : PE X a (tV Z W H0 ea)) (hb : PE X b (tV Z W H0 eb)) (hm : behindInMarks op b = false) :
    PE X (.Compare a [op] [b] pos) (tV Z W H0 fun g s => rb (ea g s) fun x s => rb (eb g s) fun y s => rp (f x y) s) := sOp hr (fun _ _ _ h => h) (pe_cmpR ho ha hb hm)
theorem RD.or {r r' : R2} {f f' : D → D → Option D} (h : RD Z W r f) (h' : RD Z W r' f') {k : D → D → Option D} (hk : ∀ x y d, k x y = some d → f x y = some d ∨ f' x y = some d) :
    RD Z W (fun x y H Q => r x y H Q ∨ r' x y H Q) k := fun x y d1 d2 σ H Sh s Q sub t r1 r2 h0 => by
  obtain ⟨d, e, h0⟩ := h0.rp
  rcases hk _ _ _ e with q | q
  · exact .inl (h x y d1 d2 σ H Sh s Q sub t r1 r2 (by rw [q]; exact h0))
  · exact .inr (h' x y d1 d2 σ H Sh s Q sub t r1 r2 (by rw [q]; exact h0))

/-- two ints -/
def onI (f : Int → Int → Option D) : D → D → Option D
  | .int i, .int j => f i j
  | _, _ => none
theorem rd_int {C : Int → Int → Prop} {k : Int → Int → V} {f : Int → Int → Option D} (h : ∀ i j d, f i j = some d → C i j ∧ ∀ Sh, Rep Z Sh d (k i j)) : RD Z W (rI C k) (onI f) := fun x y d1 d2 σ H Sh s Q sub t r1 r2 h0 => by
  obtain ⟨d, e, h1⟩ := h0.rp
  unfold onI at e
  split at e
  · rename_i i j
    cases r1
    cases r2
    obtain ⟨c, r⟩ := h i j d e
    exact ⟨i, j, rfl, rfl, c, h1.here sub t (r Sh)⟩
  · cases e
theorem rd_int0 {k : Int → Int → V} {f : Int → Int → Option D} (h : ∀ i j d, f i j = some d → ∀ Sh, Rep Z Sh d (k i j)) : RD Z W (rI0 k) (onI f) := fun x y d1 d2 σ H Sh s Q sub t r1 r2 h0 => by
  obtain ⟨d, e, h1⟩ := h0.rp
  unfold onI at e
  split at e
  · rename_i i j
    cases r1
    cases r2
    exact ⟨i, j, rfl, rfl, h1.here sub t (h i j d e Sh)⟩
  · cases e
end
end FR
/-! FrSnd2: operators over data. -/
namespace FR
open PySem PySem.Spec PyProof.Rows L2

theorem szLine {n : Nat} (h : n ≤ SZ) : n ≤ sizeLine := Nat.le_trans h (by decide)
theorem szLt {n : Nat} (h : n < SZ) : n < sizeLine := Nat.lt_of_lt_of_le h (by decide)
theorem hkLine {n : Nat} (h : n ≤ 100000) : n ≤ sizeLine := Nat.le_trans h (by decide)

section
variable {Z : Gd} {W : WX} {H0 : Ent} {X : Cx}

/-- a new list, shared at once -/
theorem EvX.newL {σ : L2.St} {H Sh : Hp} {s : S} {ds : List D} {vs : List V} {Q : VK} {p : Addr} (h : EvX Z W (Rep Z) (some (.ok (.lst ds), s)) σ H Sh Q) (sub : Same Sh H) (t : TownOk Z H Sh s) (r : RepL Z Sh ds vs) (hp : H p = none) :
    Q (.ref p) (upd H p (.lst vs)) :=
  h (.ref p) _ (upd Sh p (.lst vs)) (Ext.alloc sub t hp _) (.lst upd_same (r.mono (same_fresh (same_none sub hp))))
theorem EvX.newT {σ : L2.St} {H Sh : Hp} {s : S} {ds : List D} {vs : List V} {Q : VK} {p : Addr} (h : EvX Z W (Rep Z) (some (.ok (.tup ds), s)) σ H Sh Q) (sub : Same Sh H) (t : TownOk Z H Sh s) (r : RepL Z Sh ds vs) (hp : H p = none) :
    Q (.ref p) (upd H p (.tup vs)) :=
  h (.ref p) _ (upd Sh p (.tup vs)) (Ext.alloc sub t hp _) (.tup (SqT.of upd_same) (r.mono (same_fresh (same_none sub hp))))

/-! ### + -/
def addI : D → D → Option D := onI fun i j => some (.int (i + j))
def addS : D → D → Option D
  | .str x, .str y => if x.length + y.length ≤ 100000 then some (.str (x ++ y)) else none
  | _, _ => none
def addL : D → D → Option D
  | .lst xs, .lst ys => if xs.length + ys.length ≤ SZ then some (.lst (xs ++ ys)) else none
  | _, _ => none
def addT : D → D → Option D
  | .tup xs, .tup ys => if xs.length + ys.length ≤ SZ then some (.tup (xs ++ ys)) else none
  | _, _ => none
theorem rd_addS : RD Z W (fun x y H Q => ∃ i j, x = .str i ∧ y = .str j ∧ i.length + j.length ≤ sizeLine ∧ Q (.str (i ++ j)) H) addS := fun x y d1 d2 σ H Sh s Q sub t r1 r2 h0 => by
  obtain ⟨d, e, h1⟩ := h0.rp
  unfold addS at e
  split at e
  · cases r1
    cases r2
    split at e
    · rename_i hl
      cases e
      exact ⟨_, _, rfl, rfl, hkLine hl, h1.here sub t (.str _)⟩
    · cases e
  · cases e
theorem rd_addL : RD Z W rCat addL := fun x y d1 d2 σ H Sh s Q sub t r1 r2 h0 => by
  obtain ⟨d, e, h1⟩ := h0.rp
  unfold addL at e
  split at e
  · cases r1 with
    | lst x1 y1 =>
      cases r2 with
      | lst x2 y2 =>
        split at e
        · rename_i hl
          cases e
          refine ⟨_, _, _, _, rfl, rfl, sub _ _ x1, sub _ _ x2, ?_, fun p hp => h1.newL sub t (y1.app y2) hp⟩
          rw [← y1.length, ← y2.length]
          exact szLine hl
        · cases e
  · cases e
theorem rd_addT : RD Z W (rCatA Z.K) addT := fun x y d1 d2 σ H Sh s Q sub t r1 r2 h0 => by
  obtain ⟨d, e, h1⟩ := h0.rp
  unfold addT at e
  split at e
  · cases r1 with
    | tup x1 y1 =>
      cases r2 with
      | tup x2 y2 =>
        split at e
        · rename_i hl
          cases e
          refine ⟨_, _, _, _, rfl, rfl, seqT sub x1, seqT sub x2, ?_, fun z => ?_, fun _ z => ?_, fun _ _ p hp => h1.newT sub t (y1.app y2) hp⟩
          · rw [← y1.length, ← y2.length]
            exact szLine hl
          · subst z
            cases y1
            exact h1.here sub t (.tup x2 y2)
          · subst z
            cases y2
            refine h1.here sub t (.tup x1 ?_)
            rw [List.append_nil]
            exact y1
        · cases e
  · cases e
theorem sAdd {pos : Pos} {a b : Expr} {ea eb : G → S → EV D} (hk : X.K = Z.K) (ha : PE X a (tV Z W H0 ea)) (hb : PE X b (tV Z W H0 eb)) :
    PE X (.BinOp a .Add b pos) (tV Z W H0 fun g s => rb (ea g s) fun x s => rb (eb g s) fun y s => rp (binD .add x y) s) := by
  refine sBin (op_add.or (op_add_str.or (op_cat.or op_catA))) ?_ ha hb
  rw [hk]
  refine RD.or (f := addI) (rd_int0 fun i j d e Sh => by cases e; exact .int _) (RD.or rd_addS (RD.or rd_addL rd_addT (k := fun x y => (addL x y).or (addT x y)) fun x y d e => ?_) (k := fun x y => (addS x y).or ((addL x y).or (addT x y))) fun x y d e => ?_) fun x y d e => ?_
  · cases q : addL x y with
    | none => rw [q] at e; exact .inr e
    | some z => rw [q] at e; exact .inl e
  · cases q : addS x y with
    | none => rw [q] at e; exact .inr e
    | some z => rw [q] at e; exact .inl e
  · show addI x y = some d ∨ _
    change addD x y = some d at e
    unfold addD at e
    split at e
    · exact .inl e
    · rename_i x y
      right
      show (addS (.str x) (.str y)).or _ = some d
      have q : addS (.str x) (.str y) = some d := e
      rw [q]
      rfl
    · rename_i x y
      right
      show (addL (.lst x) (.lst y)).or _ = some d
      have q : addL (.lst x) (.lst y) = some d := e
      rw [q]
      rfl
    · rename_i x y
      right
      exact e
    · cases e

/-! ### - * // % ** -/
theorem sSub {pos : Pos} {a b : Expr} {ea eb : G → S → EV D} (ha : PE X a (tV Z W H0 ea)) (hb : PE X b (tV Z W H0 eb)) :
    PE X (.BinOp a .Sub b pos) (tV Z W H0 fun g s => rb (ea g s) fun x s => rb (eb g s) fun y s => rp (binD .sub x y) s) := by
  have e : binD .sub = onI fun i j => some (.int (i - j)) := by
    funext x y
    cases x <;> cases y <;> rfl
  rw [e]
  exact sBin op_sub (rd_int0 fun i j d e Sh => by cases e; exact .int _) ha hb
theorem op_fdivA : OpR X (binaryOp .FloorDiv) (rI (fun _ j => j ≠ 0 ∧ j.natAbs.log2 < 9000) fun i j => .int (i.fdiv j)) :=
  opI fun _ _ _ _ _ _ _ hc q => floordiv_int hc.1 q (.inl (PyProof.noPylong_of_log2 hc.2))
theorem sFdiv {pos : Pos} {a b : Expr} {ea eb : G → S → EV D} (ha : PE X a (tV Z W H0 ea)) (hb : PE X b (tV Z W H0 eb)) :
    PE X (.BinOp a .FloorDiv b pos) (tV Z W H0 fun g s => rb (ea g s) fun x s => rb (eb g s) fun y s => rp (binD .fdiv x y) s) := by
  have e : binD .fdiv = onI fun i j => if divOk j then some (.int (i.fdiv j)) else none := by
    funext x y
    cases x <;> cases y <;> rfl
  rw [e]
  refine sBin op_fdivA (rd_int fun i j d e => ?_) ha hb
  split at e
  · rename_i h
    cases e
    exact ⟨of_decide_eq_true h, fun _ => .int _⟩
  · cases e
theorem sMod {pos : Pos} {a b : Expr} {ea eb : G → S → EV D} (ha : PE X a (tV Z W H0 ea)) (hb : PE X b (tV Z W H0 eb)) :
    PE X (.BinOp a .Mod b pos) (tV Z W H0 fun g s => rb (ea g s) fun x s => rb (eb g s) fun y s => rp (binD .mod x y) s) := by
  have e : binD .mod = onI fun i j => if j = 0 then none else some (.int (i.fmod j)) := by
    funext x y
    cases x <;> cases y <;> rfl
  rw [e]
  refine sBin op_modN (rd_int fun i j d e => ?_) ha hb
  split at e
  · cases e
  · rename_i h
    cases e
    exact ⟨h, fun _ => .int _⟩
theorem sPow {pos : Pos} {a b : Expr} {ea eb : G → S → EV D} (ha : PE X a (tV Z W H0 ea)) (hb : PE X b (tV Z W H0 eb)) :
    PE X (.BinOp a .Pow b pos) (tV Z W H0 fun g s => rb (ea g s) fun x s => rb (eb g s) fun y s => rp (binD .pow x y) s) := by
  have e : binD .pow = onI fun i j => if 0 ≤ j ∧ j ≤ 1000 ∧ i.natAbs < 2 ^ 64 then some (.int (i ^ j.toNat)) else none := by
    funext x y
    cases x <;> cases y <;> rfl
  rw [e]
  refine sBin op_pow (rd_int fun i j d e => ?_) ha hb
  split at e
  · rename_i h
    cases e
    exact ⟨⟨h.1, Int.le_trans h.2.1 (by decide), h.2.2⟩, fun _ => .int _⟩
  · cases e
theorem sShl {pos : Pos} {a b : Expr} {ea eb : G → S → EV D} (ha : PE X a (tV Z W H0 ea)) (hb : PE X b (tV Z W H0 eb)) :
    PE X (.BinOp a .LShift b pos) (tV Z W H0 fun g s => rb (ea g s) fun x s => rb (eb g s) fun y s => rp (binD .shl x y) s) := by
  have e : binD .shl = onI fun i j => if 0 ≤ j ∧ j ≤ 1000 ∧ i.natAbs < 2 ^ 64 then some (.int (i * 2 ^ j.toNat)) else none := by
    funext x y
    cases x <;> cases y <;> rfl
  rw [e]
  refine sBin op_shl (rd_int fun i j d e => ?_) ha hb
  split at e
  · rename_i h
    cases e
    exact ⟨⟨h.1, Int.le_trans h.2.1 (by decide), h.2.2⟩, fun _ => .int _⟩
  · cases e
theorem sShr {pos : Pos} {a b : Expr} {ea eb : G → S → EV D} (ha : PE X a (tV Z W H0 ea)) (hb : PE X b (tV Z W H0 eb)) :
    PE X (.BinOp a .RShift b pos) (tV Z W H0 fun g s => rb (ea g s) fun x s => rb (eb g s) fun y s => rp (binD .shr x y) s) := by
  have e : binD .shr = onI fun i j => if 0 ≤ j then some (.int (i / 2 ^ j.toNat)) else none := by
    funext x y
    cases x <;> cases y <;> rfl
  rw [e]
  refine sBin op_shr (rd_int fun i j d e => ?_) ha hb
  split at e
  · rename_i h
    cases e
    exact ⟨h, fun _ => .int _⟩
  · cases e
theorem band_one (i : Int) (h : 0 ≤ i) : Builtin.bitAnd i 1 = i % 2 := by
  unfold Builtin.bitAnd
  rw [decide_eq_true h, decide_eq_true (show (0 : Int) ≤ 1 by decide)]
  show (((i.toNat &&& (1 : Int).toNat : Nat)) : Int) = i % 2
  have e : i.toNat &&& (1 : Int).toNat = i.toNat % 2 := Nat.and_one_is_mod _
  rw [e]
  omega
theorem sBand {pos : Pos} {a b : Expr} {ea eb : G → S → EV D} (ha : PE X a (tV Z W H0 ea)) (hb : PE X b (tV Z W H0 eb)) :
    PE X (.BinOp a .BitAnd b pos) (tV Z W H0 fun g s => rb (ea g s) fun x s => rb (eb g s) fun y s => rp (binD .band x y) s) := by
  have e : binD .band = onI fun i j => if 0 ≤ i ∧ j = 1 then some (.int (i % 2)) else none := by
    funext x y
    cases x <;> cases y <;> rfl
  rw [e]
  refine sBin op_and (rd_int0 fun i j d e Sh => ?_) ha hb
  split at e
  · rename_i h
    cases e
    obtain ⟨h1, rfl⟩ := h
    rw [band_one i h1]
    exact .int _
  · cases e
def mulI : D → D → Option D := onI fun i j => if mulOk i j then some (.int (i * j)) else none
def mulL : D → D → Option D
  | .lst xs, .int k => if xs.length * k.toNat ≤ SZ ∧ k.natAbs ≤ SZ then some (.lst (repD xs k)) else none
  | _, _ => none
theorem rd_mulL : RD Z W rRep mulL := fun x y d1 d2 σ H Sh s Q sub t r1 r2 h0 => by
  obtain ⟨d, e, h1⟩ := h0.rp
  unfold mulL at e
  split at e
  · cases r1 with
    | lst x1 y1 =>
      cases r2
      split at e
      · rename_i hl
        cases e
        have h2 : (SZ : Int) < 2 ^ 63 := by decide
        refine ⟨_, _, _, rfl, rfl, sub _ _ x1, by omega, by omega, ?_, fun p hp => h1.newL sub t (y1.rep _) hp⟩
        rw [← y1.length]
        exact szLine hl.1
      · cases e
  · cases e
def mulT : D → D → Option D
  | .str x, .int k => if x.length * k.toNat ≤ 100000 ∧ k.natAbs ≤ SZ then some (.str (ofL (List.replicate k.toNat (tlS x)).flatten)) else none
  | _, _ => none
theorem rd_mulT : RD Z W (fun x y H Q => ∃ z k, x = .str z ∧ y = .int k ∧ (z.length * k.toNat ≤ 100000 ∧ k.natAbs ≤ SZ) ∧ Q (.str (ofL (List.replicate k.toNat (tlS z)).flatten)) H) mulT := fun x y d1 d2 σ H Sh s Q sub t r1 r2 h0 => by
  obtain ⟨d, e, h1⟩ := h0.rp
  unfold mulT at e
  split at e
  · cases r1
    cases r2
    split at e
    · rename_i hl
      cases e
      exact ⟨_, _, rfl, rfl, hl, h1.here sub t (.str _)⟩
    · cases e
  · cases e
theorem sMul {pos : Pos} {a b : Expr} {ea eb : G → S → EV D} (ha : PE X a (tV Z W H0 ea)) (hb : PE X b (tV Z W H0 eb)) :
    PE X (.BinOp a .Mult b pos) (tV Z W H0 fun g s => rb (ea g s) fun x s => rb (eb g s) fun y s => rp (binD .mul x y) s) := by
  refine sBin (op_mulW.or (op_rep.or op_mulS)) (RD.or (f := mulI) (rd_int fun i j d e => ?_) (RD.or rd_mulL rd_mulT (k := fun x y => (mulL x y).or (mulT x y)) fun x y d e => ?_) fun x y d e => ?_) ha hb
  · split at e
    · rename_i h
      cases e
      refine ⟨?_, fun _ => .int _⟩
      unfold mulOk at h
      show i.natAbs.log2 + j.natAbs.log2 < 1000000
      exact of_decide_eq_true h
    · cases e
  · cases q : mulL x y with
    | none => rw [q] at e; exact .inr e
    | some z => rw [q] at e; exact .inl e
  · change mulD x y = some d at e
    unfold mulD at e
    split at e
    · exact .inl e
    · rename_i xs k
      right
      show (mulL (.lst xs) (.int k)).or _ = some d
      have q : mulL (.lst xs) (.int k) = some d := e
      rw [q]
      rfl
    · right
      exact e
    · cases e
end
end FR
/-! FrSnd3: comparisons, truth, displays, places, built-ins. -/
namespace FR
open PySem PySem.Spec PyProof.Rows L2

/-! ### data that may be compared -/
mutual
def D.toP : D → PyData
  | .bl b => .bool b
  | .int i => .int i
  | .str x => .str x
  | .tup xs => .tuple (D.toPL xs)
  | .lst xs => .list (D.toPL xs)
  | _ => .none
def D.toPL : List D → List PyData
  | [] => []
  | d :: ds => d.toP :: D.toPL ds
end
theorem D.plS {n : Nat} {x : Str} (h : (D.str x).pl n = true) : x.length ≤ 100000 ∧ PySem.PyData.strOk x = true := by
  have h' : (decide (x.length ≤ 100000) && x.cps.all (· < 0x110000)) = true := by
    cases n <;> simpa [D.pl] using h
  rw [Bool.and_eq_true] at h'
  exact ⟨of_decide_eq_true h'.1, h'.2⟩
theorem D.plT {n : Nat} {xs : List D} (h : (D.tup xs).pl n = true) : ∃ m, n = m + 1 ∧ ∀ x ∈ xs, x.pl m = true := by
  cases n with
  | zero => simp [D.pl] at h
  | succ m => exact ⟨m, rfl, by simpa [D.pl] using h⟩
theorem D.plL {n : Nat} {xs : List D} (h : (D.lst xs).pl n = true) : ∃ m, n = m + 1 ∧ ∀ x ∈ xs, x.pl m = true := by
  cases n with
  | zero => simp [D.pl] at h
  | succ m => exact ⟨m, rfl, by simpa [D.pl] using h⟩
mutual
theorem D.lay : ∀ (d : D) (n : Nat), d.pl n = true → d.toP.canLay0 = true ∧ d.toP.depth ≤ n
  | .non, n, _ => by simp [D.toP, PyData.canLay0, PyData.depth]
  | .bl _, n, _ => by simp [D.toP, PyData.canLay0, PyData.depth]
  | .int _, n, _ => by simp [D.toP, PyData.canLay0, PyData.depth]
  | .str x, n, h => by
    refine ⟨?_, ?_⟩
    · rw [D.toP, PyData.canLay0]
      exact (D.plS h).2
    · simp [D.toP, PyData.depth]
  | .tup xs, n, h => by
    obtain ⟨m, rfl, hx⟩ := D.plT h
    obtain ⟨h1, h2⟩ := D.layL xs m hx
    rw [D.toP, PyData.canLay0, PyData.depth]
    exact ⟨h1, Nat.succ_le_succ h2⟩
  | .lst xs, n, h => by
    obtain ⟨m, rfl, hx⟩ := D.plL h
    obtain ⟨h1, h2⟩ := D.layL xs m hx
    rw [D.toP, PyData.canLay0, PyData.depth]
    exact ⟨h1, Nat.succ_le_succ h2⟩
  | .dct _, n, h => by cases n <;> simp [D.pl] at h
  | .exc _, n, h => by cases n <;> simp [D.pl] at h
  | .fn _, n, h => by cases n <;> simp [D.pl] at h
  | .town, n, h => by cases n <;> simp [D.pl] at h
  | .scr _, n, h => by cases n <;> simp [D.pl] at h
  | .ndc _ _, n, h => by cases n <;> simp [D.pl] at h
theorem D.layL : ∀ (ds : List D) (n : Nat), (∀ x ∈ ds, x.pl n = true) → PyData.canLayAll0 (D.toPL ds) = true ∧ PyData.depthAll (D.toPL ds) ≤ n
  | [], n, _ => by simp [D.toPL, PyData.canLayAll0, PyData.depthAll]
  | d :: ds, n, h => by
    obtain ⟨h1, h2⟩ := D.lay d n (h d List.mem_cons_self)
    obtain ⟨h3, h4⟩ := D.layL ds n fun x hx => h x (List.mem_cons_of_mem _ hx)
    rw [D.toPL, PyData.canLayAll0, PyData.depthAll, h1, h3]
    exact ⟨rfl, Nat.max_le.mpr ⟨h2, h4⟩⟩
end
theorem D.shaped {d : D} {n : Nat} (h : d.pl n = true) (hn : n ≤ 64) : SeqAt.shaped d.toP = true := by
  obtain ⟨h1, h2⟩ := d.lay n h
  unfold SeqAt.shaped
  rw [h1, decide_eq_true (Nat.le_trans h2 hn)]
  rfl
mutual
theorem D.eqvP : ∀ (d e : D) (n m : Nat), d.pl n = true → e.pl m = true → PyData.eqv d.toP e.toP = D.eqv d e
  | .non, e, n, m, _, h => by cases e <;> first | rfl | (cases m <;> simp [D.pl] at h)
  | .bl _, e, n, m, _, h => by cases e <;> first | rfl | (cases m <;> simp [D.pl] at h)
  | .int _, e, n, m, _, h => by cases e <;> first | rfl | (cases m <;> simp [D.pl] at h)
  | .str _, e, n, m, _, h => by cases e <;> first | rfl | (cases m <;> simp [D.pl] at h)
  | .tup xs, e, n, m, h1, h => by
    cases e with
    | tup ys =>
      obtain ⟨a, rfl, hx⟩ := D.plT h1
      obtain ⟨b, rfl, hy⟩ := D.plT h
      show PyData.eqvAll (D.toPL xs) (D.toPL ys) = D.eqvL xs ys
      exact D.eqvPL xs ys a b hx hy
    | dct _ => cases m <;> simp [D.pl] at h
    | exc _ => cases m <;> simp [D.pl] at h
    | fn _ => cases m <;> simp [D.pl] at h
    | town => cases m <;> simp [D.pl] at h
    | scr _ => cases m <;> simp [D.pl] at h
    | ndc _ _ => cases m <;> simp [D.pl] at h
    | _ => rfl
  | .lst xs, e, n, m, h1, h => by
    cases e with
    | lst ys =>
      obtain ⟨a, rfl, hx⟩ := D.plL h1
      obtain ⟨b, rfl, hy⟩ := D.plL h
      show PyData.eqvAll (D.toPL xs) (D.toPL ys) = D.eqvL xs ys
      exact D.eqvPL xs ys a b hx hy
    | dct _ => cases m <;> simp [D.pl] at h
    | exc _ => cases m <;> simp [D.pl] at h
    | fn _ => cases m <;> simp [D.pl] at h
    | town => cases m <;> simp [D.pl] at h
    | scr _ => cases m <;> simp [D.pl] at h
    | ndc _ _ => cases m <;> simp [D.pl] at h
    | _ => rfl
  | .dct _, _, n, _, h, _ => by cases n <;> simp [D.pl] at h
  | .exc _, _, n, _, h, _ => by cases n <;> simp [D.pl] at h
  | .fn _, _, n, _, h, _ => by cases n <;> simp [D.pl] at h
  | .town, _, n, _, h, _ => by cases n <;> simp [D.pl] at h
  | .scr _, _, n, _, h, _ => by cases n <;> simp [D.pl] at h
  | .ndc _ _, _, n, _, h, _ => by cases n <;> simp [D.pl] at h
theorem D.eqvPL : ∀ (ds es : List D) (n m : Nat), (∀ x ∈ ds, x.pl n = true) → (∀ x ∈ es, x.pl m = true) → PyData.eqvAll (D.toPL ds) (D.toPL es) = D.eqvL ds es
  | [], es, _, _, _, _ => by cases es <;> rfl
  | d :: ds, [], _, _, _, _ => rfl
  | d :: ds, e :: es, n, m, h1, h2 => by
    show (PyData.eqv d.toP e.toP && PyData.eqvAll (D.toPL ds) (D.toPL es)) = (D.eqv d e && D.eqvL ds es)
    rw [D.eqvP d e n m (h1 d List.mem_cons_self) (h2 e List.mem_cons_self), D.eqvPL ds es n m (fun x hx => h1 x (List.mem_cons_of_mem _ hx)) fun x hx => h2 x (List.mem_cons_of_mem _ hx)]
end
section
variable {Z : Gd} {Sh H : Hp}
mutual
theorem Rep.dp (sub : Same Sh H) : ∀ {d : D} {v : V} (n : Nat), Rep Z Sh d v → d.pl n = true → Dp Z.K H v d.toP
  | _, _, _, .non, _ => .non
  | _, _, _, .bl b, _ => .bl b
  | _, _, _, .int b, _ => .int b
  | _, _, _, .str b, _ => .str b
  | _, _, n, .tup x y, h => by
    obtain ⟨m, rfl, hx⟩ := D.plT h
    exact .tup (seqT sub x) (RepL.dp sub m y hx)
  | _, _, n, .lst x y, h => by
    obtain ⟨m, rfl, hx⟩ := D.plL h
    exact .lst (SqL.of (sub _ _ x)) (RepL.dp sub m y hx)
  | _, _, n, .dct x y, h => by cases n <;> simp [D.pl] at h
  | _, _, n, .fn f, h => by cases n <;> simp [D.pl] at h
  | _, _, n, .exc c x, h => by cases n <;> simp [D.pl] at h
  | _, _, n, .town x, h => by cases n <;> simp [D.pl] at h
  | _, _, n, .scr x, h => by cases n <;> simp [D.pl] at h
  | _, _, n, .ndc x y z, h => by cases n <;> simp [D.pl] at h
theorem RepL.dp (sub : Same Sh H) : ∀ {ds : List D} {vs : List V} (n : Nat), RepL Z Sh ds vs → (∀ x ∈ ds, x.pl n = true) → DpAll Z.K H vs (D.toPL ds)
  | _, _, _, .nil, _ => .nil
  | _, _, n, .cons x y, h => .cons (Rep.dp sub n x (h _ List.mem_cons_self)) (RepL.dp sub n y fun z hz => h z (List.mem_cons_of_mem _ hz))
end
end

section
variable {Z : Gd} {W : WX} {H0 : Ent} {X : Cx} {pos : Pos} {a b c : Expr} {ea eb ec : G → S → EV D}

/-! ### comparisons -/
/-- a rule that answers by a truth value -/
abbrev RDb (Z : Gd) (W : WX) (r : R2) (f : D → D → Option Bool) : Prop := RD Z W r fun x y => (f x y).map D.bl
theorem rdb {r : R2} {f : D → D → Option Bool} (h : ∀ (x y : V) (d1 d2 : D) (H Sh : Hp) (Q : VK) (k : Bool), Same Sh H → Rep Z Sh d1 x → Rep Z Sh d2 y → f d1 d2 = some k → Q (.bl k) H → r x y H Q) : RDb Z W r f :=
  fun x y d1 d2 σ H Sh s Q sub t r1 r2 h0 => by
    obtain ⟨d, e, h1⟩ := h0.rp
    obtain ⟨k, e2, e3⟩ := Option.map_eq_some_iff.mp e
    subst e3
    exact h x y d1 d2 H Sh Q k sub r1 r2 e2 (h1.here sub t (.bl _))
theorem RepK.dpk {Sh H : Hp} (sub : Same Sh H) : ∀ {ds : List (Key × D)} {vs : List (Key × V)}, RepK Z Sh ds vs → valsPl ds = true → DpK Z.K H vs (ds.map fun kv => (kv.1, kv.2.toP))
  | _, _, .nil, _ => Paired.nil
  | _, _, .cons x y, h => by
    unfold valsPl at h
    rw [List.all_cons, Bool.and_eq_true] at h
    exact Paired.cons ⟨rfl, x.dp sub 7 h.1, D.shaped h.1 (by decide)⟩ (RepK.dpk sub y h.2)
theorem RepK.len {h : Hp} : ∀ {ds : List (Key × D)} {vs : List (Key × V)}, RepK Z h ds vs → ds.length = vs.length
  | _, _, .nil => rfl
  | _, _, .cons _ y => congrArg (· + 1) y.len
theorem getP_map {ds : List (Key × D)} {k : Key} : getP (ds.map fun kv => (kv.1, kv.2.toP)) k = (getK ds k).map D.toP := by
  induction ds with
  | nil => rfl
  | cons p ds ih =>
    unfold getP getK at ih ⊢
    rw [List.map_cons, List.find?_cons, List.find?_cons]
    cases q : decide (p.1 = k) with
    | true => rfl
    | false => exact ih
theorem getK_mem {ds : List (Key × D)} {k : Key} {d : D} (h : getK ds k = some d) : (k, d) ∈ ds := by
  unfold getK at h
  obtain ⟨p, hp, rfl⟩ := Option.map_eq_some_iff.mp h
  have := List.find?_some hp
  rw [decide_eq_true_eq] at this
  subst this
  exact List.mem_of_find?_eq_some hp
theorem hitB_eq {es : List (Key × D)} (he : valsPl es = true) : ∀ {ds : List (Key × D)}, valsPl ds = true → hitB (ds.map fun kv => (kv.1, kv.2.toP)) (es.map fun kv => (kv.1, kv.2.toP)) = D.eqvK ds es
  | [], _ => rfl
  | (k, d) :: ds, h => by
    unfold valsPl at h
    rw [List.all_cons, Bool.and_eq_true] at h
    have ih := hitB_eq he h.2
    unfold hitB at ih ⊢
    rw [List.map_cons, List.all_cons, ih, D.eqvK]
    dsimp only
    rw [getP_map]
    cases q : getK es k with
    | none => rfl
    | some e =>
      have pe : e.pl 7 = true := List.all_eq_true.mp he (k, e) (getK_mem q)
      show (PyData.eqv d.toP e.toP && _) = _
      rw [D.eqvP d e 7 7 h.1 pe]
theorem eqDct_eq {d1 d2 : D} {k : Bool} (h : eqDct d1 d2 = some k) : ∃ xs ys, d1 = .dct xs ∧ d2 = .dct ys ∧ valsPl xs = true ∧ valsPl ys = true ∧ k = (xs.length == ys.length && D.eqvK xs ys) := by
  unfold eqDct at h
  split at h
  · split at h
    · rename_i q
      rw [Bool.and_eq_true] at q
      cases h
      exact ⟨_, _, rfl, rfl, q.1, q.2, rfl⟩
    · cases h
  · cases h
/-- nested data that are alike stand alike in the heap -/
theorem eqvL_pair {n : Nat} {Sh H : Hp} (ih : ∀ {d e : D} {v u : V}, Rep Z Sh d v → Rep Z Sh e u → d.qd n = true → e.qd n = true → D.eqv d e = true → SmV Z.K H n v u) : ∀ {ds es : List D} {vs us : List V}, RepL Z Sh ds vs → RepL Z Sh es us → (∀ x ∈ ds, x.qd n = true) → (∀ x ∈ es, x.qd n = true) → D.eqvL ds es = true → Paired (SmV Z.K H n) vs us
  | _, _, _, _, .nil, .nil, _, _, _ => .nil
  | _, _, _, _, .nil, .cons _ _, _, _, h => by simp [D.eqvL] at h
  | _, _, _, _, .cons _ _, .nil, _, _, h => by simp [D.eqvL] at h
  | _, _, _, _, .cons x xs, .cons y ys, h1, h2, h => by
    rw [D.eqvL, Bool.and_eq_true] at h
    exact .cons (ih x y (h1 _ List.mem_cons_self) (h2 _ List.mem_cons_self) h.1) (eqvL_pair ih xs ys (fun z hz => h1 z (List.mem_cons_of_mem _ hz)) (fun z hz => h2 z (List.mem_cons_of_mem _ hz)) h.2)
theorem RepK.find {h : Hp} {k : Key} : ∀ {ds : List (Key × D)} {vs : List (Key × V)}, RepK Z h ds vs → ∀ {d : D}, getK ds k = some d → ∃ v, valV vs k = some v ∧ Rep Z h d v
  | _, _, .nil, _, e => by cases e
  | _, _, .cons (k := k') x xs, d, e => by
    unfold getK at e
    rw [List.find?_cons] at e
    by_cases q : k' = k
    · rw [decide_eq_true q] at e
      cases e
      exact ⟨_, valV_pos q, x⟩
    · rw [decide_eq_false q] at e
      obtain ⟨v, e1, r⟩ := RepK.find xs (k := k) (d := d) e
      exact ⟨v, by rw [valV_neg q]; exact e1, r⟩
theorem eqvK_hits {n : Nat} {Sh H : Hp} (ih : ∀ {d e : D} {v u : V}, Rep Z Sh d v → Rep Z Sh e u → d.qd n = true → e.qd n = true → D.eqv d e = true → SmV Z.K H n v u) {es : List (Key × D)} {us : List (Key × V)} (re : RepK Z Sh es us) (he : ∀ x ∈ es, x.2.qd n = true) : ∀ {ds : List (Key × D)} {vs : List (Key × V)}, RepK Z Sh ds vs → (∀ x ∈ ds, x.2.qd n = true) → D.eqvK ds es = true → ∀ p ∈ vs, ∃ u, valV us p.1 = some u ∧ SmV Z.K H n p.2 u
  | _, _, .nil, _, _ => fun p hp => nomatch hp
  | _, _, .cons (k := k) (d := d) x xs, h1, h => fun p hp => by
    rw [D.eqvK, Bool.and_eq_true] at h
    rcases List.mem_cons.mp hp with z | z
    · subst z
      cases q : getK es k with
      | none =>
        rw [q] at h
        cases h.1
      | some e =>
        rw [q] at h
        obtain ⟨u, e1, r⟩ := re.find q
        exact ⟨u, e1, ih x r (h1 _ List.mem_cons_self) (he (k, e) (getK_mem q)) h.1⟩
    · exact eqvK_hits ih re he xs (fun y hy => h1 y (List.mem_cons_of_mem _ hy)) h.2 p z
theorem scal_leaf {n : Nat} {Sh H : Hp} (sub : Same Sh H) {d e : D} {v u : V} (r1 : Rep Z Sh d v) (r2 : Rep Z Sh e u) (h1 : d.pl 0 = true) (h2 : e.pl 0 = true) (h : D.eqv d e = true) : SmV Z.K H n v u := by
  have lf : LeafV Z.K H v u := ⟨_, _, r1.dp sub 0 h1, r2.dp sub 0 h2, D.shaped h1 (by decide), D.shaped h2 (by decide), by rw [D.eqvP d e 0 0 h1 h2]; exact h⟩
  cases n with
  | zero => exact lf
  | succ n => exact .inl lf
theorem qd_pl : ∀ {n : Nat} {d : D}, d.qd n = true → d.pl 0 = true ∨ (∃ m, n = m + 1 ∧ ((∃ xs, d = .tup xs ∧ ∀ x ∈ xs, x.qd m = true) ∨ (∃ xs, d = .lst xs ∧ ∀ x ∈ xs, x.qd m = true) ∨ ∃ ks, d = .dct ks ∧ ∀ x ∈ ks, x.2.qd m = true))
  | n, .non, _ => .inl rfl
  | n, .bl _, _ => .inl rfl
  | n, .int _, _ => .inl rfl
  | n, .str x, h => .inl (by cases n <;> exact h)
  | 0, .tup _, h => by cases h
  | 0, .lst _, h => by cases h
  | 0, .dct _, h => by cases h
  | n + 1, .tup xs, h => .inr ⟨n, rfl, .inl ⟨xs, rfl, by simpa [D.qd] using h⟩⟩
  | n + 1, .lst xs, h => .inr ⟨n, rfl, .inr (.inl ⟨xs, rfl, by simpa [D.qd] using h⟩)⟩
  | n + 1, .dct ks, h => .inr ⟨n, rfl, .inr (.inr ⟨ks, rfl, fun x hx => by
    simp only [D.qd] at h
    exact List.all_eq_true.mp h x hx⟩)⟩
  | 0, .exc _, h => by cases h
  | 0, .fn _, h => by cases h
  | 0, .town, h => by cases h
  | 0, .scr _, h => by cases h
  | 0, .ndc _ _, h => by cases h
  | n + 1, .exc _, h => by cases h
  | n + 1, .fn _, h => by cases h
  | n + 1, .town, h => by cases h
  | n + 1, .scr _, h => by cases h
  | n + 1, .ndc _ _, h => by cases h
theorem qd_same {Sh H : Hp} (sub : Same Sh H) : ∀ {n : Nat} {d e : D} {v u : V}, Rep Z Sh d v → Rep Z Sh e u → d.qd n = true → e.qd n = true → D.eqv d e = true → SmV Z.K H n v u
  | 0, d, e, v, u, r1, r2, h1, h2, h => by
    rcases qd_pl h1 with p1 | ⟨m, z, _⟩
    · rcases qd_pl h2 with p2 | ⟨m, z, _⟩
      · exact scal_leaf sub r1 r2 p1 p2 h
      · cases z
    · cases z
  | n + 1, d, e, v, u, r1, r2, h1, h2, h => by
    have no : ∀ {P : Prop}, D.eqv d e = true → (d.pl 0 = true → (∃ xs, e = .tup xs) ∨ (∃ xs, e = .lst xs) ∨ (∃ xs, e = .dct xs) → P) := fun hq p z => by
      exfalso
      rcases z with ⟨xs, rfl⟩ | ⟨xs, rfl⟩ | ⟨xs, rfl⟩ <;> cases d <;> first | (cases p; done) | (simp [D.eqv] at hq; done)
    have no2 : ∀ {P : Prop}, D.eqv d e = true → (e.pl 0 = true → (∃ xs, d = .tup xs) ∨ (∃ xs, d = .lst xs) ∨ (∃ xs, d = .dct xs) → P) := fun hq p z => by
      exfalso
      rcases z with ⟨xs, rfl⟩ | ⟨xs, rfl⟩ | ⟨xs, rfl⟩ <;> cases e <;> first | (cases p; done) | (simp [D.eqv] at hq; done)
    rcases qd_pl h1 with p1 | ⟨m, z1, q1⟩
    · rcases qd_pl h2 with p2 | ⟨m, z1, q2⟩
      · exact scal_leaf sub r1 r2 p1 p2 h
      · refine no h p1 ?_
        rcases q2 with ⟨xs, e, _⟩ | ⟨xs, e, _⟩ | ⟨xs, e, _⟩
        · exact .inl ⟨_, e⟩
        · exact .inr (.inl ⟨_, e⟩)
        · exact .inr (.inr ⟨_, e⟩)
    · rcases qd_pl h2 with p2 | ⟨m2, z2, q2⟩
      · refine no2 h p2 ?_
        rcases q1 with ⟨xs, e, _⟩ | ⟨xs, e, _⟩ | ⟨xs, e, _⟩
        · exact .inl ⟨_, e⟩
        · exact .inr (.inl ⟨_, e⟩)
        · exact .inr (.inr ⟨_, e⟩)
      · obtain rfl : n = m := Nat.succ.inj z1
        obtain rfl : n = m2 := Nat.succ.inj z2
        refine .inr ?_
        rcases q1 with ⟨xs, rfl, a1⟩ | ⟨xs, rfl, a1⟩ | ⟨xs, rfl, a1⟩ <;> rcases q2 with ⟨ys, rfl, a2⟩ | ⟨ys, rfl, a2⟩ | ⟨ys, rfl, a2⟩ <;> first | (simp [D.eqv] at h; done) | skip
        · cases r1 with
          | tup x1 y1 =>
            cases r2 with
            | tup x2 y2 => exact ⟨_, _, rfl, rfl, .inr (.inl ⟨_, _, seqT sub x1, seqT sub x2, eqvL_pair (qd_same sub) y1 y2 a1 a2 h⟩)⟩
        · cases r1 with
          | lst x1 y1 =>
            cases r2 with
            | lst x2 y2 => exact ⟨_, _, rfl, rfl, .inl ⟨_, _, SqL.of (sub _ _ x1), SqL.of (sub _ _ x2), eqvL_pair (qd_same sub) y1 y2 a1 a2 h⟩⟩
        · cases r1 with
          | dct x1 y1 =>
            cases r2 with
            | dct x2 y2 =>
              rw [D.eqv] at h
              simp only [Bool.and_eq_true, beq_iff_eq] at h
              exact ⟨_, _, rfl, rfl, .inr (.inr ⟨_, _, .inr ⟨_, sub _ _ x1⟩, .inr ⟨_, sub _ _ x2⟩, by rw [← y1.len, ← y2.len]; exact h.1, eqvK_hits (qd_same sub) y2 a2 y1 a1 h.2⟩)⟩
theorem eqSame_r {Sh H : Hp} (sub : Same Sh H) {d1 d2 : D} {x y : V} {n : Bool} {Q : VK} (r1 : Rep Z Sh d1 x) (r2 : Rep Z Sh d2 y) (h : eqSame d1 d2 = true) (q : Q (.bl (!n)) H) : rSame Z.K n x y H Q := by
  unfold eqSame at h
  split at h
  · rw [Bool.and_eq_true, Bool.and_eq_true] at h
    cases r1 with
    | lst x1 y1 =>
      cases r2 with
      | lst x2 y2 => exact ⟨_, _, rfl, rfl, .inl ⟨_, _, SqL.of (sub _ _ x1), SqL.of (sub _ _ x2), eqvL_pair (qd_same sub) y1 y2 (List.all_eq_true.mp h.1.1) (List.all_eq_true.mp h.1.2) h.2⟩, q⟩
  · rw [Bool.and_eq_true, Bool.and_eq_true] at h
    cases r1 with
    | tup x1 y1 =>
      cases r2 with
      | tup x2 y2 => exact ⟨_, _, rfl, rfl, .inr ⟨_, _, seqT sub x1, seqT sub x2, eqvL_pair (qd_same sub) y1 y2 (List.all_eq_true.mp h.1.1) (List.all_eq_true.mp h.1.2) h.2⟩, q⟩
  · cases h
theorem rd_eq : RDb Z W (fun x y H Q => rEqD Z.K x y H Q ∨ rEqK Z.K false x y H Q ∨ rSame Z.K false x y H Q) (cmpD .eq) := rdb fun x y d1 d2 H Sh Q k sub r1 r2 e q => by
  change (if d1.pl 8 && d2.pl 8 then some (D.eqv d1 d2) else if eqSame d1 d2 then some true else eqDct d1 d2) = some k at e
  split at e
  · rename_i hp
    rw [Bool.and_eq_true] at hp
    cases e
    refine .inl ⟨_, _, r1.dp sub 8 hp.1, r2.dp sub 8 hp.2, D.shaped hp.1 (by decide), D.shaped hp.2 (by decide), ?_⟩
    rw [D.eqvP d1 d2 8 8 hp.1 hp.2]
    exact q
  · split at e
    · rename_i hs
      cases e
      exact .inr (.inr (eqSame_r sub r1 r2 hs q))
    · obtain ⟨xs, ys, rfl, rfl, h1, h2, rfl⟩ := eqDct_eq e
      cases r1 with
      | dct x1 y1 =>
        cases r2 with
        | dct x2 y2 =>
          refine .inr (.inl ⟨_, _, _, _, _, _, rfl, rfl, .inr ⟨_, sub _ _ x1⟩, .inr ⟨_, sub _ _ x2⟩, y1.dpk sub h1, y2.dpk sub h2, ?_⟩)
          rw [hitB_eq h2 h1, ← y1.len, ← y2.len]
          exact q
theorem rd_ne : RDb Z W (fun x y H Q => rNeD Z.K x y H Q ∨ rEqK Z.K true x y H Q ∨ rSame Z.K true x y H Q) (cmpD .ne) := rdb fun x y d1 d2 H Sh Q k sub r1 r2 e q => by
  change (if d1.pl 8 && d2.pl 8 then some (!D.eqv d1 d2) else if eqSame d1 d2 then some false else (eqDct d1 d2).map (!·)) = some k at e
  split at e
  · rename_i hp
    rw [Bool.and_eq_true] at hp
    cases e
    refine .inl ⟨_, _, r1.dp sub 8 hp.1, r2.dp sub 8 hp.2, D.shaped hp.1 (by decide), D.shaped hp.2 (by decide), ?_⟩
    rw [D.eqvP d1 d2 8 8 hp.1 hp.2]
    exact q
  · split at e
    · rename_i hs
      cases e
      exact .inr (.inr (eqSame_r sub r1 r2 hs q))
    · obtain ⟨k', e5, rfl⟩ := Option.map_eq_some_iff.mp e
      obtain ⟨xs, ys, rfl, rfl, h1, h2, rfl⟩ := eqDct_eq e5
      cases r1 with
      | dct x1 y1 =>
        cases r2 with
        | dct x2 y2 =>
          refine .inr (.inl ⟨_, _, _, _, _, _, rfl, rfl, .inr ⟨_, sub _ _ x1⟩, .inr ⟨_, sub _ _ x2⟩, y1.dpk sub h1, y2.dpk sub h2, ?_⟩)
          rw [hitB_eq h2 h1, ← y1.len, ← y2.len]
          exact q
theorem intsO_eq : ∀ {ds : List D} {ms : List Int}, intsO ds = some ms → ds = ms.map D.int
  | [], _, h => by
    cases h
    rfl
  | .int i :: r, _, h => by
    obtain ⟨ms, e, rfl⟩ := Option.map_eq_some_iff.mp (show (intsO r).map _ = some _ from h)
    rw [intsO_eq e]
    rfl
  | .non :: _, _, h => by cases h
  | .bl _ :: _, _, h => by cases h
  | .str _ :: _, _, h => by cases h
  | .tup _ :: _, _, h => by cases h
  | .lst _ :: _, _, h => by cases h
  | .dct _ :: _, _, h => by cases h
  | .exc _ :: _, _, h => by cases h
  | .fn _ :: _, _, h => by cases h
  | .town :: _, _, h => by cases h
  | .scr _ :: _, _, h => by cases h
/-- two ints, or two keys -/
theorem ltD_cases {d1 d2 : D} {k : Bool} (h : ltD d1 d2 = some k) : (∃ i j, d1 = .int i ∧ d2 = .int j ∧ k = decide (i < j)) ∨
    ∃ (a b c d : Int) (ms ns : List Int), d1 = .tup [.int a, .int b, .lst (ms.map D.int)] ∧ d2 = .tup [.int c, .int d, .lst (ns.map D.int)] ∧ k = (decide (a < c) || (a == c && (decide (b < d) || (b == d && lexK ms ns)))) := by
  unfold ltD at h
  split at h
  · cases h
    exact .inl ⟨_, _, rfl, rfl, rfl⟩
  · obtain ⟨ms, e1, h⟩ := Option.bind_eq_some_iff.mp h
    obtain ⟨ns, e2, rfl⟩ := Option.map_eq_some_iff.mp h
    cases intsO_eq e1
    cases intsO_eq e2
    exact .inr ⟨_, _, _, _, ms, ns, rfl, rfl, rfl⟩
  · cases h
theorem toPL_ints : ∀ ms : List Int, D.toPL (ms.map D.int) = ms.map PyData.int
  | [] => rfl
  | m :: ms => by
    rw [List.map_cons, D.toPL, toPL_ints ms]
    rfl
theorem pl_key (a b : Int) (ms : List Int) : (D.tup [.int a, .int b, .lst (ms.map D.int)]).pl 8 = true := by
  simp [D.pl]
theorem toP_key (a b : Int) (ms : List Int) : (D.tup [.int a, .int b, .lst (ms.map D.int)]).toP = .tuple [.int a, .int b, .list (ms.map .int)] := by
  show PyData.tuple [.int a, .int b, .list (D.toPL (ms.map D.int))] = _
  rw [toPL_ints]
theorem rd_ltT : RDb Z W (fun x y H Q => rI0 (fun i j => .bl (decide (i < j))) x y H Q ∨ rLtD Z.K x y H Q) (cmpD .lt) := rdb fun x y d1 d2 H Sh Q k sub r1 r2 e q => by
  rcases ltD_cases e with ⟨i, j, rfl, rfl, rfl⟩ | ⟨a, b, c, d, ms, ns, rfl, rfl, rfl⟩
  · cases r1
    cases r2
    exact .inl ⟨i, j, rfl, rfl, q⟩
  · have p1 := r1.dp sub 8 (pl_key _ _ _)
    have p2 := r2.dp sub 8 (pl_key _ _ _)
    have hz := (D.lay _ 8 (pl_key a b ms)).2
    rw [toP_key] at p1 p2 hz
    refine .inr ⟨_, _, p1, p2, ?_, by simp, hz, ?_⟩
    · simp [PySem.W.alike, PySem.W.alikeAll, alike_ints]
    · rw [key_lt]
      exact q
theorem leD_int {d1 d2 : D} {k : Bool} (h : leD d1 d2 = some k) : (∃ i j, d1 = .int i ∧ d2 = .int j ∧ k = decide (i ≤ j)) ∨ ∃ x y, d1 = .str x ∧ d2 = .str y ∧ k = !decide (tlS y < tlS x) := by
  unfold leD at h
  split at h
  · cases h
    exact .inl ⟨_, _, rfl, rfl, rfl⟩
  · cases h
    exact .inr ⟨_, _, rfl, rfl, rfl⟩
  · cases h
abbrev rLeS : R2 := fun x y H Q => ∃ i j, x = .str i ∧ y = .str j ∧ Q (.bl (!decide (j.cps.toList < i.cps.toList))) H
abbrev rGeS : R2 := fun x y H Q => ∃ i j, x = .str i ∧ y = .str j ∧ Q (.bl (!decide (i.cps.toList < j.cps.toList))) H
theorem rd_le : RDb Z W (fun x y H Q => rI0 (fun i j => .bl (decide (i ≤ j))) x y H Q ∨ rLeS x y H Q) (cmpD .le) := rdb fun x y d1 d2 H Sh Q k sub r1 r2 e q => by
  rcases leD_int e with ⟨i, j, rfl, rfl, rfl⟩ | ⟨i, j, rfl, rfl, rfl⟩
  · cases r1
    cases r2
    exact .inl ⟨i, j, rfl, rfl, q⟩
  · cases r1
    cases r2
    exact .inr ⟨i, j, rfl, rfl, q⟩
theorem rd_gt : RDb Z W (rI0 fun i j => .bl (decide (j < i))) (cmpD .gt) := rdb fun x y d1 d2 H Sh Q k sub r1 r2 e q => by
  change gtD d1 d2 = some k at e
  unfold gtD at e
  split at e
  · cases e
    cases r1
    cases r2
    exact ⟨_, _, rfl, rfl, q⟩
  · cases e
theorem rd_ge : RDb Z W (fun x y H Q => rI0 (fun i j => .bl (decide (j ≤ i))) x y H Q ∨ rGeS x y H Q) (cmpD .ge) := rdb fun x y d1 d2 H Sh Q k sub r1 r2 e q => by
  rcases leD_int e with ⟨i, j, rfl, rfl, rfl⟩ | ⟨i, j, rfl, rfl, rfl⟩
  · cases r1
    cases r2
    exact .inl ⟨j, i, rfl, rfl, q⟩
  · cases r1
    cases r2
    exact .inr ⟨j, i, rfl, rfl, q⟩
theorem Rep.nonIff {Sh : Hp} {d : D} {x : V} (r : Rep Z Sh d x) : decide (x = .non) = isNonD d := by
  cases r <;> simp [isNonD]
theorem blD_eq {d : D} {b : Bool} (h : blD d = some b) : d = .bl b := by
  cases d <;> cases h
  rfl
theorem rd_isN : RDb Z W (fun x y H Q => (y = .non ∧ Q (.bl (decide (x = .non))) H) ∨ rIsB x y H Q) (cmpD .is_) := rdb fun x y d1 d2 H Sh Q k sub r1 r2 e q => by
  cases d2 with
  | non =>
    have e1 : isNonD d1 = k := Option.some.inj e
    cases r2
    refine .inl ⟨rfl, ?_⟩
    rw [r1.nonIff, e1]
    exact q
  | bl b =>
    obtain ⟨a, e1, rfl⟩ := Option.map_eq_some_iff.mp (show (blD d1).map _ = some k from e)
    cases blD_eq e1
    cases r1
    cases r2
    exact .inr ⟨a, b, rfl, rfl, q⟩
  | _ => cases e
theorem rd_notN : RDb Z W (fun x y H Q => (y = .non ∧ Q (.bl (!decide (x = .non))) H) ∨ rNotB x y H Q) (cmpD .isn) := rdb fun x y d1 d2 H Sh Q k sub r1 r2 e q => by
  cases d2 with
  | non =>
    have e1 : (!isNonD d1) = k := Option.some.inj e
    cases r2
    refine .inl ⟨rfl, ?_⟩
    rw [r1.nonIff, e1]
    exact q
  | bl b =>
    obtain ⟨a, e1, rfl⟩ := Option.map_eq_some_iff.mp (show (blD d1).map _ = some k from e)
    cases blD_eq e1
    cases r1
    cases r2
    exact .inr ⟨a, b, rfl, rfl, q⟩
  | _ => cases e
theorem Rep.flat {Sh : Hp} {d : D} {x : V} (r : Rep Z Sh d x) (h : flatD d = true) : flatV x = true := by
  cases r <;> first | rfl | cases h
theorem Rep.eqF {Sh : Hp} {d e : D} {x y : V} (r : Rep Z Sh d x) (q : Rep Z Sh e y) (h : flatD d = true) (h2 : flatD e = true) : eqV x y = D.eqv d e := by
  cases r <;> first | (cases h; done) | (cases q <;> first | rfl | cases h2)
theorem RepL.flat {Sh : Hp} : ∀ {ds : List D} {vs : List V}, RepL Z Sh ds vs → ds.all flatD = true → vs.all flatV = true
  | _, _, .nil, _ => rfl
  | _, _, .cons x y, h => by
    rw [List.all_cons, Bool.and_eq_true] at h ⊢
    exact ⟨x.flat h.1, y.flat h.2⟩
theorem RepL.inF {Sh : Hp} {d : D} {x : V} (r : Rep Z Sh d x) (hd : flatD d = true) : ∀ {ds : List D} {vs : List V}, RepL Z Sh ds vs → ds.all flatD = true → inV x vs = ds.any fun y => D.eqv y d
  | _, _, .nil, _ => rfl
  | _, _, .cons u w, h => by
    rw [List.all_cons, Bool.and_eq_true] at h
    have ih := RepL.inF r hd w h.2
    unfold inV at ih ⊢
    rw [List.any_cons, List.any_cons, u.eqF r h.1 hd, ih]
theorem any_toP {d : D} (hd : d.pl 8 = true) : ∀ ys : List D, (∀ y ∈ ys, y.pl 8 = true) → ((D.toPL ys).any fun z => PyData.eqv z d.toP) = ys.any fun y => D.eqv y d
  | [], _ => rfl
  | y :: ys, h => by
    rw [D.toPL, List.any_cons, List.any_cons, any_toP hd ys fun z hz => h z (List.mem_cons_of_mem _ hz), D.eqvP y d 8 8 (h y List.mem_cons_self) hd]
theorem plLst {ys : List D} (h : ys.all (D.pl 8) = true) : (D.lst ys).pl 9 = true := by
  show ys.all (D.pl 8) = true
  exact h
theorem inD_cases {x y : D} {k : Bool} (h : inD x y = some k) : (∃ ys, y = .lst ys ∧ x.pl 8 = true ∧ ys.all (D.pl 8) = true ∧ k = ys.any fun y => D.eqv y x) ∨ (∃ ys, y = .tup ys ∧ flatD x = true ∧ ys.all flatD = true ∧ k = ys.any fun y => D.eqv y x) ∨
    (∃ kvs kk, y = .dct kvs ∧ keyD x = some kk ∧ k = (getK kvs kk).isSome) ∨ ∃ z c, y = .str z ∧ x = .str ⟨#[c]⟩ ∧ k = decide (c ∈ z.cps.toList) := by
  unfold inD at h
  split at h
  · split at h
    · rename_i hp
      rw [Bool.and_eq_true] at hp
      cases h
      exact .inl ⟨_, rfl, hp.1, hp.2, rfl⟩
    · cases h
  · split at h
    · rename_i hp
      rw [Bool.and_eq_true] at hp
      cases h
      exact .inr (.inl ⟨_, rfl, hp.1, hp.2, rfl⟩)
    · cases h
  · obtain ⟨kk, e1, rfl⟩ := Option.map_eq_some_iff.mp h
    exact .inr (.inr (.inl ⟨_, kk, rfl, e1, rfl⟩))
  · split at h
    · rename_i c
      split at h
      · rename_i k' e
        cases h
        refine .inr (.inr (.inr ⟨_, k', rfl, ?_, rfl⟩))
        obtain ⟨⟨l⟩⟩ := c
        have : l = [k'] := e
        rw [this]
      · cases h
    · cases h
  · cases h
theorem RepK.val {h : Hp} : ∀ {ds : List (Key × D)} {vs : List (Key × V)}, RepK Z h ds vs → ∀ k : Key, (getK ds k = none ∧ valV vs k = none) ∨ ∃ d v, getK ds k = some d ∧ valV vs k = some v ∧ Rep Z h d v
  | _, _, .nil, k => .inl ⟨rfl, rfl⟩
  | _, _, .cons (k := j) x y, k => by
    by_cases q : j = k
    · refine .inr ⟨_, _, ?_, valV_pos q, x⟩
      unfold getK
      rw [List.find?_cons, decide_eq_true q]
      rfl
    · rw [valV_neg q]
      have e2 : ∀ d ds, getK ((j, d) :: ds) k = getK ds k := fun d ds => by
        unfold getK
        rw [List.find?_cons, decide_eq_false q]
      rw [e2]
      exact RepK.val y k
theorem RepK.valS {h : Hp} {ds : List (Key × D)} {vs : List (Key × V)} (r : RepK Z h ds vs) (k : Key) : (valV vs k).isSome = (getK ds k).isSome := by
  rcases r.val k with ⟨a, b⟩ | ⟨d, v, a, b, _⟩
  · rw [a, b]
    rfl
  · rw [a, b]
    rfl
theorem Rep.key {h : Hp} {d : D} {v : V} {k : Key} (r : Rep Z h d v) (e : keyD d = some k) : v = kV k := by
  cases r with
  | int i => cases e; rfl
  | str x => cases e; rfl
  | _ => cases e
theorem rd_in : RDb Z W (fun x y H Q => rInD Z.K x y H Q ∨ (rIn Z.K false x y H Q ∨ (rInK false x y H Q ∨ ∃ (c : Nat) (z : Str), x = .str ⟨#[c]⟩ ∧ y = .str z ∧ Q (.bl (decide (c ∈ z.cps.toList))) H))) (cmpD .isin) := rdb fun x y d1 d2 H Sh Q k sub r1 r2 e q => by
  rcases inD_cases e with ⟨ys, rfl, h1, h2, rfl⟩ | ⟨ys, rfl, h1, h2, rfl⟩ | ⟨kvs, kk, rfl, h1, rfl⟩ | ⟨z, c, rfl, rfl, rfl⟩
  · refine .inl ⟨_, _, r1.dp sub 8 h1, r2.dp sub 9 (plLst h2), D.shaped h1 (by decide), D.shaped (plLst h2) (by decide), ?_⟩
    rw [any_toP h1 ys (by simpa using h2)]
    exact q
  · cases r2 with
    | tup x2 y2 =>
      refine .inr (.inl ⟨_, _, rfl, .inr (seqT sub x2), r1.flat h1, y2.flat h2, ?_⟩)
      rw [if_neg Bool.false_ne_true, RepL.inF r1 h1 y2 h2]
      exact q
  · cases r2 with
    | dct x2 y2 =>
      refine .inr (.inr (.inl ⟨_, _, rfl, .inl ⟨_, kk, .inr ⟨_, sub _ _ x2⟩, r1.key h1, rfl⟩, ?_⟩))
      rw [if_neg Bool.false_ne_true, y2.valS]
      exact q
  · cases r1
    cases r2
    exact .inr (.inr (.inr ⟨c, z, rfl, rfl, q⟩))
theorem rd_nin : RDb Z W (fun x y H Q => rNotInD Z.K x y H Q ∨ (rIn Z.K true x y H Q ∨ (rInK true x y H Q ∨ ∃ (c : Nat) (z : Str), x = .str ⟨#[c]⟩ ∧ y = .str z ∧ Q (.bl (!decide (c ∈ z.cps.toList))) H))) (cmpD .nin) := rdb fun x y d1 d2 H Sh Q k sub r1 r2 e q => by
  obtain ⟨k', e1, rfl⟩ := Option.map_eq_some_iff.mp (show (inD d1 d2).map (!·) = some k from e)
  rcases inD_cases e1 with ⟨ys, rfl, h1, h2, rfl⟩ | ⟨ys, rfl, h1, h2, rfl⟩ | ⟨kvs, kk, rfl, h1, rfl⟩ | ⟨z, c, rfl, rfl, rfl⟩
  · refine .inl ⟨_, _, r1.dp sub 8 h1, r2.dp sub 9 (plLst h2), D.shaped h1 (by decide), D.shaped (plLst h2) (by decide), ?_⟩
    rw [any_toP h1 ys (by simpa using h2)]
    exact q
  · cases r2 with
    | tup x2 y2 =>
      refine .inr (.inl ⟨_, _, rfl, .inr (seqT sub x2), r1.flat h1, y2.flat h2, ?_⟩)
      rw [if_pos rfl, RepL.inF r1 h1 y2 h2]
      exact q
  · cases r2 with
    | dct x2 y2 =>
      refine .inr (.inr (.inl ⟨_, _, rfl, .inl ⟨_, kk, .inr ⟨_, sub _ _ x2⟩, r1.key h1, rfl⟩, ?_⟩))
      rw [if_pos rfl, y2.valS]
      exact q
  · cases r1
    cases r2
    exact .inr (.inr (.inr ⟨c, z, rfl, rfl, q⟩))
end

/-- the operator's own rule -/
def cmO : Cm → CmpOp
  | .eq => .Eq | .ne => .NotEq | .lt => .Lt | .le => .LtE | .gt => .Gt | .ge => .GtE | .isin => .In | .nin => .NotIn | .is_ => .Is | .isn => .IsNot
section
variable {Z : Gd} {W : WX} {H0 : Ent} {X : Cx} {pos : Pos} {a b c : Expr} {ea eb ec : G → S → EV D}
theorem cm_rule (hk : X.K = Z.K) (hu : X.A.units + 75 < cLine) (o : Cm) : ∃ r, OpR X (compareOp (cmO o)) r ∧ RDb Z W r (cmpD o) := by
  have hu4 : X.A.units + 64 < cLine := by omega
  cases o with
  | eq => exact ⟨_, (op_eqD hu4).or ((op_eqK (by omega)).or (op_same (by omega))), by rw [hk]; exact rd_eq⟩
  | ne => exact ⟨_, (op_neD hu4).or ((op_neK (by omega)).or (op_differ (by omega))), by rw [hk]; exact rd_ne⟩
  | lt => exact ⟨_, op_lt.or (op_ltD (by omega)), by rw [hk]; exact rd_ltT⟩
  | le => exact ⟨_, op_le.or op_le_str, rd_le⟩
  | gt => exact ⟨_, op_gt, rd_gt⟩
  | ge => exact ⟨_, op_ge.or op_ge_str, rd_ge⟩
  | isin => exact ⟨_, (op_inD (by omega)).or (op_in_seq.or ((op_inK (by omega)).or op_in_sign)), by rw [hk]; exact rd_in⟩
  | nin => exact ⟨_, (op_notInD (by omega)).or (op_notIn_seq.or ((op_ninK (by omega)).or op_notIn_sign)), by rw [hk]; exact rd_nin⟩
  | is_ => exact ⟨_, op_isN.or op_isBl, rd_isN⟩
  | isn => exact ⟨_, op_notN.or op_notBl, rd_notN⟩
def notSet : Expr → Bool
  | .Set _ _ _ => false
  | _ => true
theorem marks0 {op : CmpOp} {b : Expr} (h : notSet b = true) : behindInMarks op b = false := by
  cases b <;> first | rfl | cases h
theorem sCmpO (hk : X.K = Z.K) (hu : X.A.units + 75 < cLine) (o : Cm) (ha : PE X a (tV Z W H0 ea)) (hb : PE X b (tV Z W H0 eb)) (hm : notSet b = true) :
    PE X (.Compare a [cmO o] [b] pos) (tV Z W H0 fun g s => rb (ea g s) fun x s => rb (eb g s) fun y s => rp ((cmpD o x y).map D.bl) s) := by
  obtain ⟨r, h1, h2⟩ := cm_rule (W := W) hk hu o
  exact sCmp h1 h2 ha hb (marks0 hm)
theorem sChn (hk : X.K = Z.K) (hu : X.A.units + 75 < cLine) (o p : Cm) (ha : PE X a (tV Z W H0 ea)) (hb : PE X b (tV Z W H0 eb)) (hc : PE X c (tV Z W H0 ec)) (hm : notSet c = true) :
    PE X (.Compare a [cmO o, cmO p] [b, c] pos) (tV Z W H0 fun g s => rb (ea g s) fun x s => rb (eb g s) fun y s => rb (rp (cmpD o x y) s) fun k s =>
      if k then rb (ec g s) fun z s => rp ((cmpD p y z).map D.bl) s else some (.ok (.bl false), s)) := by
  obtain ⟨r1, h1, k1⟩ := cm_rule (W := W) hk hu o
  obtain ⟨r2, h2, k2⟩ := cm_rule (W := W) hk hu p
  refine peW (pe_chain h1 h2 ha hb hc (marks0 hm)) fun σ H Q ⟨g, s, Sh, ok, h⟩ => ?_
  refine ⟨g, s, Sh, ok, h.bind fun x s1 v H1 Sh1 e1 q1 h => ⟨g, s1, Sh1, ok.ext e1, h.bind fun y s2 u H2 Sh2 e2 q2 h => ?_⟩⟩
  refine k1 v u x y σ H2 Sh2 s2 _ e2.sub e2.town (q1.mono e2.shs) q2 ?_
  cases q : cmpD o x y with
  | none =>
    rw [q] at h
    exact h.elim
  | some k =>
    rw [q] at h
    show EvX Z W (Rep Z) (rp ((cmpD o x y).map D.bl) s2) σ H2 Sh2 _
    rw [q]
    intro w H3 Sh3 e3 q3
    cases q3
    refine ⟨k, rfl, ?_⟩
    cases k with
    | false =>
      rw [if_neg Bool.false_ne_true]
      exact h (.bl false) H3 Sh3 e3 (.bl false)
    | true =>
      rw [if_pos rfl]
      have h : EvX Z W (Rep Z) (rb (ec g s2) fun z s => rp ((cmpD p y z).map D.bl) s) σ H2 Sh2 Q := h
      exact ⟨g, s2, Sh3, ((ok.ext e1).ext e2).ext e3, (h.mv e3).bind fun z s4 w4 H4 Sh4 e4 q4 h4 =>
        k2 u w4 y z σ H4 Sh4 s4 Q e4.sub e4.town ((q2.mono e3.shs).mono e4.shs) q4 h4⟩

/-! ### truth -/
theorem Rep.tru {H Sh : Hp} {d : D} {v : V} {k : Bool} (r : Rep Z Sh d v) (sub : Same Sh H) (h : d.truth = some k) : TruV Z.K v H k := by
  cases r with
  | non => cases h; rfl
  | bl b => cases h; rfl
  | int i => cases h; rfl
  | str x =>
    change (if x.length ≤ 100000 then some (x.length != 0) else none) = some k at h
    split at h
    · rename_i hl
      cases h
      refine ⟨hkLine hl, ?_⟩
      generalize x.length = n
      rw [Bool.eq_iff_iff]
      simp
    · cases h
  | tup x y =>
    cases h
    refine .inr (.inl ⟨_, seqT sub x, ?_⟩)
    cases y <;> rfl
  | lst x y =>
    cases h
    refine .inl ⟨_, SqL.of (sub _ _ x), ?_⟩
    cases y <;> rfl
  | dct x y => cases h
  | ndc x y z => cases h
  | fn f => cases h
  | exc c x => cases h
  | town x => cases h
  | scr x =>
    cases h
    refine .inl ⟨_, sub.seq x, ?_⟩
    rename_i ns
    cases ns <;> rfl
theorem sNot (hk : X.K = Z.K) (ha : PE X a (tV Z W H0 ea)) : PE X (.UnaryOp .Not a pos) (tV Z W H0 fun g s => rb (ea g s) fun x s => rb (tru x s) fun b s => some (.ok (.bl (!b)), s)) := by
  refine peW (pe_notT ha) fun σ H Q ⟨g, s, Sh, ok, h⟩ => ⟨g, s, Sh, ok, h.bind fun x s1 v H1 Sh1 e1 q1 h => ?_⟩
  rw [hk]
  cases q : x.truth with
  | none =>
    unfold tru at h
    rw [q] at h
    exact h.elim
  | some k =>
    unfold tru at h
    rw [q] at h
    exact ⟨k, q1.tru e1.sub q, EvX.here h e1.sub e1.town (.bl _)⟩
theorem sAnd {rest : List Expr} (hk : X.K = Z.K) (ha : PE X a (tV Z W H0 ea)) (hb : PE X (.BoolOp .And (b :: rest) pos) (tV Z W H0 eb)) :
    PE X (.BoolOp .And (a :: b :: rest) pos) (tV Z W H0 fun g s => rb (ea g s) fun x s => rb (tru x s) fun t s => if t then eb g s else some (.ok x, s)) := by
  refine peW (pe_andT ha hb) fun σ H Q ⟨g, s, Sh, ok, h⟩ => ⟨g, s, Sh, ok, h.bind fun x s1 v H1 Sh1 e1 q1 h => ?_⟩
  rw [hk]
  unfold tru at h
  cases q : x.truth with
  | none =>
    rw [q] at h
    exact h.elim
  | some k =>
    rw [q] at h
    refine ⟨k, q1.tru e1.sub q, ?_⟩
    cases k with
    | true =>
      rw [if_pos rfl]
      exact ⟨g, s1, Sh1, ok.ext e1, h⟩
    | false =>
      rw [if_neg Bool.false_ne_true]
      exact EvX.here h e1.sub e1.town q1
theorem sOr {rest : List Expr} (hk : X.K = Z.K) (ha : PE X a (tV Z W H0 ea)) (hb : PE X (.BoolOp .Or (b :: rest) pos) (tV Z W H0 eb)) :
    PE X (.BoolOp .Or (a :: b :: rest) pos) (tV Z W H0 fun g s => rb (ea g s) fun x s => rb (tru x s) fun t s => if t then some (.ok x, s) else eb g s) := by
  refine peW (pe_orT ha hb) fun σ H Q ⟨g, s, Sh, ok, h⟩ => ⟨g, s, Sh, ok, h.bind fun x s1 v H1 Sh1 e1 q1 h => ?_⟩
  rw [hk]
  unfold tru at h
  cases q : x.truth with
  | none =>
    rw [q] at h
    exact h.elim
  | some k =>
    rw [q] at h
    refine ⟨k, q1.tru e1.sub q, ?_⟩
    cases k with
    | false =>
      rw [if_neg Bool.false_ne_true]
      exact ⟨g, s1, Sh1, ok.ext e1, h⟩
    | true =>
      rw [if_pos rfl]
      exact EvX.here h e1.sub e1.town q1

/-! ### tests -/
/-- what a test answers -/
def evT (ev : G → S → EV D) : G → S → EV Bool := fun g s => rb (ev g s) fun x s => tru x s
theorem sTru (hk : X.K = Z.K) (ha : PE X a (tV Z W H0 ea)) (he : ∀ whole, isTrue a X.env whole = (do let v ← whole; standAt a.pos; holding [v] (truthy v))) : PT X a (tB Z W H0 (evT ea)) := by
  refine ptW (pt_truth ha he) fun σ H Q ⟨g, s, Sh, ok, h⟩ => ⟨g, s, Sh, ok, EvX.bind h fun x s1 v H1 Sh1 e1 q1 h => ?_⟩
  rw [hk]
  unfold tru at h
  cases q : x.truth with
  | none =>
    rw [q] at h
    exact h.elim
  | some k =>
    rw [q] at h
    exact ⟨k, q1.tru e1.sub q, EvX.here h e1.sub e1.town rfl⟩
theorem sTNot {ta : G → S → EV Bool} (ha : PT X a (tB Z W H0 ta)) : PT X (.UnaryOp .Not a pos) (tB Z W H0 fun g s => rb (ta g s) fun b s => some (.ok (!b), s)) := by
  refine ptW (pt_not ha) fun σ H Q ⟨g, s, Sh, ok, h⟩ => ⟨g, s, Sh, ok, h.bind fun x s1 v H1 Sh1 e1 q1 h => ?_⟩
  subst q1
  exact EvX.here h e1.sub e1.town rfl
theorem sTAnd {rest : List Expr} {ta tb : G → S → EV Bool} (ha : PT X a (tB Z W H0 ta)) (hb : PW X (.BoolOp .And (b :: rest) pos) (tB Z W H0 tb)) :
    PW X (.BoolOp .And (a :: b :: rest) pos) (tB Z W H0 fun g s => rb (ta g s) fun t s => if t then tb g s else some (.ok false, s)) := by
  refine ⟨fun wh pins s σ H Q I h => (pw_and ha hb).run wh pins s σ H Q I ?_⟩
  obtain ⟨g, s, Sh, ok, h⟩ := h
  refine ⟨g, s, Sh, ok, EvX.bind h fun x s1 v H1 Sh1 e1 q1 h => ?_⟩
  subst q1
  cases x with
  | true =>
    rw [if_pos rfl]
    exact ⟨g, s1, Sh1, ok.ext e1, h⟩
  | false =>
    rw [if_neg Bool.false_ne_true]
    exact EvX.here h e1.sub e1.town rfl
theorem sTOr {rest : List Expr} {ta tb : G → S → EV Bool} (ha : PT X a (tB Z W H0 ta)) (hb : PW X (.BoolOp .Or (b :: rest) pos) (tB Z W H0 tb)) :
    PW X (.BoolOp .Or (a :: b :: rest) pos) (tB Z W H0 fun g s => rb (ta g s) fun t s => if t then some (.ok true, s) else tb g s) := by
  refine ⟨fun wh pins s σ H Q I h => (pw_or ha hb).run wh pins s σ H Q I ?_⟩
  obtain ⟨g, s, Sh, ok, h⟩ := h
  refine ⟨g, s, Sh, ok, EvX.bind h fun x s1 v H1 Sh1 e1 q1 h => ?_⟩
  subst q1
  cases x with
  | false =>
    rw [if_neg Bool.false_ne_true]
    exact ⟨g, s1, Sh1, ok.ext e1, h⟩
  | true =>
    rw [if_pos rfl]
    exact EvX.here h e1.sub e1.town rfl
/-- a comparison as a test -/
theorem sTCmp (hk : X.K = Z.K) (hu : X.A.units + 75 < cLine) (o : Cm) (ha : PE X a (tV Z W H0 ea)) (hb : PE X b (tV Z W H0 eb)) (hm : notSet b = true) :
    PT X (.Compare a [cmO o] [b] pos) (tB Z W H0 (evT fun g s => rb (ea g s) fun x s => rb (eb g s) fun y s => rp ((cmpD o x y).map D.bl) s)) := by
  obtain ⟨r, h1, h2⟩ := cm_rule (W := W) hk hu o
  refine ptW (pt_cmpR h1 ha hb (marks0 hm)) fun σ H Q ⟨g, s, Sh, ok, h⟩ => ?_
  have h : EvX Z W (fun _ a b => a = b) (rb (rb (ea g s) fun x s => rb (eb g s) fun y s => rp ((cmpD o x y).map D.bl) s) fun x s => tru x s) σ H Sh Q := h
  rw [rb_rb] at h
  refine ⟨g, s, Sh, ok, h.bind fun x s1 v H1 Sh1 e1 q1 h => ⟨g, s1, Sh1, ok.ext e1, ?_⟩⟩
  rw [rb_rb] at h
  refine h.bind fun y s2 u H2 Sh2 e2 q2 h => h2 v u x y σ H2 Sh2 s2 _ e2.sub e2.town (q1.mono e2.shs) q2 ?_
  cases q : cmpD o x y with
  | none =>
    rw [q] at h
    exact h.elim
  | some k =>
    rw [q] at h
    show EvX Z W (Rep Z) (rp ((cmpD o x y).map D.bl) s2) σ H2 Sh2 _
    rw [q]
    intro w H3 Sh3 e3 q3
    cases q3
    exact ⟨k, rfl, h k H3 Sh3 e3 rfl⟩
theorem sTChn (hk : X.K = Z.K) (hu : X.A.units + 75 < cLine) (o p : Cm) (ha : PE X a (tV Z W H0 ea)) (hb : PE X b (tV Z W H0 eb)) (hc : PE X c (tV Z W H0 ec)) (hm : notSet c = true) :
    PT X (.Compare a [cmO o, cmO p] [b, c] pos) (tB Z W H0 (evT fun g s => rb (ea g s) fun x s => rb (eb g s) fun y s => rb (rp (cmpD o x y) s) fun k s =>
      if k then rb (ec g s) fun z s => rp ((cmpD p y z).map D.bl) s else some (.ok (.bl false), s))) := by
  obtain ⟨r1, h1, k1⟩ := cm_rule (W := W) hk hu o
  obtain ⟨r2, h2, k2⟩ := cm_rule (W := W) hk hu p
  refine ptW (pt_chain h1 h2 ha hb hc (marks0 hm)) fun σ H Q ⟨g, s, Sh, ok, h⟩ => ?_
  have h : EvX Z W (fun _ a b => a = b) (rb (rb (ea g s) fun x s => rb (eb g s) fun y s => rb (rp (cmpD o x y) s) fun k s =>
      if k then rb (ec g s) fun z s => rp ((cmpD p y z).map D.bl) s else some (.ok (.bl false), s)) fun x s => tru x s) σ H Sh Q := h
  rw [rb_rb] at h
  refine ⟨g, s, Sh, ok, h.bind fun x s1 v H1 Sh1 e1 q1 h => ⟨g, s1, Sh1, ok.ext e1, ?_⟩⟩
  rw [rb_rb] at h
  refine h.bind fun y s2 u H2 Sh2 e2 q2 h => ?_
  refine k1 v u x y σ H2 Sh2 s2 _ e2.sub e2.town (q1.mono e2.shs) q2 ?_
  cases q : cmpD o x y with
  | none =>
    rw [q] at h
    exact h.elim
  | some k =>
    rw [q] at h
    show EvX Z W (Rep Z) (rp ((cmpD o x y).map D.bl) s2) σ H2 Sh2 _
    rw [q]
    intro w H3 Sh3 e3 q3
    cases q3
    refine ⟨k, rfl, ?_⟩
    cases k with
    | false =>
      rw [if_neg Bool.false_ne_true]
      exact ⟨false, rfl, h false H3 Sh3 e3 rfl⟩
    | true =>
      rw [if_pos rfl]
      have h : EvX Z W (fun _ a b => a = b) (rb (rb (ec g s2) fun z s => rp ((cmpD p y z).map D.bl) s) fun x s => tru x s) σ H2 Sh2 Q := h
      rw [rb_rb] at h
      refine ⟨g, s2, Sh3, ((ok.ext e1).ext e2).ext e3, (h.mv e3).bind fun z s4 w4 H4 Sh4 e4 q4 h4 => ?_⟩
      refine k2 u w4 y z σ H4 Sh4 s4 _ e4.sub e4.town ((q2.mono e3.shs).mono e4.shs) q4 ?_
      cases q5 : cmpD p y z with
      | none =>
        rw [q5] at h4
        exact h4.elim
      | some k =>
        rw [q5] at h4
        show EvX Z W (Rep Z) (rp ((cmpD p y z).map D.bl) s4) σ H4 Sh4 _
        rw [q5]
        intro w H5 Sh5 e5 q6
        cases q6
        exact ⟨k, rfl, h4 k H5 Sh5 e5 rfl⟩
/-- a if t else b -/
theorem sIte {ta : G → S → EV Bool} (hc : PT X c (tB Z W H0 ta)) (ha : PE X a (tV Z W H0 ea)) (hb : PE X b (tV Z W H0 eb)) :
    PE X (.IfExp c a b pos) (tV Z W H0 fun g s => rb (ta g s) fun t s => if t then ea g s else eb g s) := by
  refine peW (pe_ifExp hc ha hb) fun σ H Q ⟨g, s, Sh, ok, h⟩ => ⟨g, s, Sh, ok, h.bind fun x s1 v H1 Sh1 e1 q1 h => ?_⟩
  subst q1
  cases x with
  | true =>
    rw [if_pos rfl]
    exact ⟨g, s1, Sh1, ok.ext e1, h⟩
  | false =>
    rw [if_neg Bool.false_ne_true]
    exact ⟨g, s1, Sh1, ok.ext e1, h⟩
end
end FR
/-! FrSnd4: displays, places, slices, built-ins, isinstance. -/
namespace FR
open PySem PySem.Spec PyProof.Rows L2
section
variable {Z : Gd} {W : WX} {H0 : Ent} {X : Cx} {pos : Pos} {a b c e : Expr} {es : List Expr} {ea eb ec : G → S → EV D} {el : G → S → EV (List D)}

/-! ### lists of expressions, displays -/
def notStar : Expr → Bool
  | .Starred _ _ => false
  | _ => true
theorem star1 (h : notStar e = true) (env : Env) : starEach (e :: es) env = (false, eval e env) :: starEach es env := by
  cases e <;> first | rfl | cases h
theorem sNil : PA X [] (tA Z W H0 fun _ s => some (.ok [], s)) := paW pa_nil fun σ H Q ⟨g, s, Sh, ok, h⟩ => EvX.here h ok.sub ok.town .nil
theorem sCons (hs : notStar e = true) (ha : PE X e (tV Z W H0 ea)) (hb : PA X es (tA Z W H0 el)) : PA X (e :: es) (tA Z W H0 fun g s => rb (ea g s) fun d s => rb (el g s) fun ds s => some (.ok (d :: ds), s)) :=
  paW (pa_cons ha hb (star1 hs _)) fun σ H Q ⟨g, s, Sh, ok, h⟩ => ⟨g, s, Sh, ok, EvX.bind h fun x s1 v H1 Sh1 e1 q1 h => ⟨g, s1, Sh1, ok.ext e1, EvX.bind h fun ys s2 u H2 Sh2 e2 q2 h =>
    EvX.here h e2.sub e2.town (.cons (q1.mono e2.shs) q2)⟩⟩
theorem sTup {k : Nat} (h : PA X es (tA Z W H0 el)) : PE X (.Tuple es k pos) (tV Z W H0 fun g s => rb (el g s) fun ds s => if ds.length ≤ SZ then some (.ok (.tup ds), s) else none) :=
  peW (pe_tup h) fun σ H Q ⟨g, s, Sh, ok, h⟩ => ⟨g, s, Sh, ok, EvX.bind h fun ds s1 vs H1 Sh1 e1 q1 h => by
    split at h
    · rename_i hl
      exact ⟨by rw [← q1.length]; exact szLine hl, fun p hp => EvX.newT h e1.sub e1.town q1 hp⟩
    · exact h.elim⟩

/-! ### a list that is new -/
section
variable (Z : Gd) (W : WX) (H0 : Ent)
/-- the answer is a new list, not yet shared -/
def EvF (o : EV D) (σ : L2.St) (H Sh : Hp) (Q : VK) : Prop := match o with
  | some (.ok (.lst ds), s) => ∀ (p : Addr) (vs : List V) (H' Sh' : Hp), Ext Z H Sh H' Sh' s → H p = none → H' p = some (.lst vs) → Sh' p = none → RepL Z Sh' ds vs → Q (.ref p) H'
  | some (.exn c, s) => ∀ (H' Sh' : Hp), Ext Z H Sh H' Sh' s → W (.ref (Z.cA c)) none σ H'
  | _ => False
def tF (ev : G → S → EV D) : TE := fun σ H Q => ∃ (g : G) (s : S) (Sh : Hp), Ok Z H0 σ g H Sh s ∧ EvF Z W (ev g s) σ H Sh Q
end
/-- the answers are lists -/
def isL (ev : G → S → EV D) : Prop := ∀ g s d s', ev g s = some (.ok d, s') → ∃ ds, d = .lst ds
theorem tF_of {ev : G → S → EV D} (hl : isL ev) {σ : L2.St} {H : Hp} {Q : VK} (h : tV Z W H0 ev σ H Q) : tF Z W H0 ev σ H Q := by
  obtain ⟨g, s, Sh, ok, h⟩ := h
  exact ⟨g, s, Sh, ok, by
    unfold EvF
    cases q : ev g s with
    | none =>
      rw [q] at h
      exact h
    | some p =>
      rw [q] at h
      obtain ⟨r, s1⟩ := p
      cases r with
      | exn c => exact h
      | ok d =>
        obtain ⟨ds, rfl⟩ := hl g s d s1 q
        intro p vs H' Sh' e hp hv hs r
        refine h (.ref p) H' (upd Sh' p (.lst vs)) ⟨e.frame, e.shs.trans (same_fresh hs), fun b x y => ?_, ?_, fun b x y => ?_⟩ (.lst upd_same (r.mono (same_fresh hs)))
        · by_cases hb : b = p
          · subst hb
            rw [upd_same] at y
            cases y
            exact hv
          · rw [upd_ne hb] at y
            exact e.sub b x y
        · have t := e.town
          unfold TownOk at t ⊢
          split at t
          · trivial
          · rename_i x a n e1
            have hne : a ≠ p := fun z => by
              subst z
              obtain ⟨_, _, _, h1⟩ := ok.town.there e1
              rw [hp] at h1
              cases h1
            rw [upd_ne hne]
            exact t
          · exact t
        · by_cases hb : b = p
          · subst hb
            exact .inr hp
          · rw [upd_ne hb] at y
            exact e.new b x y⟩
theorem sOwn {ev : G → S → EV D} (hl : isL ev) (h : PE X e (tF Z W H0 ev)) : PE X e (tV Z W H0 ev) := peW h fun σ H Q h => tF_of hl h
theorem EvF.new {σ : L2.St} {H Sh H1 Sh1 : Hp} {s : S} {ds : List D} {vs : List V} {Q : VK} {p : Addr} (h : EvF Z W (some (.ok (.lst ds), s)) σ H Sh Q) (e : Ext Z H Sh H1 Sh1 s) (nT : H p = none) (r : RepL Z Sh1 ds vs) (hp : H1 p = none) : Q (.ref p) (upd H1 p (.lst vs)) :=
  h p vs _ Sh1 (e.trans (Ext.allocH e.sub e.town hp _)) nT upd_same (same_none e.sub hp) r
theorem Ext.nofree {H Sh H1 Sh1 : Hp} {s s0 : S} (e : Ext Z H Sh H1 Sh1 s) (t : TownOk Z H Sh s0) {p : Addr} (hp : H1 p = none) : H p = none := by
  rcases e.gone hp with h | h
  · exact h
  · obtain ⟨n, _, _, h2⟩ := e.town.there h.symm
    rw [hp] at h2
    cases h2
theorem EvF.bind {α β : Type} {rel : Hp → α → β → Prop} {o : EV α} {f : α → S → EV D} {σ : L2.St} {H Sh : Hp} {Q : VK} {Q' : β → Hp → Prop} (h : EvF Z W (rb o f) σ H Sh Q)
    (k : ∀ a s' v H' Sh', Ext Z H Sh H' Sh' s' → rel Sh' a v → EvF Z W (f a s') σ H Sh Q → Q' v H') : EvX Z W rel o σ H Sh Q' := by
  unfold EvX
  cases o with
  | none => exact h
  | some p =>
    obtain ⟨r, s1⟩ := p
    cases r with
    | exn c => exact h
    | ok a => exact fun v H' Sh' e r => k a s1 v H' Sh' e r h
theorem fLst (h : PA X es (tA Z W H0 el)) : PE X (.List es pos) (tF Z W H0 fun g s => rb (el g s) fun ds s => if ds.length ≤ SZ then some (.ok (.lst ds), s) else none) :=
  peW (pe_lst h) fun σ H Q ⟨g, s, Sh, ok, h⟩ => ⟨g, s, Sh, ok, EvF.bind h fun ds s1 vs H1 Sh1 e1 q1 h => by
    split at h
    · rename_i hl
      exact ⟨by rw [← q1.length]; exact szLine hl, fun p hp => EvF.new h e1 (e1.nofree ok.town hp) q1 hp⟩
    · exact h.elim⟩
theorem isL_bind {α : Type} {o : G → S → EV α} {f : G → α → S → EV D} (h : ∀ g a s d s', f g a s = some (.ok d, s') → ∃ ds, d = .lst ds) : isL fun g s => rb (o g s) (f g) := fun g s d s' e => by
  change rb (o g s) (f g) = _ at e
  cases q : o g s with
  | none =>
    rw [q] at e
    cases e
  | some p =>
    rw [q] at e
    obtain ⟨r, s1⟩ := p
    cases r with
    | exn c => cases e
    | ok a => exact h g a s1 d s' e
theorem sLst (h : PA X es (tA Z W H0 el)) : PE X (.List es pos) (tV Z W H0 fun g s => rb (el g s) fun ds s => if ds.length ≤ SZ then some (.ok (.lst ds), s) else none) :=
  sOwn (isL_bind (f := fun _ ds s => if ds.length ≤ SZ then some (.ok (.lst ds), s) else none) fun g ds s d s' e => by
    split at e
    · cases e
      exact ⟨_, rfl⟩
    · cases e) (fLst h)

/-! ### places -/
theorem atL_eq {α : Type} (xs : List α) (i : Int) : atL xs i = L2.atI xs i := by
  unfold atL L2.atI L2.ixN
  split
  · split
    · rfl
    · rename_i h1 h2
      rw [List.getElem?_eq_none_iff.mpr (by omega)]
      rfl
  · split <;> rfl
theorem RepL.at {h : Hp} {ds : List D} {vs : List V} {i : Int} {d : D} (r : RepL Z h ds vs) (e : atL ds i = some d) : ∃ v, L2.atI vs i = some v ∧ Rep Z h d v := by
  rw [atL_eq] at e
  unfold L2.atI at e ⊢
  rw [← r.length]
  obtain ⟨j, e1, e2⟩ := Option.bind_eq_some_iff.mp e
  obtain ⟨v, e3, q⟩ := r.get e2
  exact ⟨v, by rw [e1]; exact e3, q⟩
def notSlice : Expr → Bool
  | .Slice _ _ _ _ => false
  | _ => true
theorem plainIx (h : notSlice b = true) : PlainIx b := fun o i => by
  cases b <;> first | rfl | cases h
theorem rd_idx : RD Z W (fun x y H Q => rIx Z.K x y H Q ∨ (rIxK x y H Q ∨ rIxN Z.w x y H Q)) idxD := fun x y d1 d2 σ H Sh s Q sub t r1 r2 h0 => by
  obtain ⟨d, e, h1⟩ := h0.rp
  unfold idxD at e
  split at e
  · cases r1 with
    | lst x1 y1 =>
      cases r2
      obtain ⟨v, e1, q⟩ := y1.at e
      exact .inl (.inl ⟨_, _, _, _, rfl, rfl, SqL.of (sub _ _ x1), e1, h1.here sub t q⟩)
  · cases r1 with
    | tup x1 y1 =>
      cases r2
      obtain ⟨v, e1, q⟩ := y1.at e
      exact .inl (.inr (.inl ⟨_, _, _, _, rfl, rfl, seqT sub x1, e1, h1.here sub t q⟩))
  · cases r1 with
    | scr x1 =>
      cases r2
      obtain ⟨j, e1, rfl⟩ := Option.map_eq_some_iff.mp e
      rename_i ns i _
      refine .inl (.inl ⟨_, _, _, .int j, rfl, rfl, sub.seq x1, ?_, h1.here sub t (.int j)⟩)
      rw [atL_eq] at e1
      unfold L2.atI at e1 ⊢
      obtain ⟨k, e2, e3⟩ := Option.bind_eq_some_iff.mp e1
      rw [List.length_map, e2]
      show (ns.map V.int)[k]? = some (V.int j)
      rw [List.getElem?_map, e3]
      rfl
  · cases r1 with
    | dct x1 y1 =>
      cases r2
      rcases y1.val (.inl _) with ⟨n1, _⟩ | ⟨d', v, n1, n2, r⟩
      · rw [n1] at e
        cases e
      · rw [n1] at e
        cases e
        exact .inr (.inl ⟨_, v, rfl, .inl ⟨_, .inl _, .inr ⟨_, sub _ _ x1⟩, rfl, n2.symm⟩, h1.here sub t r⟩)
  · cases r1 with
    | dct x1 y1 =>
      cases r2
      rcases y1.val (.inr _) with ⟨n1, _⟩ | ⟨d', v, n1, n2, r⟩
      · rw [n1] at e
        cases e
      · rw [n1] at e
        cases e
        exact .inr (.inl ⟨_, v, rfl, .inl ⟨_, .inr _, .inr ⟨_, sub _ _ x1⟩, rfl, n2.symm⟩, h1.here sub t r⟩)
  · cases r1 with
    | ndc x1 y1 z1 =>
      cases r2
      rcases y1.val (.inr _) with ⟨n1, _⟩ | ⟨d', v, n1, n2, r⟩
      · rw [n1] at e
        cases e
      · rw [n1] at e
        cases e
        exact .inr (.inr ⟨_, _, _, _, .inr _, v, rfl, rfl, sub _ _ x1, n2, h1.here sub t r⟩)
  · split at e
    · rename_i hz
      obtain ⟨c, e1, rfl⟩ := Option.map_eq_some_iff.mp e
      cases r1
      cases r2
      rw [atL_eq] at e1
      exact .inl (.inr (.inr ⟨_, _, c, rfl, rfl, Nat.le_trans hz (by decide), e1, h1.here sub t (.str _)⟩))
    · cases e
  · cases e
theorem sIdx (hk : X.K = Z.K) (hw : X.w = Z.w) (hu : X.A.units + 75 < cLine) (hs : notSlice b = true) (ha : PE X a (tV Z W H0 ea)) (hb : PE X b (tV Z W H0 eb)) :
    PE X (.Subscript a b pos) (tV Z W H0 fun g s => rb (ea g s) fun x s => rb (eb g s) fun y s => rp (idxD x y) s) :=
  sOp (by rw [hk, hw]; exact rd_idx) (fun _ _ _ h => h) (pe_ix (ix_seq.or ((ix_dictK (by omega)).or (ix_none (by omega)))) ha hb (plainIx hs))

/-! ### slices -/
theorem clip_eq (n d : Nat) (o : Option Int) : clip n d o = HT.sIx n d o := by
  cases o <;> rfl
theorem RepL.cut {h : Hp} {ds : List D} {vs : List V} (lo hi : Option Int) (r : RepL Z h ds vs) : RepL Z h (cutL ds lo hi) (cutV vs lo hi) := by
  unfold cutL cutV
  rw [clip_eq, clip_eq, r.length]
  exact (r.drop _).take _
abbrev tO (Z : Gd) (W : WX) (H0 : Ent) (ev : G → S → EV (Option Int)) : TO := tX Z W H0 (fun _ a b => a = b) ev
theorem poW {X : Cx} {e : Option Expr} {t t' : TO} (h : PO X e t) (w : ∀ σ H Q, t' σ H Q → t σ H Q) : PO X e t' := ⟨fun pins s σ H Q I q => h.run pins s σ H Q I (w σ H Q q)⟩
theorem sP0 : PO X none (tO Z W H0 fun _ s => some (.ok none, s)) := poW po_none fun σ H Q ⟨g, s, Sh, ok, h⟩ => EvX.here h ok.sub ok.town rfl
theorem sP1 (h : PE X e (tV Z W H0 ea)) : PO X (some e) (tO Z W H0 fun g s => rb (ea g s) fun d s => rp (partD d) s) := poW (po_some h) fun σ H Q ⟨g, s, Sh, ok, h⟩ => ⟨g, s, Sh, ok, EvX.bind h fun d s1 v H1 Sh1 e1 q1 h => by
  cases q1 with
  | int i => exact ⟨i, rfl, EvX.here h e1.sub e1.town rfl⟩
  | _ => exact h.elim⟩
theorem rd_slcT {x : V} {d1 d : D} {lo hi : Option Int} {σ : L2.St} {H Sh : Hp} {s : S} {Q : VK} (sub : Same Sh H) (t : TownOk Z H Sh s) (r1 : Rep Z Sh d1 x) (h0 : EvX Z W (Rep Z) (rp (slcD d1 lo hi) s) σ H Sh Q) :
    (rSlL Z.K x lo hi H Q ∨ rSlA Z.K x lo hi H Q) ∨ rSlS x lo hi H Q := by
  obtain ⟨d, e, h1⟩ := h0.rp
  unfold slcD at e
  split at e
  · cases r1 with
    | lst x1 y1 =>
      cases e
      exact .inl (.inl ⟨_, _, rfl, SqL.of (sub _ _ x1), fun p hp => h1.newL sub t (y1.cut lo hi) hp⟩)
  · cases r1 with
    | tup x1 y1 =>
      cases e
      refine .inl (.inr ⟨_, _, rfl, seqT sub x1, fun hz => ?_, fun _ p hp => h1.newT sub t (y1.cut lo hi) hp⟩)
      refine h1.here sub t (.tup x1 ?_)
      have y2 := y1.cut lo hi
      unfold cutV at y2
      rw [hz.1, hz.2, List.drop_zero, Nat.sub_zero, List.take_length] at y2
      exact y2
  · rename_i z
    cases r1
    split at e
    · rename_i hl
      cases e
      refine .inr ⟨z, rfl, hkLine hl, ?_⟩
      have q : cutS z lo hi = ofL (cutL (tlS z) lo hi) := by
        refine ofL_eq ?_
        unfold cutL
        rw [clip_eq, clip_eq, show (tlS z).length = z.length by simp [tlS, Str.length]]
        rfl
      rw [q]
      exact h1.here sub t (.str _)
    · cases e
  · cases e
theorem sSlc {lo hi : Option Expr} {el eh : G → S → EV (Option Int)} {p2 : Pos} (hk : X.K = Z.K) (ha : PE X a (tV Z W H0 ea)) (hl : PO X lo (tO Z W H0 el)) (hh : PO X hi (tO Z W H0 eh)) :
    PE X (.Subscript a (.Slice lo hi none p2) pos) (tV Z W H0 fun g s => rb (ea g s) fun x s => rb (el g s) fun l s => rb (eh g s) fun h s => rp (slcD x l h) s) := by
  refine peW (pe_slice ((sl_list.or sl_tupA).or sl_str) ha hl hh) fun σ H Q ⟨g, s, Sh, ok, h⟩ => ⟨g, s, Sh, ok, EvX.bind h fun x s1 v H1 Sh1 e1 q1 h => ⟨g, s1, Sh1, ok.ext e1, EvX.bind h fun l s2 l' H2 Sh2 e2 q2 h =>
    ⟨g, s2, Sh2, (ok.ext e1).ext e2, EvX.bind h fun u s3 u' H3 Sh3 e3 q3 h => ?_⟩⟩⟩
  subst q2 q3
  rw [hk]
  exact rd_slcT (d := x) e3.sub e3.town ((q1.mono e2.shs).mono e3.shs) h
theorem sRev {k : Nat} {p1 p2 p3 : Pos} (hk : X.K = Z.K) (ha : PE X a (tV Z W H0 ea)) :
    PE X (.Subscript a (.Slice none none (some (.UnaryOp .USub (.Constant (.int 1) k p1) p2)) p3) pos) (tV Z W H0 fun g s => rb (ea g s) fun x s => rp (revD x) s) := by
  refine peW (pe_revL ha) fun σ H Q ⟨g, s, Sh, ok, h⟩ => ⟨g, s, Sh, ok, EvX.bind h fun x s1 v H1 Sh1 e1 q1 h => ?_⟩
  rw [hk]
  obtain ⟨d, e, h1⟩ := h.rp
  cases q1 with
  | lst x1 y1 =>
    cases e
    exact ⟨_, _, rfl, SqL.of (e1.sub _ _ x1), fun p hp => h1.newL e1.sub e1.town y1.rev hp⟩
  | _ => cases e
theorem RepL.tl {Z : Gd} {h : Hp} {ds : List D} {vs : List V} (r : RepL Z h ds vs) : RepL Z h ds.tail vs.tail := by
  cases r with
  | nil => exact .nil
  | cons _ t => exact t
theorem sBck {k k2 : Nat} {p0 p1 p2 p3 : Pos} (hk : X.K = Z.K) (ha : PE X a (tV Z W H0 ea)) :
    PE X (.Subscript a (.Slice none (some (.Constant (.int 0) k2 p0)) (some (.UnaryOp .USub (.Constant (.int 1) k p1) p2)) p3) pos) (tV Z W H0 fun g s => rb (ea g s) fun x s => rp (bckD x) s) := by
  refine peW (pe_sl3 sl3_back ha po_none (po_some pe_int) (po_some (pe_un un_neg pe_int)) fun _ _ => by with_unfolding_all rfl) fun σ H Q ⟨g, s, Sh, ok, h⟩ => ⟨g, s, Sh, ok, EvX.bind h fun x s1 v H1 Sh1 e1 q1 h => ?_⟩
  obtain ⟨d, e, h1⟩ := h.rp
  cases q1 with
  | lst x1 y1 =>
    cases e
    refine ⟨0, rfl, 1, rfl, -1, rfl, rfl, rfl, rfl, _, _, rfl, ?_, fun p hp => h1.newL e1.sub e1.town y1.tl.rev hp⟩
    rw [hk]
    exact SqL.of (e1.sub _ _ x1)
  | _ => cases e
theorem sTwo {k k2 : Nat} {p0 p1 p2 p3 : Pos} (hk : X.K = Z.K) (ha : PE X a (tV Z W H0 ea)) :
    PE X (.Subscript a (.Slice (some (.Constant (.int 1) k2 p0)) none (some (.UnaryOp .USub (.Constant (.int 1) k p1) p2)) p3) pos) (tV Z W H0 fun g s => rb (ea g s) fun x s => rp (twoD x) s) := by
  refine peW (pe_sl3 sl3_two ha (po_some pe_int) po_none (po_some (pe_un un_neg pe_int)) fun _ _ => by with_unfolding_all rfl) fun σ H Q ⟨g, s, Sh, ok, h⟩ => ⟨g, s, Sh, ok, EvX.bind h fun x s1 v H1 Sh1 e1 q1 h => ?_⟩
  obtain ⟨d, e, h1⟩ := h.rp
  cases q1 with
  | tup x1 y1 =>
    cases y1 with
    | nil => cases e
    | cons r1 y2 =>
      cases y2 with
      | nil => cases e
      | cons r2 y3 =>
        cases e
        have sq := seqT e1.sub x1
        rw [← hk] at sq
        exact ⟨1, rfl, 1, rfl, -1, rfl, rfl, rfl, rfl, _, _, _, _, rfl, sq, fun p hp => h1.newT e1.sub e1.town (.cons r2 (.cons r1 .nil)) hp⟩
  | _ => cases e
theorem sNeg (ha : PE X a (tV Z W H0 ea)) : PE X (.UnaryOp .USub a pos) (tV Z W H0 fun g s => rb (ea g s) fun x s => rp (match x with | .int i => some (.int (-i)) | _ => none) s) := by
  refine peW (pe_un un_neg ha) fun σ H Q ⟨g, s, Sh, ok, h⟩ => ⟨g, s, Sh, ok, EvX.bind h fun x s1 v H1 Sh1 e1 q1 h => ?_⟩
  obtain ⟨d, e, h1⟩ := h.rp
  cases q1 with
  | int i =>
    cases e
    exact ⟨i, rfl, h1.here e1.sub e1.town (.int _)⟩
  | _ => cases e

/-! ### built-ins -/
/-- a rule of a call does what a function of data says -/
def RC (Z : Gd) (W : WX) (r : List V → Hp → VK → Prop) (f : List D → S → Option D) : Prop := ∀ (vs : List V) (ds : List D) (σ : L2.St) (H Sh : Hp) (s : S) (Q : VK), Same Sh H → TownOk Z H Sh s → RepL Z Sh ds vs →
  EvX Z W (Rep Z) (rp (f ds s) s) σ H Sh Q → r vs H Q
theorem sCB {r : List V → Hp → VK → Prop} {f : List D → S → Option D} (hr : RC Z W r f) (h : PE X e (tCB r (tA Z W H0 el))) : PE X e (tV Z W H0 fun g s => rb (el g s) fun ds s => rp (f ds s) s) :=
  peW h fun σ H Q ⟨g, s, Sh, ok, h⟩ => ⟨g, s, Sh, ok, EvX.bind h fun ds s1 vs H1 Sh1 e1 q1 h => hr vs ds σ H1 Sh1 s1 Q e1.sub e1.town q1 h⟩
theorem CallR.or {f : Value} {r r' : List V → Hp → VK → Prop} (h : CallR X f r) (h' : CallR X f r') : CallR X f (fun x H Q => r x H Q ∨ r' x H Q) := by
  intro pins s σ H xs us Q I rr q
  rcases q with q | q
  · exact h pins s σ H xs us Q I rr q
  · exact h' pins s σ H xs us Q I rr q
theorem rc1 {r : List V → Hp → VK → Prop} {f : D → S → Option D} (h : ∀ (v : V) (d1 d : D) (σ : L2.St) (H Sh : Hp) (s : S) (Q : VK), Same Sh H → TownOk Z H Sh s → Rep Z Sh d1 v → f d1 s = some d → EvX Z W (Rep Z) (some (.ok d, s)) σ H Sh Q → r [v] H Q) : RC Z W r (one1 f) :=
  fun vs ds σ H Sh s Q sub t r0 h0 => by
    obtain ⟨d, e, h1⟩ := h0.rp
    unfold one1 at e
    split at e
    · cases r0 with
      | cons x y =>
        cases y
        exact h _ _ d σ H Sh s Q sub t x e h1
    · cases e
theorem rc2 {r : List V → Hp → VK → Prop} {f : D → D → S → Option D} (h : ∀ (v u : V) (d1 d2 d : D) (σ : L2.St) (H Sh : Hp) (s : S) (Q : VK), Same Sh H → TownOk Z H Sh s → Rep Z Sh d1 v → Rep Z Sh d2 u → f d1 d2 s = some d → EvX Z W (Rep Z) (some (.ok d, s)) σ H Sh Q → r [v, u] H Q) : RC Z W r (two2 f) :=
  fun vs ds σ H Sh s Q sub t r0 h0 => by
    obtain ⟨d, e, h1⟩ := h0.rp
    unfold two2 at e
    split at e
    · cases r0 with
      | cons x y =>
        cases y with
        | cons x2 y2 =>
          cases y2
          exact h _ _ _ _ d σ H Sh s Q sub t x x2 e h1
    · cases e
abbrev rLen1 (K : PySem.W.Frag) : List V → Hp → VK → Prop := fun xs H Q => ∃ x n, xs = [x] ∧ LenV K x H n ∧ Q (.int n) H
abbrev rLenD1 : List V → Hp → VK → Prop := rLenK
theorem RepK.length {h : Hp} : ∀ {ds : List (Key × D)} {vs : List (Key × V)}, RepK Z h ds vs → ds.length = vs.length
  | _, _, .nil => rfl
  | _, _, .cons _ y => congrArg (· + 1) y.length
theorem rc_len : RC Z W (fun xs H Q => rLen1 Z.K xs H Q ∨ (rLenD1 xs H Q ∨ rLenN Z.w xs H Q)) (bifD .len) := rc1 fun v d1 d σ H Sh s Q sub t r e h => by
  cases r with
  | str x =>
    change (if x.length ≤ 100000 then some (D.int x.length) else none) = some d at e
    split at e
    · rename_i hl
      cases e
      exact .inl ⟨_, _, rfl, ⟨hkLine hl, rfl⟩, h.here sub t (.int _)⟩
    · cases e
  | tup x y =>
    cases e
    refine .inl ⟨_, _, rfl, .inr ⟨_, seqT sub x, y.length⟩, h.here sub t (.int _)⟩
  | lst x y =>
    cases e
    exact .inl ⟨_, _, rfl, .inl ⟨_, SqL.of (sub _ _ x), y.length⟩, h.here sub t (.int _)⟩
  | dct x y =>
    cases e
    refine .inr (.inl ⟨_, _, rfl, .inr ⟨_, sub _ _ x⟩, ?_⟩)
    rw [← y.length]
    exact h.here sub t (.int _)
  | ndc x y z =>
    cases e
    refine .inr (.inr ⟨_, _, _, _, rfl, sub _ _ x, ?_⟩)
    rw [← y.length]
    exact h.here sub t (.int _)
  | scr x =>
    cases e
    refine .inl ⟨_, _, rfl, .inl ⟨_, sub.seq x, (List.length_map _).symm⟩, h.here sub t (.int _)⟩
  | town x =>
    obtain ⟨n, rfl, h1, h2⟩ := t.there x
    cases e
    exact .inl ⟨_, _, rfl, .inl ⟨_, SqL.of h2, List.length_replicate.symm⟩, h.here sub t (.int _)⟩
  | _ => cases s <;> cases e
theorem rc_abs : RC Z W (fun xs H Q => ∃ i, xs = [.int i] ∧ Q (.int (if i < 0 then -i else i)) H) (bifD .abs) := rc1 fun v d1 d σ H Sh s Q sub t r e h => by
  cases r with
  | int i =>
    cases e
    exact ⟨i, rfl, h.here sub t (.int _)⟩
  | _ => cases e
theorem rc_sum : RC Z W (rSum Z.K) (bifD .sum) := rc1 fun v d1 d σ H Sh s Q sub t r e h => by
  cases r with
  | lst x y =>
    obtain ⟨ns, e1, rfl⟩ := Option.map_eq_some_iff.mp e
    refine ⟨_, ns, rfl, ?_, h.here sub t (.int _)⟩
    rw [← y.ints e1]
    exact SqL.of (sub _ _ x)
  | _ => cases e
theorem rc_all : RC Z W (rAll Z.K) (bifD .all) := rc1 fun v d1 d σ H Sh s Q sub t r e h => by
  cases r with
  | lst x y =>
    obtain ⟨ns, e1, rfl⟩ := Option.map_eq_some_iff.mp e
    refine ⟨_, ns, rfl, ?_, h.here sub t (.bl _)⟩
    rw [← y.bools e1]
    exact SqL.of (sub _ _ x)
  | _ => cases e
theorem rc_any : RC Z W (rAny Z.K) (bifD .any) := rc1 fun v d1 d σ H Sh s Q sub t r e h => by
  cases r with
  | lst x y =>
    obtain ⟨ns, e1, rfl⟩ := Option.map_eq_some_iff.mp e
    refine ⟨_, ns, rfl, ?_, h.here sub t (.bl _)⟩
    rw [← y.bools e1]
    exact SqL.of (sub _ _ x)
  | _ => cases e
abbrev rInt1 : List V → Hp → VK → Prop := fun xs H Q => (∃ i, xs = [.int i] ∧ Q (.int i) H) ∨ ∃ k, xs = [.bl k] ∧ Q (.int (if k then 1 else 0)) H
abbrev rIntS : List V → Hp → VK → Prop := fun xs H Q => ∃ a n, xs = [.str a] ∧ PySem.intText? a = some n ∧ a.length ≤ 640 ∧ Q (.int n) H
theorem rc_int : RC Z W (fun xs H Q => rInt1 xs H Q ∨ rIntS xs H Q) (bifD .int) := rc1 fun v d1 d σ H Sh s Q sub t r e h => by
  cases r with
  | int i =>
    cases e
    exact .inl (.inl ⟨i, rfl, h.here sub t (.int _)⟩)
  | bl k =>
    cases e
    exact .inl (.inr ⟨k, rfl, h.here sub t (.int _)⟩)
  | str x =>
    change (if x.length ≤ 640 then (intT (tlS x)).map D.int else none) = some d at e
    split at e
    · rename_i hl
      obtain ⟨n, e1, rfl⟩ := Option.map_eq_some_iff.mp e
      exact .inr ⟨x, n, rfl, intT_text e1 hl, hl, h.here sub t (.int _)⟩
    · cases e
  | _ => cases e
theorem log2_le_pow {n : Nat} (h : n < 10 ^ 100) : n.log2 < 1920 := by
  have h1 : n < 2 ^ 1920 := Nat.lt_of_lt_of_le h (by decide +kernel)
  by_cases h0 : n = 0
  · subst h0
    decide
  · exact (Nat.log2_lt h0).mpr h1
abbrev rStr1 : List V → Hp → VK → Prop := fun xs H Q => ∃ i : Int, xs = [.int i] ∧ i.natAbs.log2 < 1920 ∧ Q (.str (toString i)) H
theorem rc_str : RC Z W rStr1 (bifD .str) := rc1 fun v d1 d σ H Sh s Q sub t r e h => by
  cases r with
  | int i =>
    change (if i.natAbs < 10 ^ 100 then some (.str (ofL (numT i))) else none) = some d at e
    split at e
    · rename_i hl
      cases e
      refine ⟨i, rfl, log2_le_pow hl, ?_⟩
      have q : ((toString i : String) : Str) = ofL (numT i) := num_text i
      rw [q]
      exact h.here sub t (.str _)
    · cases e
  | _ => cases e
abbrev rTupleOf (K : PySem.W.Frag) : List V → Hp → VK → Prop := fun xs H Q => ∃ p ys, xs = [.ref p] ∧ ((SqL K H p ys ∧ ∀ l, H l = none → Q (.ref l) (upd H l (.tup ys))) ∨ (SqT K H p ys ∧ Q (.ref p) H))
theorem rc_tuple : RC Z W (rTupleOf Z.K) (bifD .tuple) := rc1 fun v d1 d σ H Sh s Q sub t r e h => by
  cases r with
  | lst x y =>
    cases e
    exact ⟨_, _, rfl, .inl ⟨SqL.of (sub _ _ x), fun p hp => h.newT sub t y hp⟩⟩
  | tup x y =>
    cases e
    exact ⟨_, _, rfl, .inr ⟨seqT sub x, h.here sub t (.tup x y)⟩⟩
  | _ => cases e
abbrev rListOf (K : PySem.W.Frag) : List V → Hp → VK → Prop := fun xs H Q => ∃ p ys, xs = [.ref p] ∧ (SqL K H p ys ∨ SqT K H p ys) ∧ ∀ l, H l = none → Q (.ref l) (upd H l (.lst ys))
theorem repL_sgs {h : Hp} : ∀ l : List Nat, RepL Z h (l.map fun c => D.str ⟨#[c]⟩) (l.map fun c => V.str ⟨#[c]⟩)
  | [] => .nil
  | c :: l => .cons (.str _) (repL_sgs l)
theorem rc_list : RC Z W (fun xs H Q => rListOf Z.K xs H Q ∨ rListS xs H Q) (bifD .list) := rc1 fun v d1 d σ H Sh s Q sub t r e h => by
  cases r with
  | lst x y =>
    cases e
    exact .inl ⟨_, _, rfl, .inl (SqL.of (sub _ _ x)), fun p hp => h.newL sub t y hp⟩
  | tup x y =>
    cases e
    exact .inl ⟨_, _, rfl, .inr (seqT sub x), fun p hp => h.newL sub t y hp⟩
  | str x =>
    change (if x.length ≤ 1000 then some (.lst ((tlS x).map fun c => .str ⟨#[c]⟩)) else none) = some d at e
    split at e
    · rename_i hl
      cases e
      exact .inr ⟨x, rfl, hl, fun p hp => h.newL sub t (repL_sgs _) hp⟩
    · cases e
  | _ => cases e
theorem RepL.strs : ∀ {ds : List D} {vs : List V} {ks : List Str} {h : Hp}, RepL Z h ds vs → strsD ds = some ks → vs = ks.map V.str
  | _, _, _, _, .nil, e => by
    rw [strsD] at e
    cases e
    rfl
  | _, _, ks, _, .cons x y, e => by
    cases x with
    | str i =>
      rw [strsD] at e
      obtain ⟨ms, e1, rfl⟩ := Option.map_eq_some_iff.mp e
      rw [y.strs e1]
      rfl
    | _ => cases e
theorem repL_strs {h : Hp} : ∀ ks : List Str, RepL Z h (ks.map D.str) (ks.map V.str)
  | [] => .nil
  | k :: ks => .cons (.str k) (repL_strs ks)
theorem repL_ints {h : Hp} : ∀ ks : List Int, RepL Z h (ks.map D.int) (ks.map V.int)
  | [] => .nil
  | k :: ks => .cons (.int k) (repL_ints ks)
theorem leS_cps {x p : Str} (h : (!ltCps x.cps.toList p.cps.toList) = true) : leS p x = true := by
  unfold leS
  rw [gt_meets]
  exact h
theorem rising_srt : ∀ {l : List Str} {p : Str}, risingS p l = true → SrtS (p :: l)
  | [], p, _ => List.pairwise_singleton _ _
  | x :: r, p, h => by
    rw [risingS, Bool.and_eq_true] at h
    have k := rising_srt h.2
    refine List.pairwise_cons.mpr ⟨fun z hz => ?_, k⟩
    rcases List.mem_cons.mp hz with rfl | hz
    · exact leS_cps h.1
    · exact leS_trans (leS_cps h.1) ((List.pairwise_cons.mp k).1 z hz)
theorem sortedS_srt {l : List Str} (h : sortedS l = true) : SrtS l := by
  cases l with
  | nil => exact List.Pairwise.nil
  | cons x r => exact rising_srt h
theorem sortS_uniq {ys ks : List Str} (p : ys.Perm ks) (h : sortedS ys = true) : ys = sortS ks := sort_of p (sortedS_srt h)
theorem sortI_uniq {ys ks : List Int} (p : ys.Perm ks) (h : ys.Pairwise (· ≤ ·)) : ys = sortI ks := sortI_of p h
abbrev rSortedKD : List V → Hp → VK → Prop := fun xs H Q => ∃ (a : Addr) (kvs : List (Key × V)) (ks : List Str), xs = [.ref a] ∧ Rd H a (.dK kvs) ∧ kvs.map (·.1) = ks.map Sum.inr ∧ ks.length < 64 ∧ ∀ ys p, ys.Perm ks → sortedS ys = true → H p = none → Q (.ref p) (upd H p (.lst (ys.map V.str)))
theorem RepK.keyS {h : Hp} : ∀ {ds : List (Key × D)} {vs : List (Key × V)} {ks : List Str}, RepK Z h ds vs → strsD (ds.map fun kv => Ky.d kv.1) = some ks → vs.map (·.1) = ks.map Sum.inr
  | _, _, _, .nil, e => by
    cases e
    rfl
  | _, _, _, .cons (k := k) x y, e => by
    cases k with
    | inl i => cases e
    | inr z =>
      rw [List.map_cons] at e
      obtain ⟨ms, e1, rfl⟩ := Option.map_eq_some_iff.mp (show (strsD _).map _ = some _ from e)
      rw [List.map_cons, List.map_cons, RepK.keyS y e1]
theorem keySort_eq {kvs : List (Ky × D)} {d : D} (h : keySortD (.dct kvs) = some d) : ∃ ks, strsD (kvs.map fun kv => Ky.d kv.1) = some ks ∧ ks.length < 64 ∧ d = .lst ((sortS ks).map D.str) := by
  obtain ⟨ks, e1, e2⟩ := Option.bind_eq_some_iff.mp (show (strsD _).bind _ = some d from h)
  split at e2
  · rename_i h64
    cases e2
    exact ⟨ks, e1, h64, rfl⟩
  · cases e2
theorem rc_sorted : RC Z W (fun xs H Q => rSortedS Z.K xs H Q ∨ (rSorted Z.K xs H Q ∨ rSortedKD xs H Q)) (bifD .sorted) := rc1 fun v d1 d σ H Sh s Q sub t r e h => by
  cases r with
  | lst x y =>
    change sortedL _ = some d at e
    unfold sortedL at e
    split at e
    · rename_i ks q
      split at e
      · rename_i h64
        cases e
        have hv := y.strs q
        subst hv
        refine .inl ⟨_, ks, rfl, SqL.of (sub _ _ x), h64, fun ys p hp hs np => ?_⟩
        rw [sortS_uniq hp hs]
        exact h.newL sub t (repL_strs _) np
      · cases e
    · split at e
      · rename_i ns q
        split at e
        · rename_i h64
          cases e
          have hv := y.ints q
          subst hv
          refine .inr (.inl ⟨_, ns, rfl, SqL.of (sub _ _ x), h64, fun ys p hp hs np => ?_⟩)
          rw [sortI_uniq hp hs]
          exact h.newL sub t (repL_ints _) np
        · cases e
      · cases e
  | dct x y =>
    obtain ⟨ks, e1, h64, rfl⟩ := keySort_eq (show keySortD _ = some d from e)
    refine .inr (.inr ⟨_, _, ks, rfl, .inr ⟨_, sub _ _ x⟩, y.keyS e1, h64, fun ys p hp hs np => ?_⟩)
    rw [sortS_uniq hp hs]
    exact h.newL sub t (repL_strs _) np
  | _ => cases e
/-! ### dict(..) -/
theorem pairD_eq {d : D} {p : Ky × D} (h : pairD d = some p) : ∃ k v, d = .tup [k, v] ∧ keyD k = some p.1 ∧ v = p.2 := by
  unfold pairD at h
  split at h
  · obtain ⟨k, e, rfl⟩ := Option.map_eq_some_iff.mp h
    exact ⟨_, _, rfl, e, rfl⟩
  · cases h
theorem RepL.pairs {Sh H : Hp} (sub : Same Sh H) : ∀ {ds : List D} {vs : List V} {ps : List (Ky × D)}, RepL Z Sh ds vs → pairsD ds = some ps → ∃ (as : List Addr) (kvs : List (Key × V)), vs = as.map V.ref ∧ Paired (fun p kv => SqT Z.K H p [kV kv.1, kv.2]) as kvs ∧ RepK Z Sh ps kvs
  | _, _, _, .nil, e => by
    rw [pairsD] at e
    cases e
    exact ⟨[], [], rfl, Paired.nil, .nil⟩
  | _, _, _, .cons x y, e => by
    rw [pairsD] at e
    obtain ⟨p, e1, e2⟩ := Option.bind_eq_some_iff.mp e
    obtain ⟨qs, e3, rfl⟩ := Option.map_eq_some_iff.mp e2
    obtain ⟨as, kvs, rfl, pr, rk⟩ := y.pairs sub e3
    obtain ⟨k, v, rfl, kk, rfl⟩ := pairD_eq e1
    cases x with
    | tup x1 y1 =>
      cases y1 with
      | cons a1 b1 =>
        cases b1 with
        | cons a2 b2 =>
          cases b2
          have hk := a1.key kk
          subst hk
          obtain ⟨pk, pv⟩ := p
          exact ⟨_ :: as, (pk, _) :: kvs, rfl, Paired.cons (seqT sub x1) pr, .cons a2 rk⟩
theorem RepK.any {h : Hp} {k : Key} : ∀ {ds : List (Key × D)} {vs : List (Key × V)}, RepK Z h ds vs → (ds.any fun kv => decide (kv.1 = k)) = vs.any fun kv => decide (kv.1 = k)
  | _, _, .nil => rfl
  | _, _, .cons x y => by
    rw [List.any_cons, List.any_cons, RepK.any y]
theorem RepK.app {h : Hp} : ∀ {ds es : List (Key × D)} {vs us : List (Key × V)}, RepK Z h ds vs → RepK Z h es us → RepK Z h (ds ++ es) (vs ++ us)
  | _, _, _, _, .nil, y => y
  | _, _, _, _, .cons a b, y => .cons a (b.app y)
theorem RepK.upd {h : Hp} {k : Key} {d : D} {v : V} (r : Rep Z h d v) : ∀ {ds : List (Key × D)} {vs : List (Key × V)}, RepK Z h ds vs → RepK Z h (ds.map fun kv => if kv.1 = k then (kv.1, d) else kv) (vs.map fun kv => if kv.1 = k then (kv.1, v) else kv)
  | _, _, .nil => .nil
  | _, _, .cons (k := j) x y => by
    rw [List.map_cons, List.map_cons]
    by_cases q : j = k
    · rw [if_pos q, if_pos q]
      exact .cons r (RepK.upd r y)
    · rw [if_neg q, if_neg q]
      exact .cons x (RepK.upd r y)
theorem RepK.put {h : Hp} {k : Key} {d : D} {v : V} {ds : List (Key × D)} {vs : List (Key × V)} (x : RepK Z h ds vs) (r : Rep Z h d v) : RepK Z h (FR.putK ds k d) (L2.putK vs k v) := by
  unfold FR.putK L2.putK
  rw [x.any]
  split
  · exact RepK.upd r x
  · exact x.app (.cons r .nil)
theorem RepK.merge {h : Hp} : ∀ {ps : List (Key × D)} {qs : List (Key × V)} {ds : List (Key × D)} {vs : List (Key × V)}, RepK Z h ds vs → RepK Z h ps qs → RepK Z h (FR.mergeK ds ps) (L2.mergeK vs qs)
  | _, _, _, _, x, .nil => x
  | _, _, ds, vs, x, .cons (k := k) (d := d) (v := v) (ds := ps) (vs := qs) r y => by
    show RepK Z h (FR.mergeK (FR.putK ds k d) ps) (L2.mergeK (L2.putK vs k v) qs)
    exact RepK.merge (x.put r) y
theorem RepK.drop {h : Hp} {k : Key} : ∀ {ds : List (Key × D)} {vs : List (Key × V)}, RepK Z h ds vs → RepK Z h (FR.dropK ds k) (L2.dropK vs k)
  | _, _, .nil => .nil
  | _, _, .cons (k := j) x y => by
    unfold FR.dropK L2.dropK
    rw [List.filter_cons, List.filter_cons]
    by_cases q : j = k
    · have e : decide (j ≠ k) = false := by simp [q]
      rw [if_neg (by rw [e]; exact Bool.false_ne_true), if_neg (by rw [e]; exact Bool.false_ne_true)]
      exact RepK.drop y
    · have e : decide (j ≠ k) = true := by simp [q]
      rw [if_pos e, if_pos e]
      exact .cons x (RepK.drop y)
/-- a new dict, locked at once -/
theorem EvX.newD {σ : L2.St} {H Sh : Hp} {s : S} {ds : List (Key × D)} {vs : List (Key × V)} {Q : VK} {p : Addr} (h : EvX Z W (Rep Z) (some (.ok (.dct ds), s)) σ H Sh Q) (sub : Same Sh H) (t : TownOk Z H Sh s) (r : RepK Z Sh ds vs) (hp : H p = none) :
    lkP Q (.ref p) (upd H p (.dK vs)) := .inr ⟨p, _, upd_same, trivial, fun od => by
  have e : L2.upd (L2.upd H p (.dK vs)) p (.frz od (.dK vs)) = L2.upd H p (.frz od (.dK vs)) := by
    funext b
    by_cases q : b = p
    · subst q
      rw [upd_same, upd_same]
    · rw [upd_ne q, upd_ne q, upd_ne q]
  rw [e]
  exact h (.ref p) _ (L2.upd Sh p (.frz od (.dK vs))) (Ext.alloc sub t hp _) (.dct upd_same (r.mono (same_fresh (same_none sub hp))))⟩
abbrev rDictP (K : PySem.W.Frag) : List V → Hp → VK → Prop := fun xs H Q => ∃ (a : Addr) (ps : List Addr) (kvs : List (Key × V)), xs = [.ref a] ∧ SqL K H a (ps.map V.ref) ∧ Paired (fun p kv => SqT K H p [kV kv.1, kv.2]) ps kvs ∧ ∀ p, H p = none → Q (.ref p) (upd H p (.dK (L2.mergeK [] kvs)))
abbrev rDictD : List V → Hp → VK → Prop := fun xs H Q => ∃ (a : Addr) (kvs : List (Key × V)), xs = [.ref a] ∧ Rd H a (.dK kvs) ∧ ∀ p, H p = none → Q (.ref p) (upd H p (.dK kvs))
theorem rc_dict : RC Z W (fun xs H Q => rDictP Z.K xs H (lkP Q) ∨ rDictD xs H (lkP Q)) (bifD .dict) := rc1 fun v d1 d σ H Sh s Q sub t r e h => by
  cases r with
  | lst x y =>
    obtain ⟨ps, e1, e2⟩ := Option.bind_eq_some_iff.mp (show (pairsD _).bind _ = some d from e)
    split at e2
    · cases e2
      obtain ⟨as, kvs, rfl, pr, rk⟩ := y.pairs sub e1
      exact .inl ⟨_, as, kvs, rfl, SqL.of (sub _ _ x), pr, fun p hp => h.newD sub t (RepK.merge .nil rk) hp⟩
    · cases e2
  | dct x y =>
    cases e
    exact .inr ⟨_, _, rfl, .inr ⟨_, sub _ _ x⟩, fun p hp => h.newD sub t y hp⟩
  | _ => cases e
theorem minL_mem : ∀ {ns : List Int}, ns ≠ [] → minL ns ∈ ns ∧ ∀ y ∈ ns, minL ns ≤ y
  | [], h => absurd rfl h
  | [i], _ => ⟨List.mem_cons_self, fun y hy => by cases List.mem_singleton.mp hy; exact Int.le_refl _⟩
  | i :: j :: r, _ => by
    obtain ⟨h1, h2⟩ := minL_mem (ns := j :: r) (by simp)
    show min i (minL (j :: r)) ∈ _ ∧ ∀ y ∈ _, min i (minL (j :: r)) ≤ y
    generalize minL (j :: r) = m at h1 h2
    refine ⟨?_, fun y hy => ?_⟩
    · by_cases q : i ≤ m
      · rw [Int.min_eq_left q]
        exact List.mem_cons_self
      · rw [Int.min_eq_right (by omega)]
        exact List.mem_cons_of_mem _ h1
    · rcases List.mem_cons.mp hy with z | z
      · rw [z]
        exact Int.min_le_left _ _
      · exact Int.le_trans (Int.min_le_right _ _) (h2 y z)
theorem rc_min1 : RC Z W (rMin Z.K) (bifD .min1) := rc1 fun v d1 d σ H Sh s Q sub t r e h => by
  cases r with
  | lst x y =>
    obtain ⟨ns, e1, e2⟩ := Option.bind_eq_some_iff.mp (show (intsD _).bind _ = some d from e)
    split at e2
    · cases e2
    · rename_i ne
      cases e2
      obtain ⟨m1, m2⟩ := minL_mem ne
      refine ⟨_, ns, rfl, ?_, List.length_pos_iff.mpr ne, fun m hm hl => ?_⟩
      · rw [← y.ints e1]
        exact SqL.of (sub _ _ x)
      · have : m = minL ns := Int.le_antisymm (hl _ m1) (m2 m hm)
        rw [this]
        exact h.here sub t (.int _)
  | _ => cases e
theorem rc_max2 : RC Z W (fun xs H Q => ∃ i j, xs = [.int i, .int j] ∧ Q (.int (if j > i then j else i)) H) (bifD .max2) := rc2 fun v u d1 d2 d σ H Sh s Q sub t r1 r2 e h => by
  cases r1 with
  | int i =>
    cases r2 with
    | int j =>
      cases e
      exact ⟨i, j, rfl, h.here sub t (.int _)⟩
    | _ => cases e
  | _ => cases e
theorem rc_min2 : RC Z W (fun xs H Q => ∃ i j, xs = [.int i, .int j] ∧ Q (.int (if j < i then j else i)) H) (bifD .min2) := rc2 fun v u d1 d2 d σ H Sh s Q sub t r1 r2 e h => by
  cases r1 with
  | int i =>
    cases r2 with
    | int j =>
      cases e
      exact ⟨i, j, rfl, h.here sub t (.int _)⟩
    | _ => cases e
  | _ => cases e

/-! ### isinstance -/
def tyN : Ty → String
  | .int => "int" | .bool => "bool" | .tuple => "tuple" | .list => "list" | .str => "str" | .dict => "dict" | _ => "ValueError"
def tyD : D → Option String
  | .non => some "NoneType" | .bl _ => some "bool" | .int _ => some "int" | .str _ => some "str" | .tup _ => some "tuple" | .lst _ => some "list" | .dct _ => some "dict" | _ => none
theorem Rep.tyX {H Sh : Hp} {d : D} {v : V} {n : String} (r : Rep Z Sh d v) (sub : Same Sh H) (h : tyD d = some n) : TyX Z.K H v (.type n) := by
  cases r with
  | non => cases h; exact .base .non
  | bl b => cases h; exact .base (.bl b)
  | int b => cases h; exact .base (.int b)
  | str b => cases h; exact .base (.str b)
  | tup x y =>
    cases h
    rcases x with (x | ⟨o, x⟩) | ⟨o, its, n, x, c, _⟩
    · exact .base (.tup (sub _ _ x))
    · exact .fTuple (sub _ _ x)
    · exact .kTuple x c
  | lst x y => cases h; exact .base (.lst (sub _ _ x))
  | dct x y => cases h; exact .fDict (sub _ _ x)
  | _ => cases h
end
end FR
/-! FrSnd5: slots stored, what is walked, comprehensions. -/
namespace FR
open PySem PySem.Spec PyProof.Rows L2

/-! ### storing -/
def setV : L2.St → List Nat → List V → L2.St
  | σ, i :: is, v :: vs => setV (σ.set i (some v)) is vs
  | σ, _, _ => σ
theorem setV_len : ∀ (is : List Nat) (vs : List V) (σ : L2.St), (setV σ is vs).length = σ.length
  | [], _, _ => rfl
  | _ :: _, [], _ => rfl
  | i :: is, v :: vs, σ => by
    rw [setV, setV_len is vs, List.length_set]
theorem setV_out : ∀ (is : List Nat) (vs : List V) (σ : L2.St) (j : Nat), j ∉ is → (setV σ is vs)[j]? = σ[j]?
  | [], _, _, _, _ => rfl
  | _ :: _, [], _, _, _ => rfl
  | i :: is, v :: vs, σ, j, h => by
    rw [setV, setV_out is vs _ j fun z => h (List.mem_cons_of_mem _ z), List.getElem?_set_ne]
    intro z
    exact h (z ▸ List.mem_cons_self)
theorem setV_ext : ∀ (is : List Nat) (vs : List V) (σ τ : L2.St), is.length = vs.length → σ.length = τ.length → (∀ j, j ∉ is → σ[j]? = τ[j]?) → setV σ is vs = setV τ is vs
  | [], [], σ, τ, _, hl, h => by
    show σ = τ
    exact List.ext_getElem? fun j => h j (by simp)
  | i :: is, v :: vs, σ, τ, hn, hl, h => by
    rw [setV, setV]
    refine setV_ext is vs _ _ (Nat.succ.inj hn) (by rw [List.length_set, List.length_set, hl]) fun j hj => ?_
    by_cases e : j = i
    · subst e
      rw [List.getElem?_set, List.getElem?_set, if_pos rfl, if_pos rfl, hl]
    · rw [List.getElem?_set_ne (Ne.symm e), List.getElem?_set_ne (Ne.symm e)]
      refine h j fun z => ?_
      rcases List.mem_cons.mp z with z | z
      · exact e z
      · exact hj z
  | [], _ :: _, _, _, hn, _, _ => by cases hn
  | _ :: _, [], _, _, hn, _, _ => by cases hn
theorem wipe_out (σ : L2.St) : ∀ (vs : List Nat) (j : Nat), j ∉ vs → (wipe σ vs)[j]? = σ[j]?
  | [], _, _ => rfl
  | v :: vs, j, h => by
    rw [wipe, List.getElem?_set_ne, wipe_out σ vs j fun z => h (List.mem_cons_of_mem _ z)]
    intro z
    exact h (z ▸ List.mem_cons_self)
theorem wipe_in {σ : L2.St} : ∀ (vs : List Nat) (j : Nat), j ∈ vs → j < σ.length → (wipe σ vs)[j]? = some none
  | v :: vs, j, h, hl => by
    rw [wipe]
    by_cases e : v = j
    · subst e
      rw [List.getElem?_set_self (by rw [wipe_length]; exact hl)]
    · rw [List.getElem?_set_ne e]
      rcases List.mem_cons.mp h with z | z
      · exact absurd z.symm e
      · exact wipe_in vs j z hl
theorem wipe_ext {σ τ : L2.St} (vs : List Nat) (hl : σ.length = τ.length) (h : ∀ j, j ∉ vs → σ[j]? = τ[j]?) : wipe σ vs = wipe τ vs := List.ext_getElem? fun j => by
  by_cases hj : j ∈ vs
  · by_cases hlt : j < σ.length
    · rw [wipe_in vs j hj hlt, wipe_in vs j hj (hl ▸ hlt)]
    · rw [List.getElem?_eq_none_iff.mpr (by rw [wipe_length]; omega), List.getElem?_eq_none_iff.mpr (by rw [wipe_length]; omega)]
  · rw [wipe_out σ vs j hj, wipe_out τ vs j hj, h j hj]
theorem setV_wipe {σ : L2.St} {is : List Nat} {vs : List V} (h : is.length = vs.length) : setV (wipe σ is) is vs = setV σ is vs :=
  setV_ext is vs _ _ h (wipe_length _ _) fun j hj => wipe_out σ is j hj
theorem wipe_setV {σ : L2.St} {is : List Nat} {vs : List V} : wipe (setV σ is vs) is = wipe σ is := wipe_ext is (setV_len is vs σ) fun j hj => setV_out is vs σ j hj

section
variable {Z : Gd} {H0 : Ent} {H Sh : Hp} {σ : L2.St} {g : G} {s : S}
theorem Ok.set (k : Ok Z H0 σ g H Sh s) {d : D} {v : V} (r : Rep Z Sh d v) (i : Nat) : Ok Z H0 (σ.set i (some v)) (g.set i (.dat d)) H Sh s where
  ent := k.ent
  len := by rw [List.length_set, List.length_set, k.len]
  slot := fun j x o e1 e2 => by
    by_cases e : j = i
    · subst e
      have hl : j < g.length := by
        have := (List.getElem?_eq_some_iff.mp e1).1
        rwa [List.length_set] at this
      rw [List.getElem?_set_self hl] at e1
      rw [List.getElem?_set_self (by rw [k.len]; exact hl)] at e2
      cases e1
      cases e2
      exact ⟨v, rfl, r⟩
    · rw [List.getElem?_set_ne (Ne.symm e)] at e1 e2
      exact k.slot j x o e1 e2
  dist := fun a b x y o e1 e2 h1 h2 e3 e4 => by
    have na : ∀ {a : Nat} {x : Sl}, (g.set i (Sl.dat d))[a]? = some x → isOwn x = true → a ≠ i := fun {a x} e h z => by
      subst z
      have hl : a < g.length := by
        have := (List.getElem?_eq_some_iff.mp e).1
        rwa [List.length_set] at this
      rw [List.getElem?_set_self hl] at e
      cases e
      cases h
    have n1 := na e1 h1
    have n2 := na e2 h2
    rw [List.getElem?_set_ne (Ne.symm n1)] at e1 e3
    rw [List.getElem?_set_ne (Ne.symm n2)] at e2 e4
    exact k.dist a b x y o e1 e2 h1 h2 e3 e4
theorem Ok.setAll : ∀ (is : List Nat) {ds : List D} {vs : List V} {σ : L2.St} {g g' : G}, Ok Z H0 σ g H Sh s → RepL Z Sh ds vs → setAll g is ds = some g' → is.length = vs.length ∧ Ok Z H0 (setV σ is vs) g' H Sh s
  | [], _, _, σ, g, g', k, .nil, e => by
    cases e
    exact ⟨rfl, k⟩
  | [], _, _, σ, g, g', k, .cons _ _, e => by cases e
  | i :: is, _, _, σ, g, g', k, .nil, e => by cases e
  | i :: is, _, _, σ, g, g', k, .cons x y, e => by
    obtain ⟨h1, h2⟩ := Ok.setAll is (k.set x i) y e
    exact ⟨by rw [List.length_cons, List.length_cons, h1], h2⟩
end

/-! ### targets -/
def tsl : Tgt → List Nat
  | .nm i => [i]
  | .tp is => is
def gSet (K : PySem.W.Frag) : Tgt → TG
  | .nm i => gName i
  | .tp is => fun v σ H Q => ∃ a xs, v = .ref a ∧ (SqT K H a xs ∨ SqL K H a xs) ∧ xs.length = is.length ∧ Q (setV σ is xs) H
section
variable {Z : Gd} {H0 : Ent} {H Sh : Hp} {σ : L2.St} {g : G} {s : S}
/-- what storing into a target asks, from the evaluator's own storing -/
theorem gSet_of {tg : Tgt} {d : D} {v : V} {g' : G} {Q : L2.St → Hp → Prop} (k : Ok Z H0 σ g H Sh s) (r : Rep Z Sh d v) (e : setT g d tg = some g')
    (q : ∀ vs, (tsl tg).length = vs.length → Ok Z H0 (setV σ (tsl tg) vs) g' H Sh s → Q (setV σ (tsl tg) vs) H) : gSet Z.K tg v σ H Q := by
  cases tg with
  | nm i =>
    cases e
    exact q [v] rfl (k.set r i)
  | tp is =>
    cases r with
    | tup x y =>
      obtain ⟨h1, h2⟩ := k.setAll is y e
      exact ⟨_, _, rfl, .inl (seqT k.sub x), h1.symm, q _ h1 h2⟩
    | lst x y =>
      obtain ⟨h1, h2⟩ := k.setAll is y e
      exact ⟨_, _, rfl, .inr (SqL.of (k.sub _ _ x)), h1.symm, q _ h1 h2⟩
    | _ => cases e
/-- .. where the slots were wiped ahead -/
theorem gSet_wiped {tg : Tgt} {d : D} {v : V} {g' : G} {Q : L2.St → Hp → Prop} (k : Ok Z H0 σ g H Sh s) (r : Rep Z Sh d v) (e : setT g d tg = some g')
    (q : ∀ vs, (tsl tg).length = vs.length → Ok Z H0 (setV σ (tsl tg) vs) g' H Sh s → Q (setV σ (tsl tg) vs) H) : gSet Z.K tg v (wipe σ (tsl tg)) H Q := by
  cases tg with
  | nm i =>
    cases e
    have := q [v] rfl (k.set r i)
    show Q ((wipe σ [i]).set i (some v)) H
    have e2 : (wipe σ [i]).set i (some v) = σ.set i (some v) := by
      show (σ.set i none).set i (some v) = _
      rw [List.set_set]
    rw [e2]
    exact this
  | tp is =>
    cases r with
    | tup x y =>
      obtain ⟨h1, h2⟩ := k.setAll is y e
      refine ⟨_, _, rfl, .inl (seqT k.sub x), h1.symm, ?_⟩
      have q2 : Q (setV σ is _) H := q _ h1 h2
      rw [← setV_wipe (σ := σ) h1] at q2
      exact q2
    | lst x y =>
      obtain ⟨h1, h2⟩ := k.setAll is y e
      refine ⟨_, _, rfl, .inr (SqL.of (k.sub _ _ x)), h1.symm, ?_⟩
      have q2 : Q (setV σ is _) H := q _ h1 h2
      rw [← setV_wipe (σ := σ) h1] at q2
      exact q2
    | _ => cases e
end

/-! ### what is walked -/
def Walks (Z : Gd) (J : It) (ds : List D) (Sh : Hp) : Prop := ∀ H : Hp, Same Sh H →
  (∀ (i : Nat) (d : D), ds[i]? = some d → J.go i H ∧ ∀ x H3, J.yld i H x H3 → H3 = H ∧ Rep Z Sh d x) ∧ ∀ i, ds.length ≤ i → J.stop i H
section
variable {Z : Gd} {Sh : Hp}
theorem walks_list {a : Addr} {vs : List V} {ds : List D} (h : Sh a = some (.lst vs)) (r : RepL Z Sh ds vs) : Walks Z (Itl Z.K a) ds Sh := fun H sub => by
  have hq : SqL Z.K H a vs := SqL.of (sub _ _ h)
  refine ⟨fun i d e => ?_, fun i hi => ⟨vs, hq, by rw [← r.length]; exact hi⟩⟩
  obtain ⟨v, e1, q⟩ := r.get e
  refine ⟨⟨vs, v, hq, e1⟩, fun x H3 y => ⟨y.1, ?_⟩⟩
  have e2 := y.2 vs hq
  rw [e1] at e2
  cases e2
  exact q
theorem walks_tup {a : Addr} {vs : List V} {ds : List D} (h : SqT Z.K Sh a vs) (r : RepL Z Sh ds vs) : Walks Z (Itt Z.K a) ds Sh := fun H sub => by
  have hq : SqT Z.K H a vs := seqT sub h
  refine ⟨fun i d e => ?_, fun i hi => ⟨vs, hq, by rw [← r.length]; exact hi⟩⟩
  obtain ⟨v, e1, q⟩ := r.get e
  refine ⟨⟨vs, v, hq, e1⟩, fun x H3 y => ⟨y.1, ?_⟩⟩
  have e2 := y.2 vs hq
  rw [e1] at e2
  cases e2
  exact q
theorem walks_str {x : Str} : Walks Z (Its x) (signsD x) Sh := fun H sub => by
  refine ⟨fun i d e => ?_, fun i hi => ?_⟩
  · unfold signsD at e
    rw [List.getElem?_map] at e
    obtain ⟨c, e1, rfl⟩ := Option.map_eq_some_iff.mp e
    have e2 : x.cps[i]? = some c := by rw [← Array.getElem?_toList]; exact e1
    refine ⟨(Array.getElem?_eq_some_iff.mp e2).1, fun v H3 y => ⟨y.1, ?_⟩⟩
    obtain ⟨c', e3, rfl⟩ := y.2
    rw [e2] at e3
    cases e3
    exact .str _
  · unfold signsD at hi
    rw [List.length_map, Array.length_toList] at hi
    exact hi
theorem RepK.at {h : Hp} : ∀ {ds : List (Key × D)} {vs : List (Key × V)} {i : Nat} {p : Key × D}, RepK Z h ds vs → ds[i]? = some p → ∃ v, vs[i]? = some (p.1, v)
  | _, _, _, _, .nil, e => by simp at e
  | _, _, 0, _, .cons x y, e => by
    cases e
    exact ⟨_, rfl⟩
  | _, _, i + 1, _, .cons x y, e => RepK.at y (i := i) (by simpa using e)
theorem rep_ky {h : Hp} : ∀ k : Key, Rep Z h (Ky.d k) (kV k)
  | .inl i => .int i
  | .inr x => .str x
theorem walks_keys {a : Addr} {o : Obj} {vs : List (Key × V)} {ds : List (Key × D)} (h : Sh a = some (.frz o (.dK vs))) (r : RepK Z Sh ds vs) : Walks Z (Itk a o vs) (ds.map fun kv => Ky.d kv.1) Sh := fun H sub => by
  refine ⟨fun i d e => ?_, fun i hi => ?_⟩
  · rw [List.getElem?_map] at e
    obtain ⟨p, e1, rfl⟩ := Option.map_eq_some_iff.mp e
    obtain ⟨v, e2⟩ := r.at e1
    refine ⟨⟨sub _ _ h, (List.getElem?_eq_some_iff.mp e2).1⟩, fun x H3 y => ⟨y.1, ?_⟩⟩
    obtain ⟨k, v', e3, rfl⟩ := y.2
    rw [e2] at e3
    cases e3
    exact rep_ky _
  · rw [List.length_map] at hi
    refine ⟨sub _ _ h, ?_⟩
    rw [← r.length]
    exact hi
theorem walks_keysN {a : Addr} {o : Obj} {vs : List (Key × V)} {v : V} {ds : List (Key × D)} (h : Sh a = some (.frz o (NDc Z.w a vs v))) (r : RepK Z Sh ds vs) : Walks Z (Itn Z.w a o vs v) ((ds.map fun kv => Ky.d kv.1) ++ [.non]) Sh := fun H sub => by
  refine ⟨fun i d e => ?_, fun i hi => ?_⟩
  · by_cases hi : i < ds.length
    · rw [List.getElem?_append_left (by rw [List.length_map]; exact hi), List.getElem?_map] at e
      obtain ⟨p, e1, rfl⟩ := Option.map_eq_some_iff.mp e
      obtain ⟨v', e2⟩ := r.at e1
      refine ⟨⟨sub _ _ h, by rw [← r.length]; omega⟩, fun x H3 y => ⟨y.1, ?_⟩⟩
      have y2 := y.2
      unfold nKV at y2
      rw [List.getElem?_append_left (by rw [List.length_map, ← r.length]; exact hi), List.getElem?_map, e2] at y2
      cases y2
      exact rep_ky _
    · have hl := (List.getElem?_eq_some_iff.mp e).1
      rw [List.length_append, List.length_map] at hl
      have e3 : i = ds.length := by simp at hl; omega
      rw [List.getElem?_append_right (by rw [List.length_map]; omega), List.length_map, e3, Nat.sub_self] at e
      cases e
      refine ⟨⟨sub _ _ h, by rw [← r.length]; omega⟩, fun x H3 y => ⟨y.1, ?_⟩⟩
      have y2 := y.2
      unfold nKV at y2
      rw [List.getElem?_append_right (by rw [List.length_map, ← r.length]; omega), List.length_map, ← r.length, e3, Nat.sub_self] at y2
      cases y2
      exact .non
  · rw [List.length_append, List.length_map] at hi
    refine ⟨sub _ _ h, ?_⟩
    rw [← r.length]
    simp at hi
    exact hi
theorem walks_range {lo hi : Int} : Walks Z (Itr lo (hi - lo).toNat) (rangeD lo hi) Sh := fun H sub => by
  refine ⟨fun i d e => ?_, fun i hi => ?_⟩
  · unfold rangeD at e
    rw [List.getElem?_map] at e
    obtain ⟨j, e1, rfl⟩ := Option.map_eq_some_iff.mp e
    obtain ⟨h1, h2⟩ := List.getElem?_eq_some_iff.mp e1
    rw [List.getElem_range] at h2
    subst h2
    rw [List.length_range] at h1
    refine ⟨h1, fun x H3 y => ⟨y.1, ?_⟩⟩
    rw [y.2]
    exact .int _
  · unfold rangeD at hi
    rw [List.length_map, List.length_range] at hi
    exact hi
end

section
variable (Z : Gd) (W : WX) (H0 : Ent)
def EvI (o : EV D) (σ : L2.St) (H Sh : Hp) (R : It → Hp → Prop) : Prop := match o with
  | some (.ok d, s) => ∃ ds, itemsD d = some ds ∧ ∀ (J : It) (H' Sh' : Hp), Ext Z H Sh H' Sh' s → Walks Z J ds Sh' → R J H'
  | some (.exn c, s) => ∀ (H' Sh' : Hp), Ext Z H Sh H' Sh' s → W (.ref (Z.cA c)) none σ H'
  | none => False
def tI (ev : G → S → EV D) : TI := fun σ H R => ∃ (g : G) (s : S) (Sh : Hp), Ok Z H0 σ g H Sh s ∧ EvI Z W (ev g s) σ H Sh R
end
section
variable {Z : Gd} {W : WX} {H0 : Ent} {X : Cx} {pos : Pos} {tg a b c e iter : Expr} {es : List Expr} {ea eb ec : G → S → EV D}
theorem sIter (hk : X.K = Z.K) (h : PE X iter (tV Z W H0 ea)) : PI X tg iter (tI Z W H0 ea) := by
  refine ⟨fun pins s σ H R I q => ?_⟩
  obtain ⟨g, s0, Sh, ok, q⟩ := q
  cases e0 : ea g s0 with
  | none =>
    unfold EvI at q
    rw [e0] at q
    exact q.elim
  | some p =>
    obtain ⟨r, s1⟩ := p
    unfold EvI at q
    rw [e0] at q
    cases r with
    | exn x =>
      refine (pi_list (tg := tg) h).run pins s σ H R I ⟨g, s0, Sh, ok, ?_⟩
      unfold EvX
      rw [e0]
      exact q
    | ok d =>
      obtain ⟨ds, e1, q⟩ := q
      cases d with
      | lst xs =>
        cases e1
        refine (pi_list (tg := tg) h).run pins s σ H R I ⟨g, s0, Sh, ok, ?_⟩
        unfold EvX
        rw [e0]
        intro v H' Sh' x r
        cases r with
        | lst x1 y1 =>
          rw [hk]
          exact ⟨_, rfl, ⟨_, SqL.of (x.sub _ _ x1)⟩, q _ H' Sh' x (walks_list x1 y1)⟩
      | tup xs =>
        cases e1
        refine (pi_tup (tg := tg) h).run pins s σ H R I ⟨g, s0, Sh, ok, ?_⟩
        unfold EvX
        rw [e0]
        intro v H' Sh' x r
        cases r with
        | tup x1 y1 =>
          rw [hk]
          exact ⟨_, rfl, ⟨_, seqT x.sub x1⟩, q _ H' Sh' x (walks_tup x1 y1)⟩
      | str z =>
        change (if z.length ≤ 1000 then some (signsD z) else none) = some ds at e1
        split at e1
        · cases e1
          refine (pi_str (tg := tg) h).run pins s σ H R I ⟨g, s0, Sh, ok, ?_⟩
          unfold EvX
          rw [e0]
          intro v H' Sh' x r
          cases r
          exact ⟨_, rfl, q _ H' Sh' x walks_str⟩
        · cases e1
      | _ => cases e1
def evRng (ea eb : G → S → EV D) : G → S → EV D := fun g s => rb (ea g s) fun x s => rb (eb g s) fun y s => rp ((rngD x y).map D.lst) s
theorem EvI.bind {o : EV D} {f : D → S → EV D} {σ : L2.St} {H Sh : Hp} {R : It → Hp → Prop} {Q : VK} (h : EvI Z W (rb o f) σ H Sh R) (k : ∀ d s' v H' Sh', Ext Z H Sh H' Sh' s' → Rep Z Sh' d v → EvI Z W (f d s') σ H' Sh' R → Q v H') : EvX Z W (Rep Z) o σ H Sh Q := by
  unfold EvX
  cases o with
  | none => exact h
  | some p =>
    obtain ⟨r, s1⟩ := p
    cases r with
    | exn c => exact h
    | ok a =>
      intro v H' Sh' e r
      refine k a s1 v H' Sh' e r ?_
      rw [rb_ok] at h
      unfold EvI at h ⊢
      cases q : f a s1 with
      | none =>
        rw [q] at h
        exact h
      | some p =>
        obtain ⟨r2, s2⟩ := p
        rw [q] at h
        cases r2 with
        | exn c => exact fun H2 Sh2 e2 => h H2 Sh2 (e.trans e2)
        | ok d =>
          obtain ⟨ds, e1, h⟩ := h
          exact ⟨ds, e1, fun J H2 Sh2 e2 r2 => h J H2 Sh2 (e.trans e2) r2⟩
theorem EvI.rp {x y : D} {s : S} {σ : L2.St} {H Sh : Hp} {R : It → Hp → Prop} (h : EvI Z W (rp ((rngD x y).map D.lst) s) σ H Sh R) : ∃ i j : Int, x = .int i ∧ y = .int j ∧ i.natAbs ≤ SZ ∧ j.natAbs ≤ SZ ∧ ∀ (J : It) (H' Sh' : Hp), Ext Z H Sh H' Sh' s → Walks Z J (rangeD i j) Sh' → R J H' := by
  cases q : rngD x y with
  | none =>
    rw [q] at h
    exact h.elim
  | some ds =>
    rw [q] at h
    obtain ⟨ds', e1, h⟩ := h
    cases e1
    unfold rngD at q
    split at q
    · split at q
      · rename_i hl
        cases q
        exact ⟨_, _, rfl, rfl, hl.1, hl.2, h⟩
      · cases q
    · cases q
theorem sz62 {i : Int} (h : i.natAbs ≤ SZ) : -(2 ^ 62) ≤ i ∧ i < 2 ^ 62 := by
  have h2 : (SZ : Int) < 2 ^ 62 := by decide
  omega
theorem sRng2 {p : Pos} (hg : Gl X "range") (hm : X.mg "range" = none) (na : notStar a = true) (nb : notStar b = true) (ha : PE X a (tV Z W H0 ea)) (hb : PE X b (tV Z W H0 eb)) :
    PI X tg (.Call (.Name "range" p) [a, b] [] pos) (tI Z W H0 (evRng ea eb)) := by
  refine ⟨fun pins s σ H R I q => ?_⟩
  refine (pi_range2 (tg := tg) hg hm (pa_cons ha (pa_cons hb pa_nil (star1 nb _)) (star1 na _)) (by rw [star1 na, star1 nb]; rfl) (by rw [star1 nb]; rfl)).run pins s σ H R I ?_
  obtain ⟨g, s0, Sh, ok, q⟩ := q
  refine ⟨g, s0, Sh, ok, EvI.bind q fun x s1 v H1 Sh1 e1 q1 h => ⟨g, s1, Sh1, ok.ext e1, EvI.bind h fun y s2 u H2 Sh2 e2 q2 h => ?_⟩⟩
  obtain ⟨i, j, rfl, rfl, h1, h2, q3⟩ := h.rp
  cases q1
  cases q2
  exact ⟨i, j, rfl, ⟨(sz62 h1).1, (sz62 h1).2, (sz62 h2).1, (sz62 h2).2⟩, q3 _ H2 Sh2 (Ext.refl e2.sub e2.town) walks_range⟩
theorem sRng1 {p : Pos} (hg : Gl X "range") (hm : X.mg "range" = none) (na : notStar a = true) (ha : PE X a (tV Z W H0 ea)) :
    PI X tg (.Call (.Name "range" p) [a] [] pos) (tI Z W H0 (evRng (fun _ s => some (.ok (.int 0), s)) ea)) := by
  refine ⟨fun pins s σ H R I q => ?_⟩
  refine (pi_range1 (tg := tg) hg hm (pa_cons ha pa_nil (star1 na _)) (by rw [star1 na]; rfl)).run pins s σ H R I ?_
  obtain ⟨g, s0, Sh, ok, q⟩ := q
  refine ⟨g, s0, Sh, ok, EvI.bind (o := ea g s0) q fun y s2 u H2 Sh2 e2 q2 h => ?_⟩
  obtain ⟨i, j, h0, rfl, h1, h2, q3⟩ := h.rp
  cases h0
  cases q2
  refine ⟨j, rfl, (sz62 h2).1, (sz62 h2).2, ?_⟩
  have w := q3 (Itr 0 (j - 0).toNat) H2 Sh2 (Ext.refl e2.sub e2.town) walks_range
  rw [Int.sub_zero] at w
  exact w

/-! ### comprehensions -/
/-- what d.keys() holds, walked -/
def evKeys (ea : G → S → EV D) : G → S → EV D := fun g s => rb (ea g s) fun x s => rp ((keysD x).map D.lst) s
theorem sKeys {ap cp : Pos} (hw : X.w = Z.w) (he : PE X e (tV Z W H0 ea)) (hb : attributeBase e "keys" X.env (eval e X.env) = eval e X.env) (hl : (ap.endLine == cp.line) = true) : PI X tg (.Call (.Attribute e "keys" ap) [] [] cp) (tI Z W H0 (evKeys ea)) :=
  ⟨fun pins s σ H R I q => by
    obtain ⟨g, s0, Sh, ok, q⟩ := q
    refine (pi_keysB (tg := tg) he hb hl).run pins s σ H R I ⟨g, s0, Sh, ok, EvI.bind q fun d s1 v H' Sh' x r k => ?_⟩
    cases r with
    | dct x1 y1 =>
      obtain ⟨ds, e1, k⟩ := k
      cases e1
      exact .inl ⟨_, _, _, rfl, x.sub _ _ x1, k _ H' Sh' (Ext.refl x.sub x.town) (walks_keys x1 y1)⟩
    | ndc x1 y1 z1 =>
      obtain ⟨ds, e1, k⟩ := k
      cases e1
      rw [hw]
      exact .inr ⟨_, _, _, _, rfl, x.sub _ _ x1, k _ H' Sh' (Ext.refl x.sub x.town) (walks_keysN x1 y1)⟩
    | _ => exact k.elim⟩
abbrev W0 : WX := fun _ _ _ _ => False
def evTurn (tg : Tgt) (ti : G → S → EV Bool) (ee : G → S → EV D) (g : G) (d : D) (s : S) : EV (Option D) := match setT g d tg with
  | none => none
  | some g1 => rb (ti g1 s) fun t s => if t then rb (ee g1 s) fun e s => some (.ok (some e), s) else some (.ok none, s)
def evComp (ei : G → S → EV D) (tg : Tgt) (ti : G → S → EV Bool) (ee : G → S → EV D) : G → S → EV D := fun g s =>
  rb (ei g s) fun x s => rb (rp (itemsD x) s) fun ds s => rb (compL (evTurn tg ti ee g) ds s) fun es s => if es.length ≤ SZ then some (.ok (.lst es), s) else none
theorem compL_ok {f : D → S → EV (Option D)} : ∀ {ds : List D} {s : S} {r : R (List D) × S}, compL f ds s = some r → ∃ es s', r = (.ok es, s')
  | [], s, r, h => by
    cases h
    exact ⟨_, _, rfl⟩
  | d :: ds, s, r, h => by
    rw [compL] at h
    split at h
    · exact compL_ok h
    · rename_i e s1 q
      cases q2 : compL f ds s1 with
      | none =>
        rw [q2] at h
        cases h
      | some r2 =>
        obtain ⟨es, s2, rfl⟩ := compL_ok q2
        rw [q2] at h
        cases h
        exact ⟨_, _, rfl⟩
    · cases h
theorem Ext.putD {H1 Sh1 H Sh : Hp} {s s1 : S} {p : Addr} {o : HO} (e : Ext Z H1 Sh1 H Sh s) (t : TownOk Z H1 Sh1 s1) (hp : H1 p = none) (hs : Sh p = none) : Ext Z H1 Sh1 (upd H p o) Sh s where
  frame := fun a x h q => by
    rw [upd_ne (ne_of_none q hp)]
    exact e.frame a x h q
  shs := e.shs
  sub := fun a x q => by
    rw [upd_ne (ne_of_none q hs)]
    exact e.sub a x q
  town := by
    have t2 := e.town
    unfold TownOk at t2 ⊢
    split at t2
    · trivial
    · rename_i x a n e1
      have h : a ≠ p := fun z => by
        subst z
        obtain ⟨_, _, _, h3⟩ := t.there e1
        rw [hp] at h3
        cases h3
      rw [upd_ne h]
      exact t2
    · exact t2
  new := e.new
theorem fComp {tge elt : Expr} {ifs : List Expr} {scope : Scope} {own : List (Str × Nat)} {tgt : Tgt} {ei ee : G → S → EV D} {ti : G → S → EV Bool} (hk : X.K = Z.K) (hi : PI X tge iter (tI Z W H0 ei)) (ho : own.map (·.2) = tsl tgt) :
    ∀ σ H Q, tF Z W H0 (evComp ei tgt ti ee) σ H Q → tLc (tI Z W H0 ei) (gSet Z.K tgt) (tB Z W0 H0 ti) (tV Z W0 H0 ee) (own.map (·.2)) σ H Q := by
  intro σ H Q ⟨g, s, Sh, ok, h⟩
  refine ⟨g, s, Sh, ok, ?_⟩
  unfold evComp at h
  cases q0 : ei g s with
  | none =>
    rw [q0] at h
    exact h.elim
  | some p =>
    obtain ⟨r, s1⟩ := p
    rw [q0] at h
    cases r with
    | exn c => exact h
    | ok x =>
      rw [rb_ok] at h
      cases q1 : itemsD x with
      | none =>
        rw [q1] at h
        exact h.elim
      | some ds =>
        rw [q1, rp_some, rb_ok] at h
        refine ⟨ds, q1, fun J H1 Sh1 e1 wk p hp => ?_⟩
        cases q2 : compL (evTurn tgt ti ee g) ds s1 with
        | none =>
          rw [q2] at h
          exact h.elim
        | some r =>
          obtain ⟨es, sE, rfl⟩ := compL_ok q2
          rw [q2, rb_ok] at h
          split at h
          case isFalse => exact h.elim
          rename_i hsz
          have okT := (ok.ext e1).town
          refine ⟨fun i m H2 => m = ds.length - i ∧ i ≤ ds.length ∧ ∃ (Sh2 : Hp) (s2 : S) (acc : List V) (accd rest : List D), Ext Z H1 Sh1 H2 Sh2 s2 ∧ H2 p = some (.lst acc) ∧ Sh2 p = none ∧ RepL Z Sh2 accd acc ∧
              es = accd ++ rest ∧ compL (evTurn tgt ti ee g) (ds.drop i) s2 = some (.ok rest, sE), ⟨ds.length, by simp, Nat.zero_le _, Sh1, s1, [], [], es, (Ext.refl e1.sub e1.town).putD okT hp (same_none e1.sub hp), upd_same, same_none e1.sub hp, .nil, rfl, q2⟩, ?_⟩
          rintro i m H2 ⟨rfl, hi', Sh2, s2, acc, accd, rest, x2, hD, hSD, rA, eE, cL⟩
          obtain ⟨w1, w2⟩ := wk H2 (x2.shs.trans x2.sub)
          by_cases hlt : i < ds.length
          · obtain ⟨go, yl⟩ := w1 i ds[i] (List.getElem?_eq_getElem hlt)
            refine .inr ⟨go, fun H3 => i + 1 ≤ ds.length ∧ ∃ (Sh2 : Hp) (s2 : S) (acc : List V) (accd rest : List D), Ext Z H1 Sh1 H3 Sh2 s2 ∧ H3 p = some (.lst acc) ∧ Sh2 p = none ∧ RepL Z Sh2 accd acc ∧
              es = accd ++ rest ∧ compL (evTurn tgt ti ee g) (ds.drop (i + 1)) s2 = some (.ok rest, sE), fun H3 h3 => ⟨ds.length - (i + 1), by omega, rfl, h3⟩, fun v H3 hy => ?_⟩
            obtain ⟨rfl, rv⟩ := yl v H3 hy
            rw [List.drop_eq_getElem_cons hlt, compL] at cL
            have ok2 : Ok Z H0 σ g H3 Sh2 s2 := (ok.ext e1).ext x2
            cases q3 : setT g ds[i] tgt with
            | none =>
              rw [evTurn, q3] at cL
              cases cL
            | some g1 =>
              rw [evTurn, q3] at cL
              dsimp only at cL
              rw [ho]
              refine gSet_wiped ok2 (rv.mono x2.shs) q3 fun vs hvs ok3 => ⟨wipe_setV, g1, s2, Sh2, ok3, ?_⟩
              cases q4 : ti g1 s2 with
              | none =>
                rw [q4] at cL
                cases cL
              | some p4 =>
                obtain ⟨r4, s4⟩ := p4
                rw [q4] at cL
                cases r4 with
                | exn c => cases cL
                | ok t =>
                  rw [rb_ok] at cL
                  intro t' H4 Sh4 x4 et
                  subst et
                  have hD4 : H4 p = some (.lst acc) := x4.frame p _ (fun z => by
                    obtain ⟨_, _, _, h3⟩ := okT.there z.symm
                    rw [hp] at h3
                    cases h3) hD
                  have hS4 : Sh4 p = none := by
                    cases q : Sh4 p with
                    | none => rfl
                    | some o =>
                      rcases x4.new p o q with z | z
                      · rw [hSD] at z
                        cases z
                      · rw [hD] at z
                        cases z
                  cases t with
                  | false =>
                    rw [if_neg Bool.false_ne_true]
                    exact ⟨hlt, Sh4, s4, acc, accd, rest, x2.trans x4, hD4, hS4, rA.mono x4.shs, eE, cL⟩
                  | true =>
                    rw [if_pos rfl]
                    refine ⟨g1, s4, Sh4, ok3.ext x4, ?_⟩
                    rw [if_pos rfl] at cL
                    cases q5 : ee g1 s4 with
                    | none =>
                      rw [q5] at cL
                      cases cL
                    | some p5 =>
                      obtain ⟨r5, s5⟩ := p5
                      rw [q5] at cL
                      cases r5 with
                      | exn c => cases cL
                      | ok d5 =>
                        rw [rb_ok] at cL
                        dsimp only at cL
                        intro y H5 Sh5 x5 r5
                        cases q6 : compL (evTurn tgt ti ee g) (ds.drop (i + 1)) s5 with
                        | none =>
                          rw [q6] at cL
                          cases cL
                        | some p6 =>
                          obtain ⟨es6, s6, rfl⟩ := compL_ok q6
                          rw [q6, rb_ok] at cL
                          cases cL
                          have hD5 : H5 p = some (.lst acc) := x5.frame p _ (fun z => by
                            obtain ⟨_, _, _, h3⟩ := okT.there z.symm
                            rw [hp] at h3
                            cases h3) hD4
                          have hS5 : Sh5 p = none := by
                            cases q : Sh5 p with
                            | none => rfl
                            | some o =>
                              rcases x5.new p o q with z | z
                              · rw [hS4] at z
                                cases z
                              · rw [hD4] at z
                                cases z
                          refine ⟨acc, hD5, ?_, hlt, Sh5, s5, acc ++ [y], accd ++ [d5], es6, ((x2.trans x4).trans x5).putD okT hp hS5, upd_same, hS5, ((rA.mono x4.shs).mono x5.shs).snoc r5, ?_, q6⟩
                          · have hl : es.length = accd.length + (es6.length + 1) := by
                              rw [eE, List.length_append, List.length_cons]
                            rw [← rA.length]
                            refine szLt ?_
                            omega
                          · rw [eE, List.append_assoc]
                            rfl
          · have ei : i = ds.length := by omega
            subst ei
            rw [List.drop_length] at cL
            cases cL
            rw [List.append_nil] at eE
            subst eE
            exact .inl ⟨w2 _ (Nat.le_refl _), h p acc H2 Sh2 (e1.trans x2) (e1.nofree ok.town hp) hD hSD rA⟩
end
end FR
/-! FrSnd6: the row's text against the core syntax; the theorem for expressions. -/
namespace FR
open PySem PySem.Spec PyProof.Rows L2

/-! ### the look -/
def Cst.k : Cst → Const
  | .non => .none
  | .bl b => .bool b
  | .int i => .int i
  | .str x => .str x
def visB (sc : Scope) (x : Str) : Bool := match sc.names.lookup x with
  | some .local => true | some .cell => true | some .free => true | _ => false
def locB (sc : Scope) (x : Str) : Bool := match sc.names.lookup x with
  | some .local => true | some .cell => true | _ => false
def gloB (sc : Scope) (x : Str) : Bool := match sc.names.lookup x with
  | some .globalImplicit => true | _ => false
def okN (x : Str) : Bool := !(x == ("__debug__" : Str)) && !(x == ("__classdict__" : Str)) && decide (x ≠ ("__name__" : Str))
def opO : Op → Operator
  | .add => .Add | .sub => .Sub | .mul => .Mult | .fdiv => .FloorDiv | .mod => .Mod | .pow => .Pow | .shl => .LShift | .shr => .RShift | .band => .BitAnd
def bfN : Bf → Option Str
  | .len => some "len" | .abs => some "abs" | .sum => some "sum" | .all => some "all" | .any => some "any" | .max2 => some "max" | .min2 => some "min" | .int => some "int" | .tuple => some "tuple" | .list => some "list" | .sorted => some "sorted" | .dict => some "dict" | .min1 => some "min" | .str => some "str"
  | _ => none
def bltNames : List Str := ["len", "abs", "sum", "all", "any", "max", "min", "int", "tuple", "list", "isinstance", "range", "bool", "str", "dict", "ValueError", "set", "sorted"]
def nameIs (N : List Str) (sc : Scope) (i : Nat) : Expr → Bool
  | .Name x _ => decide (N[i]? = some x) && locB sc x
  | _ => false
def namesAre (N : List Str) (sc : Scope) : List Nat → List Expr → Bool
  | [], [] => true
  | i :: is, e :: es => nameIs N sc i e && namesAre N sc is es
  | _, _ => false
def mtG (N : List Str) (sc : Scope) : Tgt → Expr → Bool
  | .nm i, e => nameIs N sc i e
  | .tp is, .Tuple es _ _ => namesAre N sc is es
  | _, _ => false
def ownOf (N : List Str) (tg : Tgt) : List (Str × Nat) := (tsl tg).map fun i => (N.getD i "", i)
def tyS : Ty → Option Str
  | .int => some "int" | .bool => some "bool" | .tuple => some "tuple" | .list => some "list" | .str => some "str" | .dict => some "dict" | _ => none
def asConst : Expr → Option Const
  | .Constant k _ _ => some k
  | _ => none
def asName : Expr → Option Str
  | .Name x _ => some x
  | _ => none
def asBin : Expr → Option (Expr × Operator × Expr)
  | .BinOp l o r _ => some (l, o, r)
  | _ => none
def asUn : Expr → Option (UnaryOp × Expr)
  | .UnaryOp o x _ => some (o, x)
  | _ => none
def asCmp1 : Expr → Option (Expr × CmpOp × Expr)
  | .Compare l [o] [r] _ => some (l, o, r)
  | _ => none
def asCmp2 : Expr → Option (Expr × CmpOp × CmpOp × Expr × Expr)
  | .Compare l [o, p] [r, t] _ => some (l, o, p, r, t)
  | _ => none
def asBoolOp : Expr → Option (BoolOp × Expr × Expr × Bool)
  | .BoolOp o [x, y] _ => some (o, x, y, false)
  | .BoolOp o (x :: y :: z :: r) p => some (o, x, .BoolOp o (y :: z :: r) p, true)
  | _ => none
def asIf : Expr → Option (Expr × Expr × Expr)
  | .IfExp c x y _ => some (c, x, y)
  | _ => none
def asTup : Expr → Option (List Expr)
  | .Tuple es _ _ => some es
  | _ => none
def asLst : Expr → Option (List Expr)
  | .List es _ => some es
  | _ => none
def asIdx : Expr → Option (Expr × Expr)
  | .Subscript x y _ => some (x, y)
  | _ => none
def asSlc : Expr → Option (Expr × Option Expr × Option Expr)
  | .Subscript x (.Slice l h none _) _ => some (x, l, h)
  | _ => none
def asRev : Expr → Option Expr
  | .Subscript x (.Slice none none (some (.UnaryOp .USub (.Constant (.int 1) _ _) _)) _) _ => some x
  | _ => none
def asBck : Expr → Option Expr
  | .Subscript x (.Slice none (some (.Constant (.int 0) _ _)) (some (.UnaryOp .USub (.Constant (.int 1) _ _) _)) _) _ => some x
  | _ => none
def asTwo : Expr → Option Expr
  | .Subscript x (.Slice (some (.Constant (.int 1) _ _)) none (some (.UnaryOp .USub (.Constant (.int 1) _ _) _)) _) _ => some x
  | _ => none
def asCall : Expr → Option (Str × Expr × List Expr)
  | .Call (.Name x _) (y :: ys) [] _ => some (x, y, ys)
  | _ => none
def asComp : Expr → Option (Expr × Expr × Expr × List Expr × Scope)
  | .ListComp el [⟨t, i, fs, 0⟩] scope _ => some (el, t, i, fs, scope)
  | _ => none
/-- what stands behind isinstance's comma -/
def isiB (tb : Tb) (t : Ty) (z : Str) : Bool := match t with
  | .cls c => decide (tb.cn c = some z) && okN z
  | .ve => decide (z = ("ValueError" : Str))
  | t => decide (tyS t = some z)
/-- o.x(y), on one line -/
def asMth : Expr → Option (Expr × Str × Expr)
  | .Call (.Attribute o x a) [y] [] c => if a.endLine == c.line then some (o, x, y) else none
  | _ => none
def mtN : Mt → Option Str
  | .index => some "index" | .count => some "count" | .split => some "split" | .join => some "join"
  | _ => none
/-- e.keys(), on one line -/
def plainB : Expr → Bool
  | .Call _ (_ :: _) _ _ => true
  | .Name _ _ => true
  | .Subscript _ _ _ => true
  | .Constant _ _ _ => true
  | _ => false
def asKeys : Expr → Option Expr
  | .Call (.Attribute o x a) [] [] c => if x == ("keys" : Str) && (a.endLine == c.line && plainB o) then some o else none
  | _ => none
def notComp : Expr → Bool
  | .ListComp _ _ _ _ => false
  | .SetComp _ _ _ _ => false
  | .DictComp _ _ _ _ _ => false
  | _ => true
/-- e.items(), on one line -/
def asItems : Expr → Option Expr
  | .Call (.Attribute o x a) [] [] c => if x == ("items" : Str) && (a.endLine == c.line && plainB o) then some o else none
  | _ => none
/-- o.get(y, z), on one line -/
def asGet2 : Expr → Option (Expr × Expr × Expr)
  | .Call (.Attribute o x a) [y, z] [] c => if x == ("get" : Str) && (a.endLine == c.line && plainB o) && notStar y && notStar z then some (o, y, z) else none
  | _ => none
/-- o.replace("..", "..") of two written texts, on one line -/
def asRepl : Expr → Option (Expr × Str × Str)
  | .Call (.Attribute o x a) [.Constant (.str y) _ _, .Constant (.str z) _ _] [] c => if x == ("replace" : Str) && (a.endLine == c.line && plainB o) then some (o, y, z) else none
  | _ => none
/-- x(y(z..)) -/
def asCall2 : Expr → Option (Str × Str × Expr × List Expr)
  | .Call (.Name x _) [.Call (.Name y _) (z :: zs) [] _] [] _ => some (x, y, z, zs)
  | _ => none
def asDict1 : Expr → Option (Const × Expr)
  | .Dict [some (.Constant k _ _)] [v] _ => some (k, v)
  | _ => none
section
variable (tb : Tb) (N : List Str)
mutual
def mtE : CE → Scope → Expr → Bool
  | .cst c, _, e => decide (asConst e = some c.k)
  | .var i, sc, e => (match asName e with | some x => decide (N[i]? = some x) && visB sc x && okN x | none => false)
  | .glo i, sc, e => (match asName e with | some x => decide (tb.gn i = some x) && gloB sc x && okN x | none => false)
  | .bin o a b, sc, e => (match asBin e with | some (l, p, r) => decide (p = opO o) && mtE a sc l && mtE b sc r | none => false)
  | .neg a, sc, e => (match asUn e with | some (o, x) => decide (o = .USub) && mtE a sc x | none => false)
  | .not a, sc, e => (match asUn e with | some (o, x) => decide (o = .Not) && !a.isIte && mtE a sc x | none => false)
  | .cmp o a b, sc, e => (match asCmp1 e with | some (l, p, r) => decide (p = cmO o) && notSet r && mtE a sc l && mtE b sc r | none => false)
  | .chn o q a b c, sc, e => (match asCmp2 e with | some (l, p, p', r, t) => decide (p = cmO o) && decide (p' = cmO q) && notSet t && mtE a sc l && mtE b sc r && mtE c sc t | none => false)
  | .and a b, sc, e => (match asBoolOp e with | some (o, x, y, syn) => decide (o = .And) && !a.isIte && !b.isIte && (!syn || b.isAnd) && mtE a sc x && mtE b sc y | none => false)
  | .or a b, sc, e => (match asBoolOp e with | some (o, x, y, syn) => decide (o = .Or) && !a.isIte && !b.isIte && (!syn || b.isOr) && mtE a sc x && mtE b sc y | none => false)
  | .ite t a b, sc, e => (match asIf e with | some (c, x, y) => !t.isIte && mtE t sc c && mtE a sc x && mtE b sc y | none => false)
  | .tup es, sc, e => (match asTup e with | some xs => mtEs es sc xs | none => false)
  | .lst es, sc, e => (match asLst e with | some xs => mtEs es sc xs | none => false)
  | .idx a i, sc, e => (match asIdx e with | some (x, y) => notSlice y && mtE a sc x && mtE i sc y | none => false)
  | .slc a lo hi, sc, e => (match asSlc e with
      | some (x, l, h) => mtE a sc x && (match l with | none => lo.isNon | some l => !lo.isNon && mtE lo sc l) && (match h with | none => hi.isNon | some h => !hi.isNon && mtE hi sc h)
      | none => false)
  | .rev a, sc, e => (match asRev e with | some x => mtE a sc x | none => false)
  | .call f es, sc, e => (match asCall e with
      | some (x, y, ys) => decide ((tb.fs f).map Fd.name = some x) && gloB sc x && okN x && mtEs es sc (y :: ys)
      | none => false)
  | .bif f es, sc, e => (match asCall e with
      | some (x, y, ys) => decide (bfN f = some x) && gloB sc x && mtEs es sc (y :: ys)
      | none => false)
  | .isi a t, sc, e => (match asCall e with
      | some (x, y, [z]) => decide (x = ("isinstance" : Str)) && gloB sc x && notStar y && mtE a sc y && (match asName z with | some z => gloB sc z && isiB tb t z | none => false)
      | _ => false)
  | .comp tg it ifs elt, sc, e => (match asComp e with
      | some (el, t, i, fs, scope) => mtG N scope tg t && mtE it sc i && notSet i && blkC N sc scope (ownOf N tg) && mtE elt scope el && (match fs with | [] => ifs.isTrue | [c] => mtE ifs scope c && !ifs.isIte | _ => false)
      | none => false)
  | .compR tg lo hi ifs elt, sc, e => (match asComp e with
      | some (el, t, i, fs, scope) => mtG N scope tg t && blkC N sc scope (ownOf N tg) && mtE elt scope el && (match fs with | [] => ifs.isTrue | [c] => mtE ifs scope c && !ifs.isIte | _ => false) &&
          (match asCall i with
            | some (x, y, ys) => decide (x = ("range" : Str)) && gloB sc x && notStar y && (match ys with | [] => lo.isZero && mtE hi sc y | [z] => notStar z && mtE lo sc y && mtE hi sc z | _ => false)
            | none => false)
      | none => false)
  | .mth m a es, sc, e => (match asMth e with
      | some (o, x, y) => decide (mtN m = some x) && plainB o && notStar y && mtE a sc o && mtEs es sc [y]
      | none => false)
  | .oidx i x, sc, e => (match asIdx e with | some (a, z) => notSlice z && (match asName a with | some y => decide (N[i]? = some y) && visB sc y && okN y | none => false) && mtE x sc z | none => false)
  | .olen i, sc, e => (match asCall e with
      | some (x, y, []) => decide (x = ("len" : Str)) && gloB sc x && (match asName y with | some y => decide (N[i]? = some y) && visB sc y && okN y | none => false)
      | _ => false)
  | .dct0, _, e => (match e with | .Dict [] [] _ => true | _ => false)
  | .odix i x, sc, e => (match asIdx e with | some (a, z) => notSlice z && (match asName a with | some y => decide (N[i]? = some y) && visB sc y && okN y | none => false) && mtE x sc z | none => false)
  | .ssort a, sc, e => (match asCall2 e with | some (x, y, z, []) => decide (x = ("sorted" : Str)) && decide (y = ("set" : Str)) && gloB sc x && gloB sc y && notStar z && mtE a sc z | _ => false)
  | .slen a, sc, e => (match asCall2 e with | some (x, y, z, []) => decide (x = ("len" : Str)) && decide (y = ("set" : Str)) && gloB sc x && gloB sc y && notStar z && mtE a sc z | _ => false)
  | .ksort a, sc, e => (match asCall e with | some (x, y, []) => decide (x = ("sorted" : Str)) && gloB sc x && (match asKeys y with | some o => mtE a sc o | none => false) | _ => false)
  | .klist a, sc, e => (match asCall e with | some (x, y, []) => decide (x = ("list" : Str)) && gloB sc x && (match asKeys y with | some o => mtE a sc o | none => false) | _ => false)
  | .compK tg it ifs elt, sc, e => (match asComp e with
      | some (el, t, i, fs, scope) => mtG N scope tg t && blkC N sc scope (ownOf N tg) && mtE elt scope el && (match fs with | [] => ifs.isTrue | [c] => mtE ifs scope c && !ifs.isIte | _ => false) &&
          (match asKeys i with | some o => mtE it sc o | none => false)
      | none => false)
  | .rngl lo hi, sc, e => (match asCall2 e with
      | some (x, r, y, ys) => decide (x = ("list" : Str)) && decide (r = ("range" : Str)) && gloB sc x && gloB sc r && notStar y && (match ys with | [] => lo.isZero && mtE hi sc y | [z] => notStar z && mtE lo sc y && mtE hi sc z | _ => false)
      | none => false)
  | .dctd k a, sc, e => (match asDict1 e with | some (c, v) => decide (c = k.k) && (cstK k).isSome && mtE a sc v | none => false)
  | .callO f h es, sc, e => (match asCall2 e with
      | some (x, y, z, zs) => (match tb.fs f with | some fd => decide (fd.name = x) && decide (fd.ps.length = 1) | none => false) && (match tb.fs h with | some hd => decide (hd.name = y) && (unret hd.body).isSome | none => false) && gloB sc x && gloB sc y && okN x && okN y && mtEs es sc (z :: zs)
      | none => false)
  | .bad, _, e => notComp e
  | .ilist a, sc, e => (match asCall e with | some (x, y, []) => decide (x = ("list" : Str)) && gloB sc x && (match asItems y with | some o => mtE a sc o | none => false) | _ => false)
  | .dget a k d, sc, e => (match asGet2 e with | some (o, y, z) => mtE a sc o && mtE k sc y && mtE d sc z | none => false)
  | .fnv f, sc, e => (match asName e with | some x => decide ((tb.fs f).map Fd.name = some x) && gloB sc x && okN x | none => false)
  | .callV i es, sc, e => (match asCall e with
      | some (x, y, ys) => decide (N[i]? = some x) && visB sc x && okN x && mtEs es sc (y :: ys)
      | none => false)
  | .oin n i x, sc, e => (match asCmp1 e with | some (l, p, r) => decide (p = cmO (if n then .nin else .isin)) && (match asName r with | some y => decide (N[i]? = some y) && visB sc y && okN y | none => false) && mtE x sc l | none => false)
  | .bck a, sc, e => (match asBck e with | some x => mtE a sc x | none => false)
  | .two a, sc, e => (match asTwo e with | some x => mtE a sc x | none => false)
  | .lsr c es a y z, sc, e => (match asLst e with
      | some (c0 :: r) => decide (asConst c0 = some (.str c)) && !(y == z) && mtEs es sc r.dropLast && (match r.getLast? with
        | some l => (match asRepl l with | some (o, y', z') => decide (y' = y) && decide (z' = z) && mtE a sc o | none => false)
        | none => false)
      | _ => false)
def mtEs : CEs → Scope → List Expr → Bool
  | .nil, _, es => es.isEmpty
  | .cons c cs, sc, es => (match es with | [] => false | e :: r => notStar e && mtE c sc e && mtEs cs sc r)
end
end
section
theorem asConst_eq {e : Expr} {k : Const} (h : asConst e = some k) : ∃ i p, e = .Constant k i p := by
  unfold asConst at h
  split at h
  · cases h
    exact ⟨_, _, rfl⟩
  · cases h
theorem asName_eq {e : Expr} {x : Str} (h : asName e = some x) : ∃ p, e = .Name x p := by
  unfold asName at h
  split at h
  · cases h
    exact ⟨_, rfl⟩
  · cases h
theorem asBin_eq {e l r : Expr} {o : Operator} (h : asBin e = some (l, o, r)) : ∃ p, e = .BinOp l o r p := by
  unfold asBin at h
  split at h
  · cases h
    exact ⟨_, rfl⟩
  · cases h
theorem asUn_eq {e x : Expr} {o : UnaryOp} (h : asUn e = some (o, x)) : ∃ p, e = .UnaryOp o x p := by
  unfold asUn at h
  split at h
  · cases h
    exact ⟨_, rfl⟩
  · cases h
theorem asCmp1_eq {e l r : Expr} {o : CmpOp} (h : asCmp1 e = some (l, o, r)) : ∃ p, e = .Compare l [o] [r] p := by
  unfold asCmp1 at h
  split at h
  · cases h
    exact ⟨_, rfl⟩
  · cases h
theorem asCmp2_eq {e l r t : Expr} {o q : CmpOp} (h : asCmp2 e = some (l, o, q, r, t)) : ∃ p, e = .Compare l [o, q] [r, t] p := by
  unfold asCmp2 at h
  split at h
  · cases h
    exact ⟨_, rfl⟩
  · cases h
theorem asBoolOp_eq {e x y : Expr} {o : BoolOp} {b : Bool} (h : asBoolOp e = some (o, x, y, b)) : ∃ p, (b = false ∧ e = .BoolOp o [x, y] p) ∨ (b = true ∧ ∃ u z r, y = .BoolOp o (u :: z :: r) p ∧ e = .BoolOp o (x :: u :: z :: r) p) := by
  unfold asBoolOp at h
  split at h
  · cases h
    exact ⟨_, .inl ⟨rfl, rfl⟩⟩
  · cases h
    exact ⟨_, .inr ⟨rfl, _, _, _, rfl, rfl⟩⟩
  · cases h
theorem asIf_eq {e c x y : Expr} (h : asIf e = some (c, x, y)) : ∃ p, e = .IfExp c x y p := by
  unfold asIf at h
  split at h
  · cases h
    exact ⟨_, rfl⟩
  · cases h
theorem asTup_eq {e : Expr} {xs : List Expr} (h : asTup e = some xs) : ∃ k p, e = .Tuple xs k p := by
  unfold asTup at h
  split at h
  · cases h
    exact ⟨_, _, rfl⟩
  · cases h
theorem asLst_eq {e : Expr} {xs : List Expr} (h : asLst e = some xs) : ∃ p, e = .List xs p := by
  unfold asLst at h
  split at h
  · cases h
    exact ⟨_, rfl⟩
  · cases h
theorem asIdx_eq {e x y : Expr} (h : asIdx e = some (x, y)) : ∃ p, e = .Subscript x y p := by
  unfold asIdx at h
  split at h
  · cases h
    exact ⟨_, rfl⟩
  · cases h
theorem asSlc_eq {e x : Expr} {l u : Option Expr} (h : asSlc e = some (x, l, u)) : ∃ p q, e = .Subscript x (.Slice l u none p) q := by
  unfold asSlc at h
  split at h
  · cases h
    exact ⟨_, _, rfl⟩
  · cases h
theorem asRev_eq {e x : Expr} (h : asRev e = some x) : ∃ k p1 p2 p3 p4, e = .Subscript x (.Slice none none (some (.UnaryOp .USub (.Constant (.int 1) k p1) p2)) p3) p4 := by
  unfold asRev at h
  split at h
  · cases h
    exact ⟨_, _, _, _, _, rfl⟩
  · cases h
theorem asBck_eq {e x : Expr} (h : asBck e = some x) : ∃ k k2 p0 p1 p2 p3 p4, e = .Subscript x (.Slice none (some (.Constant (.int 0) k2 p0)) (some (.UnaryOp .USub (.Constant (.int 1) k p1) p2)) p3) p4 := by
  unfold asBck at h
  split at h
  · cases h
    exact ⟨_, _, _, _, _, _, _, rfl⟩
  · cases h
theorem asRepl_eq {e o : Expr} {y z : Str} (h : asRepl e = some (o, y, z)) : ∃ a c j k c0 c1, e = .Call (.Attribute o "replace" a) [.Constant (.str y) j c0, .Constant (.str z) k c1] [] c ∧ (a.endLine == c.line) = true ∧ plainB o = true := by
  unfold asRepl at h
  split at h
  · split at h
    · rename_i q
      cases h
      simp only [Bool.and_eq_true, beq_iff_eq] at q
      obtain ⟨rfl, q1, q2⟩ := q
      exact ⟨_, _, _, _, _, _, rfl, by simpa using q1, q2⟩
    · cases h
  · cases h
theorem asTwo_eq {e x : Expr} (h : asTwo e = some x) : ∃ k k2 p0 p1 p2 p3 p4, e = .Subscript x (.Slice (some (.Constant (.int 1) k2 p0)) none (some (.UnaryOp .USub (.Constant (.int 1) k p1) p2)) p3) p4 := by
  unfold asTwo at h
  split at h
  · cases h
    exact ⟨_, _, _, _, _, _, _, rfl⟩
  · cases h
theorem asCall_eq {e y : Expr} {x : Str} {ys : List Expr} (h : asCall e = some (x, y, ys)) : ∃ p q, e = .Call (.Name x p) (y :: ys) [] q := by
  unfold asCall at h
  split at h
  · cases h
    exact ⟨_, _, rfl⟩
  · cases h
theorem asMth_eq {e o y : Expr} {x : Str} (h : asMth e = some (o, x, y)) : ∃ a c, e = .Call (.Attribute o x a) [y] [] c ∧ (a.endLine == c.line) = true := by
  unfold asMth at h
  split at h
  · split at h
    · rename_i hl
      cases h
      exact ⟨_, _, rfl, hl⟩
    · cases h
  · cases h
theorem asItems_eq {e o : Expr} (h : asItems e = some o) : ∃ a c, e = .Call (.Attribute o "items" a) [] [] c ∧ (a.endLine == c.line) = true ∧ plainB o = true := by
  unfold asItems at h
  split at h
  · split at h
    · rename_i q
      cases h
      simp only [Bool.and_eq_true, beq_iff_eq] at q
      obtain ⟨rfl, q1, q2⟩ := q
      exact ⟨_, _, rfl, by simpa using q1, q2⟩
    · cases h
  · cases h
theorem asGet2_eq {e o y z : Expr} (h : asGet2 e = some (o, y, z)) : ∃ a c, e = .Call (.Attribute o "get" a) [y, z] [] c ∧ (a.endLine == c.line) = true ∧ plainB o = true ∧ notStar y = true ∧ notStar z = true := by
  unfold asGet2 at h
  split at h
  · split at h
    · rename_i q
      cases h
      simp only [Bool.and_eq_true, beq_iff_eq] at q
      obtain ⟨⟨⟨rfl, q1, q2⟩, q3⟩, q4⟩ := q
      exact ⟨_, _, rfl, by simpa using q1, q2, q3, q4⟩
    · cases h
  · cases h
theorem asKeys_eq {e o : Expr} (h : asKeys e = some o) : ∃ a c, e = .Call (.Attribute o "keys" a) [] [] c ∧ (a.endLine == c.line) = true ∧ plainB o = true := by
  unfold asKeys at h
  split at h
  · split at h
    · rename_i q
      simp only [Bool.and_eq_true, beq_iff_eq] at q
      obtain ⟨rfl, q1, q2⟩ := q
      cases h
      exact ⟨_, _, rfl, beq_iff_eq.mpr q1, q2⟩
    · cases h
  · cases h
theorem asCall2_eq {e z : Expr} {x y : Str} {zs : List Expr} (h : asCall2 e = some (x, y, z, zs)) : ∃ p1 p2 p3 p4, e = .Call (.Name x p1) [.Call (.Name y p2) (z :: zs) [] p3] [] p4 := by
  unfold asCall2 at h
  split at h
  · cases h
    exact ⟨_, _, _, _, rfl⟩
  · cases h
theorem asDict1_eq {e v : Expr} {k : Const} (h : asDict1 e = some (k, v)) : ∃ i p1 p2, e = .Dict [some (.Constant k i p1)] [v] p2 := by
  unfold asDict1 at h
  split at h
  · cases h
    exact ⟨_, _, _, rfl⟩
  · cases h
theorem asComp_eq {e el t i : Expr} {fs : List Expr} {sc : Scope} (h : asComp e = some (el, t, i, fs, sc)) : ∃ p, e = .ListComp el [⟨t, i, fs, 0⟩] sc p := by
  unfold asComp at h
  split at h
  · cases h
    exact ⟨_, rfl⟩
  · cases h
end
end FR
/-! FrSnd7: the theorem for expressions. -/
namespace FR
open PySem PySem.Spec PyProof.Rows L2

/-- a def's promise: what the evaluator says -/
def spF (Z : Gd) (Φ : Fs) (f n : Nat) : Sp := fun vs H Q E => vs.length = n ∧ ∃ (ds : List D) (s : S) (Sh : Hp), Same Sh H ∧ TownOk Z H Sh s ∧ RepL Z Sh ds vs ∧ EvX Z (fun c d _ H' => E c d H') (Rep Z) (Φ f ds s) [] H Sh Q
/-- the answer is a new list, handed out -/
def spFr (Z : Gd) (Φ : Fs) (f n : Nat) : Sp := fun vs H Q E => vs.length = n ∧ ∃ (ds : List D) (s : S) (Sh : Hp), Same Sh H ∧ TownOk Z H Sh s ∧ RepL Z Sh ds vs ∧ EvF Z (fun c d _ H' => E c d H') (Φ f ds s) [] H Sh Q
/-- a heap without an object -/
def hide (a : Addr) (H : Hp) : Hp := fun b => if b = a then none else H b
/-- the argument is a list of its own from now on -/
def spOw (Z : Gd) (Φ : Fs) (f : Nat) : Sp := fun vs H Q E => ∃ (a : Addr) (us : List V) (xs : List D) (s : S) (Sh : Hp), vs = [.ref a] ∧ Same Sh H ∧ TownOk Z H Sh s ∧ H a = some (.lst us) ∧ Sh a = none ∧ some a ≠ Z.T ∧ RepL Z Sh xs us ∧
  EvX Z (fun c d _ H' => E c d H') (Rep Z) (Φ f [.lst xs] s) [] (hide a H) Sh Q
structure Gr (tb : Tb) (k : Nat) (Z : Gd) (X : Cx) : Prop where
  hk : X.K = Z.K
  hw : X.w = Z.w
  room : Room k X.A
  hu : X.A.units + 75 < cLine
  blt : ∀ x ∈ bltNames, X.mg x = none
  glo : ∀ i x, tb.gn i = some x → ∃ u v, X.mg x = some u ∧ RelV v u ∧ ∀ Sh, Rep Z Sh (tb.gl i) v
  fn : ∀ f fd, tb.fs f = some fd → X.mg fd.name = some (.ref (Z.fA f)) ∧ PySem.W.keepIn X.K (.ref (Z.fA f)) = true ∧ ∃ fdt : FuncData, Binds X.K fdt fd.ps [] ∧
    FnOk X.prog X.w X.K X.mg X.base (L2.CX X.prog X.w) k (Z.fA f) fdt fd.ps (spF Z (sem tb k) f fd.ps.length)
  exc : ∀ c x, tb.cn c = some x → X.mg x = some (.ref (Z.cA c)) ∧ PySem.W.excIn X.K (Z.cA c) He.veBase "ValueError.__new__" = true ∧ PySem.W.keepIn X.K (.ref (Z.cA c)) = true ∧ PySem.W.subIn X.K (.ref (Z.cA c)) (.type "BaseException") = some true ∧ PySem.W.typeIn X.K (.ref (Z.cA c)) = some (.type "type")
  exm : ∀ c c' b, tb.sub c' c = some b → PySem.W.exmOne X.K (.ref (Z.cA c')) (.ref (Z.cA c)) = some b
  exi : ∀ c c' b, tb.sub c' c = some b → ExcC X.K (Z.cA c') ∧ PySem.W.kitOne X.K (.ref (Z.cA c')) (.ref (Z.cA c)) = some b ∧ PySem.W.kitOne X.K (.ref (Z.cA c')) (.type "ValueError") = some true
  calm : X.calm = true
  nd : X.N.Nodup
  fnF : ∀ f fd p, tb.fs f = some fd → unret fd.body = some p → ∃ fdt : FuncData, Binds X.K fdt fd.ps [] ∧ FnOk X.prog X.w X.K X.mg X.base (L2.CX X.prog X.w) k (Z.fA f) fdt fd.ps (spFr Z (semF tb k) f fd.ps.length)
  fnO : ∀ f fd, tb.fs f = some fd → fd.ps.length = 1 → ∃ fdt : FuncData, Binds X.K fdt fd.ps [] ∧ FnOk X.prog X.w X.K X.mg X.base (L2.CX X.prog X.w) k (Z.fA f) fdt fd.ps (spOw Z (semO tb k) f)
structure ScOk (sc : Scope) (X : Cx) : Prop where
  loc : ∀ x, sc.names.lookup x = some .local → X.env.scope.names.lookup x = some .local
  cell : ∀ x, sc.names.lookup x = some .cell → X.env.scope.names.lookup x = some .cell ∧ X.fn x = true
  free : ∀ x, sc.names.lookup x = some .free → X.env.scope.names.lookup x = some .free ∨ X.env.scope.names.lookup x = some .cell
  glob : ∀ x, sc.names.lookup x = some .globalImplicit → X.env.scope.names.lookup x = some .globalImplicit
section
variable {sc : Scope} {X : Cx} {x : Str}
theorem ScOk.vis (s : ScOk sc X) (h : visB sc x = true) : Vis X.env.scope x := by
  unfold visB at h
  split at h
  · rename_i q
    exact .inl (s.loc x q)
  · rename_i q
    exact .inr (.inl (s.cell x q).1)
  · rename_i q
    rcases s.free x q with z | z
    · exact .inr (.inr z)
    · exact .inr (.inl z)
  · cases h
theorem ScOk.gl (s : ScOk sc X) (h : gloB sc x = true) : Gl X x := by
  unfold gloB at h
  split at h
  · rename_i q
    exact s.glob x q
  · cases h
theorem ScOk.lc (s : ScOk sc X) (h : locB sc x = true) : Loc X.env.scope x ∧ (X.fn x = true ∨ X.env.scope.names.lookup x = some .local) := by
  unfold locB at h
  split at h
  · rename_i q
    exact ⟨.inl (s.loc x q), .inr (s.loc x q)⟩
  · rename_i q
    exact ⟨.inr (s.cell x q).1, .inl (s.cell x q).2⟩
  · cases h
theorem okN_of (h : okN x = true) : (x == ("__debug__" : Str)) = false ∧ (x == ("__classdict__" : Str)) = false ∧ x ≠ ("__name__" : Str) := by
  unfold okN at h
  simp only [Bool.and_eq_true, Bool.not_eq_true', decide_eq_true_eq] at h
  exact ⟨h.1.1, h.1.2, h.2⟩
end
theorem lookup_relab {p : Str → NameKind → Bool} {x : Str} : ∀ names : List (Str × NameKind), (names.map fun (n, k) => if p n k then (n, NameKind.cell) else (n, k)).lookup x = (names.lookup x).map fun k => if p x k then .cell else k
  | [] => rfl
  | (n, k) :: r => by
    rw [List.map_cons]
    by_cases e : x = n
    · subst e
      by_cases q : p x k = true
      · simp [q, List.lookup_cons]
      · simp [q, List.lookup_cons]
    · have e1 : (x == n) = false := beq_eq_false_iff_ne.mpr e
      have ih := lookup_relab (p := p) (x := x) r
      by_cases q : p n k = true
      · simp only [q, if_true, List.lookup_cons, e1]
        exact ih
      · show List.lookup x ((if p n k = true then (n, NameKind.cell) else (n, k)) :: _) = _
        rw [if_neg q]
        simp only [List.lookup_cons, e1]
        exact ih
theorem scOk_blk {X : Cx} {s : Shared} {H : Hp} {C : Addr} {cl : List (Str × Addr)} {fp : List Addr} (scope : Scope) : ScOk scope (X.blk s H scope (compEnvC scope cl C X.env) fp) := by
  have key : ∀ x k, scope.names.lookup x = some k → (compEnvC scope cl C X.env).scope.names.lookup x = some (if (k == .free && X.env.scope.kind == .function && X.env.kindOf x == some .cell) then .cell else k) := fun x k e => by
    have h := lookup_relab (p := fun n k => (k == .free && X.env.scope.kind == .function && X.env.kindOf n == some .cell)) (x := x) scope.names
    rw [e] at h
    exact h
  refine ⟨fun x e => ?_, fun x e => ⟨?_, ?_⟩, fun x e => ?_, fun x e => ?_⟩
  · rw [key x _ e]
    rfl
  · rw [key x _ e]
    rfl
  · show (scope.names.lookup x == some .cell) = true
    rw [e]
    rfl
  · rw [key x _ e]
    split
    · exact .inr rfl
    · exact .inl rfl
  · rw [key x _ e]
    rfl
theorem blkOk_sc {N : List Str} {sc scope : Scope} {own : List (Str × Nat)} {X : Cx} (so : ScOk sc X) (h : BlkOk N sc scope own) : BlkOk N X.env.scope scope own where
  kind := h.kind
  uniq := h.uniq
  ix := h.ix
  free := fun y hy e => by
    rcases h.free y hy e with z | z
    · exact .inl (so.cell _ z).1
    · rcases so.free _ z with z | z
      · exact .inr z
      · exact .inl z
  own := h.own

section
variable {tb : Tb} {k : Nat} {Z : Gd} {X : Cx}
theorem Gr.blk (g : Gr tb k Z X) {s : Shared} {H : Hp} {C : Addr} {cl : List (Str × Addr)} {fp : List Addr} {scope : Scope} : Gr tb k Z (X.blk s H scope (compEnvC scope cl C X.env) fp) :=
  ⟨g.hk, g.hw, g.room, g.hu, g.blt, g.glo, g.fn, g.exc, g.exm, g.exi, g.calm, g.nd, g.fnF, g.fnO⟩
end

/-! ### targets of names -/
section
variable {N : List Str} {sc : Scope} {X : Cx}
theorem sName (gn : X.N.Nodup) (so : ScOk sc X) (hN : X.N = N) {i : Nat} {e : Expr} (h : nameIs N sc i e = true) : PG X e (gName i) := by
  unfold nameIs at h
  split at h
  · rename_i x p
    rw [Bool.and_eq_true, decide_eq_true_eq] at h
    obtain ⟨h1, h2⟩ := so.lc h.2
    exact pg_name gn (by rw [hN]; exact h.1) h1 h2
  · cases h
theorem names_star {is : List Nat} {es : List Expr} (h : namesAre N sc is es = true) (env : Env) : ∃ xs : List (Value → Sem Unit), assignEach es env = xs.map fun f => (false, f) := by
  induction es generalizing is with
  | nil => exact ⟨[], rfl⟩
  | cons e es ih =>
    cases is with
    | nil => cases h
    | cons i is =>
      unfold namesAre at h
      rw [Bool.and_eq_true] at h
      obtain ⟨xs, e1⟩ := ih h.2
      have h1 := h.1
      unfold nameIs at h1
      split at h1
      · rename_i x p
        refine ⟨assign (.Name x p) env :: xs, ?_⟩
        rw [List.map_cons, ← e1]
        rfl
      · cases h1
theorem names_len {is : List Nat} {es : List Expr} (h : namesAre N sc is es = true) : is.length = es.length := by
  induction es generalizing is with
  | nil =>
    cases is with
    | nil => rfl
    | cons _ _ => cases h
  | cons e es ih =>
    cases is with
    | nil => cases h
    | cons i is =>
      unfold namesAre at h
      rw [Bool.and_eq_true] at h
      rw [List.length_cons, List.length_cons, ih h.2]
def gNames : List Nat → TGs
  | [] => gNil
  | i :: is => gCons (gName i) (gNames is)
theorem gNames_of : ∀ {is : List Nat} {vs : List V} {σ : L2.St} {H : Hp} {Q : L2.St → Hp → Prop}, vs.length = is.length → Q (setV σ is vs) H → gNames is vs σ H Q
  | [], [], _, _, _, _, q => ⟨rfl, q⟩
  | i :: is, v :: vs, σ, H, Q, h, q => ⟨v, vs, rfl, gNames_of (Nat.succ.inj h) q⟩
theorem sNames (gn : X.N.Nodup) (so : ScOk sc X) (hN : X.N = N) : ∀ {is : List Nat} {es : List Expr}, namesAre N sc is es = true → PGs X es (gNames is)
  | [], [], _ => pgs_nil
  | i :: is, e :: es, h => by
    have h0 := h
    unfold namesAre at h
    rw [Bool.and_eq_true] at h
    refine pgs_cons (sName gn so hN h.1) (sNames gn so hN h.2) ?_
    have h1 := h.1
    unfold nameIs at h1
    split at h1
    · rfl
    · cases h1
theorem sTgt {K : PySem.W.Frag} (hk : X.K = K) (hc : X.calm = true) (gn : X.N.Nodup) (so : ScOk sc X) (hN : X.N = N) {tg : Tgt} {e : Expr} (h : mtG N sc tg e = true) : PG X e (gSet K tg) := by
  cases tg with
  | nm i => exact sName gn so hN h
  | tp is =>
    cases e with
    | Tuple es n p =>
      change namesAre N sc is es = true at h
      obtain ⟨xs, e1⟩ := names_star h X.env
      have hl : (assignEach es X.env).length = es.length := by
        clear e1 h
        induction es with
        | nil => rfl
        | cons e es ih => cases e <;> exact congrArg (· + 1) ih
      have st : (assignEach es X.env).findIdx? (·.1) = none := by
        rw [e1, List.findIdx?_eq_none_iff]
        intro y hy
        obtain ⟨z, _, rfl⟩ := List.mem_map.mp hy
        rfl
      have hn : (assignEach es X.env).length = is.length := by rw [hl, names_len h]
      have g1 := pg_tup (n := is.length) (k := n) (pos := p) hc (sNames gn so hN h) hn st
      have g2 := pg_unl (n := is.length) (k := n) (pos := p) hc (sNames gn so hN h) hn st
      exact ⟨fun pins s σ H v u Q I r ⟨a, vs, e2, sq, hv, q⟩ => sq.elim (fun sq => g1.run pins s σ H v u Q I r ⟨a, vs, e2, by rw [hk]; exact sq, hv, gNames_of hv q⟩) fun sq => g2.run pins s σ H v u Q I r ⟨a, vs, e2, by rw [hk]; exact sq, hv, gNames_of hv q⟩⟩
    | _ => cases h
end

/-! ### expressions -/
theorem evT_and {ea eb : G → S → EV D} (g : G) (s : S) : evT (fun g s => rb (ea g s) fun x s => rb (tru x s) fun t s => if t then eb g s else some (.ok x, s)) g s = rb (evT ea g s) fun t s => if t then evT eb g s else some (.ok false, s) := by
  unfold evT
  rw [rb_rb, rb_rb]
  congr 1
  funext x s
  unfold tru
  cases q : x.truth with
  | none => rfl
  | some t =>
    cases t with
    | true => rfl
    | false =>
      show rp x.truth s = _
      rw [q]
      rfl
theorem evT_or {ea eb : G → S → EV D} (g : G) (s : S) : evT (fun g s => rb (ea g s) fun x s => rb (tru x s) fun t s => if t then some (.ok x, s) else eb g s) g s = rb (evT ea g s) fun t s => if t then some (.ok true, s) else evT eb g s := by
  unfold evT
  rw [rb_rb, rb_rb]
  congr 1
  funext x s
  unfold tru
  cases q : x.truth with
  | none => rfl
  | some t =>
    cases t with
    | false => rfl
    | true =>
      show rp x.truth s = _
      rw [q]
      rfl
theorem evT_not {ea : G → S → EV D} (g : G) (s : S) : evT (fun g s => rb (ea g s) fun x s => rb (tru x s) fun b s => some (.ok (.bl (!b)), s)) g s = rb (evT ea g s) fun b s => some (.ok (!b), s) := by
  unfold evT
  rw [rb_rb, rb_rb]
  congr 1
  funext x s
  unfold tru
  cases q : x.truth with
  | none => rfl
  | some t => rfl
theorem ptE {X : Cx} {Z : Gd} {W : WX} {H0 : Ent} {e : Expr} {t t' : G → S → EV Bool} (h : PT X e (tB Z W H0 t)) (w : ∀ g s, t' g s = t g s) : PT X e (tB Z W H0 t') := by
  have e2 : t' = t := by
    funext g s
    exact w g s
  rw [e2]
  exact h
theorem peE {X : Cx} {Z : Gd} {W : WX} {H0 : Ent} {e : Expr} {t t' : G → S → EV D} (h : PE X e (tV Z W H0 t)) (w : ∀ g s, t' g s = t g s) : PE X e (tV Z W H0 t') := by
  have e2 : t' = t := by
    funext g s
    exact w g s
  rw [e2]
  exact h
def plainT : Expr → Bool
  | .UnaryOp .Not _ _ => false
  | .BoolOp _ _ _ => false
  | .IfExp _ _ _ _ => false
  | .Compare _ _ _ _ => false
  | _ => true
theorem plainT_eq {e : Expr} (h : plainT e = true) (env : Env) (whole : Sem Value) : isTrue e env whole = (do let v ← whole; standAt e.pos; holding [v] (truthy v)) := by
  cases e with
  | UnaryOp o x p => cases o <;> first | rfl | cases h
  | BoolOp _ _ _ => cases h
  | IfExp _ _ _ _ => cases h
  | Compare _ _ _ _ => cases h
  | _ => rfl
theorem stars {es : List Expr} (h : ∀ e ∈ es, notStar e = true) (pos : Pos) (env : Env) : (backTo pos (starEach es env)).any (·.1) = false := by
  induction es with
  | nil => rfl
  | cons e es ih =>
    rw [star1 (h e List.mem_cons_self)]
    exact ih fun x hx => h x (List.mem_cons_of_mem _ hx)

section
variable {tb : Tb} {k : Nat} {Z : Gd} {H0 : Ent} {N : List Str}
theorem mtEs_star : ∀ {cs : CEs} {sc : Scope} {es : List Expr}, mtEs tb N cs sc es = true → ∀ e ∈ es, notStar e = true
  | .nil, sc, [], h => fun e he => nomatch he
  | .cons c cs, sc, e :: es, h => fun x hx => by
    simp only [mtEs, Bool.and_eq_true] at h
    rcases List.mem_cons.mp hx with z | z
    · rw [z]
      exact h.1.1
    · exact mtEs_star h.2 x z
  | .nil, _, _ :: _, h => by simp [mtEs] at h
  | .cons _ _, _, [], h => by simp [mtEs] at h
theorem sBif {X : Cx} {W : WX} {f : Bf} {x : Str} {p pos : Pos} {y : Expr} {ys : List Expr} {el : G → S → EV (List D)} (gr : Gr tb k Z X) (hx : bfN f = some x) (hg : Gl X x) (hs : ∀ e ∈ y :: ys, notStar e = true) (ha : PA X (y :: ys) (tA Z W H0 el)) :
    PE X (.Call (.Name x p) (y :: ys) [] pos) (tV Z W H0 fun g s => rb (el g s) fun ds s => rp (bifD f ds s) s) := by
  have b := gr.blt
  have s1 := star1 (es := ys) (hs y List.mem_cons_self) X.env
  have s2 := stars (fun e he => hs e (List.mem_cons_of_mem _ he)) pos X.env
  have hk := gr.hk
  cases f with
  | len =>
    cases hx
    refine sCB ?_ (pe_callB (CallR.or call_len (CallR.or cr_lenK cr_lenN)) hg (b _ (by decide)) boot_len ha (by decide) (by decide) s1 s2)
    rw [hk, gr.hw]
    exact rc_len
  | abs =>
    cases hx
    exact sCB rc_abs (pe_callB call_abs hg (b _ (by decide)) (by decide +kernel) ha (by decide) (by decide) s1 s2)
  | sum =>
    cases hx
    refine sCB ?_ (pe_callB (cr_sum gr.calm) hg (b _ (by decide)) (by decide +kernel) ha (by decide) (by decide) s1 s2)
    rw [hk]
    exact rc_sum
  | all =>
    cases hx
    refine sCB ?_ (pe_callB (cr_all gr.calm) hg (b _ (by decide)) (by decide +kernel) ha (by decide) (by decide) s1 s2)
    rw [hk]
    exact rc_all
  | any =>
    cases hx
    refine sCB ?_ (pe_callB (cr_any gr.calm) hg (b _ (by decide)) (by decide +kernel) ha (by decide) (by decide) s1 s2)
    rw [hk]
    exact rc_any
  | max2 =>
    cases hx
    exact sCB rc_max2 (pe_callB (call_max2 gr.calm) hg (b _ (by decide)) (by decide +kernel) ha (by decide) (by decide) s1 s2)
  | min2 =>
    cases hx
    exact sCB rc_min2 (pe_callB (call_min2 gr.calm) hg (b _ (by decide)) (by decide +kernel) ha (by decide) (by decide) s1 s2)
  | int =>
    cases hx
    exact sCB rc_int (pe_callTy (CallR.or call_int1 call_int_str) hg (b _ (by decide)) (by decide +kernel) ha (by decide) (by decide) s1 s2)
  | tuple =>
    cases hx
    refine sCB ?_ (pe_callTy call_tuple_of hg (b _ (by decide)) (by decide +kernel) ha (by decide) (by decide) s1 s2)
    rw [hk]
    exact rc_tuple
  | list =>
    cases hx
    refine sCB ?_ (pe_callTy (CallR.or call_list_of (cr_listS gr.calm)) hg (b _ (by decide)) (by decide +kernel) ha (by decide) (by decide) s1 s2)
    rw [hk]
    exact rc_list
  | str =>
    cases hx
    exact sCB rc_str (pe_callTy call_str_int hg (b _ (by decide)) (by decide +kernel) ha (by decide) (by decide) s1 s2)
  | sorted =>
    cases hx
    refine sCB ?_ (pe_callB (CallR.or cr_sortedS (CallR.or cr_sorted (call_sortedD gr.calm))) hg (b _ (by decide)) (by decide +kernel) ha (by decide) (by decide) s1 s2)
    rw [hk]
    exact rc_sorted
  | dict =>
    cases hx
    have h0 := pe_lkP (pe_callTy (p := p) (CallR.or (call_dictP gr.calm) call_dictD) hg (b _ (by decide)) (by decide +kernel) ha (by decide) (by decide) s1 s2)
    rw [hk] at h0
    exact sCB rc_dict h0
  | min1 =>
    cases hx
    refine sCB ?_ (pe_callB (cr_min gr.calm) hg (b _ (by decide)) (by decide +kernel) ha (by decide) (by decide) s1 s2)
    rw [hk]
    exact rc_min1
  | _ => cases hx
theorem isi_kit {d : D} {t : Ty} {b : Bool} {z : Str} (hn : ∀ ks e, d ≠ .ndc ks e) (ht : tyS t = some z) (h : isiD d t = some b) : ∃ n, tyD d = some n ∧ kitB n (tyN t) = some b := by
  cases t <;> first | (cases ht; done) | skip
  all_goals (cases d <;> first | (cases h; done) | (exact absurd rfl (hn _ _)) | (cases h; exact ⟨_, rfl, by decide +kernel⟩))
theorem isi_kitN {ks : List (Key × D)} {e : D} {t : Ty} {b : Bool} {z : Str} (ht : tyS t = some z) (h : isiD (.ndc ks e) t = some b) : kitB "dict" (tyN t) = some b := by
  cases t <;> first | (cases ht; done) | (cases h; decide +kernel)
theorem boot_ty {t : Ty} {z : Str} (ht : tyS t = some z) : bootBuiltins z = some (.type (tyN t)) ∧ z ∈ bltNames ∧ z ≠ "__name__" ∧ (z == ("__debug__" : Str)) = false := by
  cases t <;> first | (cases ht; done) | (cases ht; exact ⟨by decide +kernel, by decide, by decide, by decide⟩)
/-- isinstance of an error that is kept -/
def rIsX (K : PySem.W.Frag) : List V → Hp → VK → Prop := fun xs H Q => ∃ (a D : Addr) (c : V) (u : Value) (b : Bool), xs = [.ref a, c] ∧ ClsV c u ∧ H a = some (ExV (.ref D) a) ∧ ExcC K D ∧ PySem.W.kitOne K (.ref D) u = some b ∧ Q (.bl b) H
theorem call_isX {X : Cx} : CallR X (.builtin "isinstance") (rIsX X.K) := fun pins t σ H xs us Q I r ⟨a, D, c, u, b, e1, k, hH, C, e, q⟩ => by
  subst e1
  obtain ⟨w1, w2, e2, r1, r2⟩ := vals2 r
  subst e2
  cases k.eq r2
  cases (show w1 = Value.ref a from r1)
  obtain ⟨ob, fl, g1, ⟨g2, g3⟩, g4⟩ := (I.hok a _ hH).1
  have at_ : PySem.W.InstAt t.heap a ob D none := by
    cases ob
    cases g2
    cases g3
    cases g4
    exact ⟨g1, rfl, rfl, trivial⟩
  exact PySem.W.kia_one (PySem.W.handS_kitx_exc C.hg C.hk C.hs C.hd C.ha C.hn C.ht C.hm) I.kIn at_ e (fun z => nomatch z) fun tk => ⟨.bl b, H, I.tok tk, rfl, q⟩
theorem isiE_ty {f : Nat → Nat → Option Bool} {d : D} {t : Ty} {z : Str} (h : tyS t = some z) : isiE f d t = isiD d t := by
  cases t <;> first | (cases h; done) | (cases d <;> rfl)
theorem sIsi {X : Cx} {W : WX} {t : Ty} {z : Str} {p p2 pos : Pos} {y : Expr} {ea : G → S → EV D} (gr : Gr tb k Z X) (hg : Gl X "isinstance") (hy : notStar y = true) (ha : PE X y (tV Z W H0 ea)) (ht : tyS t = some z) (hz : Gl X z) :
    PE X (.Call (.Name "isinstance" p) [y, .Name z p2] [] pos) (tV Z W H0 fun g s => rb (ea g s) fun x s => rp ((isiE tb.sub x t).map D.bl) s) := by
  have ei : ∀ d, isiE tb.sub d t = isiD d t := fun d => isiE_ty ht
  simp only [ei]
  obtain ⟨b1, b2, b3, b4⟩ := boot_ty ht
  refine peW (pe_callB (CallR.or call_isi cr_isN) hg (gr.blt _ (by decide)) boot_isinstance (pa_cons ha (pa_cons (pe_bltn (v := .ty (tyN t)) hz (gr.blt z b2) b1 rfl b3 b4) pa_nil (by rfl)) (star1 hy _)) (by decide) (by decide) (star1 hy _) (by rfl)) fun σ H Q ⟨g, s, Sh, ok, h⟩ => ⟨g, s, Sh, ok, EvX.bind h fun x s1 v H1 Sh1 e1 q1 h => ?_⟩
  obtain ⟨d, e, h1⟩ := h.rp
  obtain ⟨b, e2, rfl⟩ := Option.map_eq_some_iff.mp e
  by_cases hn : ∃ ks e, x = .ndc ks e
  · obtain ⟨ks, e0, rfl⟩ := hn
    cases q1 with
    | ndc x1 y1 z1 =>
      rw [gr.hw]
      exact .inr ⟨_, _, _, _, .ty (tyN t), .type (tyN t), b, rfl, .ty _, e1.sub _ _ x1, kit_ty (isi_kitN ht e2), h1.here e1.sub e1.town (.bl b)⟩
  obtain ⟨n, e3, e4⟩ := isi_kit (fun ks e z => hn ⟨ks, e, z⟩) ht e2
  rw [gr.hk]
  exact .inl ⟨v, .ty (tyN t), .type n, .type (tyN t), b, rfl, .ty _, q1.tyX e1.sub e3, kit_ty e4, h1.here e1.sub e1.town (.bl b)⟩
theorem sIsC {X : Cx} {W : WX} {c : Nat} {z : Str} {p p2 pos : Pos} {y : Expr} {ea : G → S → EV D} (gr : Gr tb k Z X) (hg : Gl X "isinstance") (hy : notStar y = true) (ha : PE X y (tV Z W H0 ea)) (ht : tb.cn c = some z) (ho : okN z = true) (hz : Gl X z) :
    PE X (.Call (.Name "isinstance" p) [y, .Name z p2] [] pos) (tV Z W H0 fun g s => rb (ea g s) fun x s => rp ((isiE tb.sub x (.cls c)).map D.bl) s) := by
  refine peW (pe_callB call_isX hg (gr.blt _ (by decide)) boot_isinstance (pa_cons ha (pa_cons (pe_glob (v := .ref (Z.cA c)) hz (gr.exc c z ht).1 rfl (okN_of ho).1) pa_nil (by rfl)) (star1 hy _)) (by decide) (by decide) (star1 hy _) (by rfl)) fun σ H Q ⟨g, s, Sh, ok, h⟩ => ⟨g, s, Sh, ok, EvX.bind h fun x s1 v H1 Sh1 e1 q1 h => ?_⟩
  obtain ⟨d, e, h1⟩ := h.rp
  obtain ⟨b, e2, rfl⟩ := Option.map_eq_some_iff.mp e
  cases x with
  | exc c' =>
    cases q1 with
    | exc _ hH =>
      obtain ⟨i1, i2, _⟩ := gr.exi c c' b e2
      exact ⟨_, _, _, _, b, rfl, .own _, e1.sub _ _ hH, i1, i2, h1.here e1.sub e1.town (.bl b)⟩
  | _ => cases e2
theorem sIsV {X : Cx} {W : WX} {p p2 pos : Pos} {y : Expr} {ea : G → S → EV D} (gr : Gr tb k Z X) (hg : Gl X "isinstance") (hy : notStar y = true) (ha : PE X y (tV Z W H0 ea)) (hz : Gl X "ValueError") :
    PE X (.Call (.Name "isinstance" p) [y, .Name "ValueError" p2] [] pos) (tV Z W H0 fun g s => rb (ea g s) fun x s => rp ((isiE tb.sub x .ve).map D.bl) s) := by
  refine peW (pe_callB (CallR.or call_isi call_isX) hg (gr.blt _ (by decide)) boot_isinstance (pa_cons ha (pa_cons (pe_bltn (v := .ty "ValueError") hz (gr.blt _ (by decide)) (by decide +kernel) rfl (by decide) (by decide)) pa_nil (by rfl)) (star1 hy _)) (by decide) (by decide) (star1 hy _) (by rfl)) fun σ H Q ⟨g, s, Sh, ok, h⟩ => ⟨g, s, Sh, ok, EvX.bind h fun x s1 v H1 Sh1 e1 q1 h => ?_⟩
  obtain ⟨d, e, h1⟩ := h.rp
  obtain ⟨b, e2, rfl⟩ := Option.map_eq_some_iff.mp e
  have plain : ∀ n, tyD x = some n → kitB n "ValueError" = some b → rIsi X.K [v, .ty "ValueError"] H1 Q := fun n a1 a2 => by
    rw [gr.hk]
    exact ⟨v, .ty "ValueError", .type n, .type "ValueError", b, rfl, .ty _, q1.tyX e1.sub a1, kit_ty a2, h1.here e1.sub e1.town (.bl b)⟩
  cases x with
  | exc c' =>
    cases q1 with
    | exc _ hH =>
      have e3 : (tb.sub c' c').map (fun _ => true) = some b := e2
      obtain ⟨b', e4, rfl⟩ := Option.map_eq_some_iff.mp e3
      obtain ⟨i1, _, i3⟩ := gr.exi c' c' b' e4
      exact .inr ⟨_, _, _, _, true, rfl, .ty _, e1.sub _ _ hH, i1, i3, h1.here e1.sub e1.town (.bl true)⟩
  | fn _ => cases e2
  | town => cases e2
  | scr _ => cases e2
  | ndc _ _ => cases e2
  | _ => cases e2; exact .inl (plain _ rfl (by decide +kernel))
/-- l.count(x) where items are data of any depth -/
def rCountD (K : PySem.W.Frag) : V → List V → Hp → VK → Prop := fun x xs H Q => ∃ (a : Addr) (y : V) (d : PyData) (ds : List PyData), x = V.ref a ∧ xs = [y] ∧ Dp K H x (.list ds) ∧ Dp K H y d ∧ SeqAt.shaped (.list ds) = true ∧ SeqAt.shaped d = true ∧ Q (.int (ds.countP fun z => PyData.eqv z d : Nat)) H
theorem mt_countD {X : Cx} (hu : X.A.units + 65 < cLine) : MtR X "list.count" (rCountD X.K) := fun pins t σ H x xs v us Q I rx rxs ⟨a, y, d, ds, e1, e2, hl, hy, sl, sd, q⟩ => by
  subst e1 e2
  cases rx
  obtain ⟨uy, rfl, ry⟩ := rxs.one
  obtain ⟨bs, rd⟩ := Dp.reads I d y uy hy ry
  have lay : PyData.canLayAll0 ds = true := SeqAt.canLay_of_shaped sl
  cases hl with
  | lst hs ha =>
    obtain ⟨its, rv, ⟨⟨c0, d0, dt, s0⟩, n, ho, hc, _, hd⟩, _⟩ := I.list hs
    cases hc
    cases hd
    obtain ⟨as, ra⟩ := Dp.readsAll I ds _ its ha rv
    have mp : its.map (SeqAt.readOf t.heap) = ds := SeqAt.readsAll_map ds its as lay ra
    have cnt : its.toArray.toList.countP (fun u => PyData.eqv (SeqAt.readOf t.heap u) d) = ds.countP fun z => PyData.eqv z d := by
      rw [← mp, List.countP_map]
      rfl
    have eqs := SeqAt.items_eqAt (vs := its.toArray) (show ReadsAll t.heap its.toArray.toList ds as from ra) rd lay (SeqAt.canLay_of_shaped sd) (room_in_shaped sd hu)
    refine call_meets PySem.F.slot_list_count ⟨_, ho, rfl⟩ PySem.F.entry_list_count (PySem.F.args_list_count_2 _ _) (SeqAt.list_countAt a its.toArray n d0 s0 uy fun u => PyData.eqv (SeqAt.readOf t.heap u) d) ⟨ho, eqs, ⟨.int _, H, I.tok _, ⟨t.toks, ?_⟩, q⟩⟩
    rw [cnt]
theorem plain_base {o : Expr} {x : Str} {env : Env} (h : plainB o = true) : attributeBase o x env (eval o env) = eval o env := by
  cases o with
  | Call f as ks p =>
    cases as with
    | nil => cases h
    | cons a as =>
      cases f <;> rfl
  | _ => first | rfl | cases h
theorem rd_pl {Sh H : Hp} (sub : Same Sh H) {ds : List D} {a : Addr} {vs : List V} (hH : Sh a = some (.lst vs)) (r : RepL Z Sh ds vs) (h : ds.all (D.pl 8) = true) : Dp Z.K H (.ref a) (.list (D.toPL ds)) := by
  have := Rep.dp (Z := Z) sub 9 (.lst hH r) (plLst h)
  exact this
theorem toPL_get : ∀ {ds : List D} {i : Nat} {d : D}, ds[i]? = some d → (D.toPL ds)[i]? = some d.toP
  | d :: ds, 0, _, h => by
    cases h
    rfl
  | d :: ds, i + 1, e, h => by
    rw [D.toPL, List.getElem?_cons_succ]
    exact toPL_get h
theorem toPL_count {d : D} (hd : d.pl 8 = true) : ∀ {ds : List D}, (∀ y ∈ ds, y.pl 8 = true) → (D.toPL ds).countP (fun z => PyData.eqv z d.toP) = ds.countP fun y => D.eqv y d
  | [], _ => rfl
  | y :: ds, h => by
    rw [D.toPL, List.countP_cons, List.countP_cons, toPL_count hd fun z hz => h z (List.mem_cons_of_mem _ hz), D.eqvP y d 8 8 (h y List.mem_cons_self) hd]
theorem repL_tx {h : Hp} : ∀ l : List (List Nat), RepL Z h (l.map fun x => D.str (ofL x)) (l.map (V.str ∘ ofL))
  | [] => .nil
  | _ :: l => .cons (.str _) (repL_tx l)
theorem sMth {X : Cx} {W : WX} {m : Mt} {x : Str} {a c : Pos} {o y : Expr} {eo : G → S → EV D} {el : G → S → EV (List D)} (gr : Gr tb k Z X) (hm : mtN m = some x) (hp : plainB o = true) (hs : notStar y = true) (hl : (a.endLine == c.line) = true) (ho : PE X o (tV Z W H0 eo)) (ha : PA X [y] (tA Z W H0 el)) :
    PE X (.Call (.Attribute o x a) [y] [] c) (tV Z W H0 fun g s => rb (eo g s) fun x s => if mthT m x then rb (el g s) fun ds s => rp (mthD m x ds) s else none) := by
  have few : ((backTo c (starEach [y] X.env)).all (fun x => !x.1) && (backToKw c (keywordEach [] X.env)).all (fun x => x.1.isSome) && decide ([y].length + ([] : List Keyword).length + (if ([] : List Keyword).isEmpty then 0 else 1) < 30)) = true := by
    rw [star1 hs]
    rfl
  have lists : ∀ {r : V → List V → Hp → VK → Prop}, (∀ (v : V) (us : List V) (xs ds : List D) (e : D) (s : S) (H Sh : Hp) (Q : VK), Same Sh H → TownOk Z H Sh s → Rep Z Sh (.lst xs) v → RepL Z Sh ds us → mthD m (.lst xs) ds = some e → (∀ u, Rep Z Sh e u → Q u H) → r v us H Q) → (∀ d, mthT m d = true → ∃ xs, d = .lst xs) →
      ∀ σ H Q, tV Z W H0 (fun g s => rb (eo g s) fun x s => if mthT m x then rb (el g s) fun ds s => rp (mthD m x ds) s else none) σ H Q → tBM X.K "list" r (tV Z W H0 eo) (tA Z W H0 el) σ H Q := by
    intro r hr hd σ H Q ⟨g, s, Sh, ok, h⟩
    refine ⟨g, s, Sh, ok, EvX.bind h fun d s1 v H1 Sh1 e1 q1 h => ?_⟩
    split at h
    · rename_i ht
      obtain ⟨xs, rfl⟩ := hd d ht
      refine ⟨?_, g, s1, Sh1, ok.ext e1, EvX.bind h fun ds s2 us H2 Sh2 e2 q2 h2 => ?_⟩
      · cases q1 with
        | lst x1 y1 => exact .inl ⟨rfl, _, SqL.of (e1.sub _ _ x1)⟩
      · obtain ⟨e, e3, h3⟩ := h2.rp
        exact hr v us xs ds e s2 H2 Sh2 Q e2.sub e2.town (q1.mono e2.shs) q2 e3 fun u ru => h3.here e2.sub e2.town ru
    · exact h.elim
  have texts : ∀ {r : V → List V → Hp → VK → Prop}, (∀ (z : Str) (us : List V) (ds : List D) (e : D) (s : S) (σ : L2.St) (H Sh : Hp) (Q : VK), Same Sh H → TownOk Z H Sh s → RepL Z Sh ds us → mthD m (.str z) ds = some e → EvX Z W (Rep Z) (some (.ok e, s)) σ H Sh Q → r (.str z) us H Q) → (∀ d, mthT m d = true → ∃ z, d = .str z) →
      ∀ σ H Q, tV Z W H0 (fun g s => rb (eo g s) fun x s => if mthT m x then rb (el g s) fun ds s => rp (mthD m x ds) s else none) σ H Q → tBM X.K "str" r (tV Z W H0 eo) (tA Z W H0 el) σ H Q := by
    intro r hr hd σ H Q ⟨g, s, Sh, ok, h⟩
    refine ⟨g, s, Sh, ok, EvX.bind h fun d s1 v H1 Sh1 e1 q1 h => ?_⟩
    split at h
    · rename_i ht
      obtain ⟨z, rfl⟩ := hd d ht
      cases q1
      refine ⟨rfl, g, s1, Sh1, ok.ext e1, EvX.bind h fun ds s2 us H2 Sh2 e2 q2 h2 => ?_⟩
      obtain ⟨e, e3, h3⟩ := h2.rp
      exact hr z us ds e s2 σ H2 Sh2 Q e2.sub e2.town q2 e3 h3
    · exact h.elim
  cases m with
  | split =>
    cases hm
    refine peW (pe_bm PySem.F.plainAttrs_str PySem.F.slot_str_split PySem.F.type_str_split mt_split ho ha (plain_base hp) few hl (star1 hs _) rfl) (texts (fun z us ds e s σ H Sh Q sub tw ru he hq => ?_) fun d hd => ?_)
    · match ds, ru, he with
      | [d], .cons r1 .nil, he =>
        simp only [mthD] at he
        split at he
        · rename_i y
          cases r1
          split at he
          · rename_i c hc
            split at he
            · rename_i hz
              cases he
              have hy : (y.length == 0) = false := by
                have : y.length = (tlS y).length := by simp [tlS, Str.length]
                rw [this, hc]
                rfl
              refine ⟨z, y, rfl, rfl, hy, Nat.le_trans (Nat.add_le_add_right hz.1 2) (by decide), ?_⟩
              rw [split_list hc hz.2]
              intro p hp
              refine hq.newL sub tw ?_ hp
              unfold splD
              rw [List.map_map]
              exact repL_tx _
            · cases he
          · cases he
        · cases he
      | [], _, he => simp [mthD] at he
      | _ :: _ :: _, _, he => simp [mthD] at he
    · cases d <;> first | exact ⟨_, rfl⟩ | cases hd
  | join =>
    cases hm
    refine peW (pe_bm PySem.F.plainAttrs_str PySem.F.slot_str_join PySem.F.type_str_join mt_join ho ha (plain_base hp) few hl (star1 hs _) rfl) (texts (fun z us ds e s σ H Sh Q sub tw ru he hq => ?_) fun d hd => ?_)
    · match ds, ru, he with
      | [d], .cons r1 .nil, he =>
        simp only [mthD] at he
        split at he
        · rename_i ys
          cases r1 with
          | lst x1 y1 =>
            obtain ⟨ks, e1, e2⟩ := Option.bind_eq_some_iff.mp he
            split at e2
            · rename_i hz
              cases e2
              have hv := y1.strs e1
              subst hv
              refine ⟨z, _, ks, rfl, rfl, .inl (SqL.of (sub _ _ x1)), Nat.le_trans hz (by decide), ?_⟩
              rw [join_list']
              exact hq.here sub tw (.str _)
            · cases e2
        · cases he
      | [], _, he => simp [mthD] at he
      | _ :: _ :: _, _, he => simp [mthD] at he
    · cases d <;> first | exact ⟨_, rfl⟩ | cases hd
  | index =>
    cases hm
    refine peW (pe_bm PySem.F.plainAttrs_list PySem.F.slot_list_index PySem.F.type_list_index (mt_indexD (by have := gr.hu; omega)) ho ha (plain_base hp) few hl (star1 hs _) rfl) (lists (fun v us xs ds e s H Sh Q sub tw rv ru he hq => ?_) fun d hd => ?_)
    · cases rv with
      | lst x1 y1 =>
        match ds, ru, he with
        | [], _, he => simp [mthD] at he
        | [d], .cons r1 .nil, he =>
          simp only [mthD] at he
          split at he
          · rename_i hpl
            rw [Bool.and_eq_true] at hpl
            obtain ⟨i, e5, rfl⟩ := Option.map_eq_some_iff.mp he
            have hpx : ∀ y ∈ xs, y.pl 8 = true := by simpa using hpl.2
            obtain ⟨h5, h6, h7⟩ := List.findIdx?_eq_some_iff_getElem.mp e5
            rw [gr.hk]
            refine ⟨_, _, d.toP, _, i, xs[i].toP, rfl, rfl, rd_pl sub x1 y1 hpl.2, r1.dp sub 8 hpl.1, D.shaped (plLst hpl.2) (by decide), D.shaped hpl.1 (by decide), toPL_get (List.getElem?_eq_getElem h5), ?_, fun j z hj hz => ?_, hq _ (.int _)⟩
            · rw [D.eqvP _ _ 8 8 (hpx _ (List.getElem_mem h5)) hpl.1]
              exact h6
            · have hjl : j < xs.length := Nat.lt_trans hj h5
              rw [toPL_get (List.getElem?_eq_getElem hjl)] at hz
              cases hz
              rw [D.eqvP _ _ 8 8 (hpx _ (List.getElem_mem hjl)) hpl.1]
              simpa using h7 j hj
          · cases he
        | _ :: _ :: _, _, he => simp [mthD] at he
    · cases d <;> first | exact ⟨_, rfl⟩ | cases hd
  | count =>
    cases hm
    refine peW (pe_bm PySem.F.plainAttrs_list PySem.F.slot_list_count PySem.F.type_list_count (mt_countD (by have := gr.hu; omega)) ho ha (plain_base hp) few hl (star1 hs _) rfl) (lists (fun v us xs ds e s H Sh Q sub tw rv ru he hq => ?_) fun d hd => ?_)
    · cases rv with
      | lst x1 y1 =>
        match ds, ru, he with
        | [], _, he => simp [mthD] at he
        | [d], .cons r1 .nil, he =>
          simp only [mthD] at he
          split at he
          · rename_i hpl
            rw [Bool.and_eq_true] at hpl
            cases he
            have hpx : ∀ y ∈ xs, y.pl 8 = true := by simpa using hpl.2
            rw [gr.hk]
            refine ⟨_, _, d.toP, _, rfl, rfl, rd_pl sub x1 y1 hpl.2, r1.dp sub 8 hpl.1, D.shaped (plLst hpl.2) (by decide), D.shaped hpl.1 (by decide), ?_⟩
            rw [toPL_count hpl.1 hpx]
            exact hq _ (.int _)
          · cases he
        | _ :: _ :: _, _, he => simp [mthD] at he
    · cases d <;> first | exact ⟨_, rfl⟩ | cases hd
  | _ => cases hm
theorem sCall {X : Cx} {W : WX} {f : Nat} {fd : Fd} {p pos : Pos} {y : Expr} {ys : List Expr} {el : G → S → EV (List D)} (gr : Gr tb k Z X) (tk : Takes X W) (hf : tb.fs f = some fd) (hg : Gl X fd.name) (hn : okN fd.name = true) (hs : ∀ e ∈ y :: ys, notStar e = true) (ha : PA X (y :: ys) (tA Z W H0 el)) :
    PE X (.Call (.Name fd.name p) (y :: ys) [] pos) (tV Z W H0 fun g s => rb (el g s) fun ds s => sem tb k f ds s) := by
  have s1 := star1 (es := ys) (hs y List.mem_cons_self) X.env
  have s2 := stars (fun e he => hs e (List.mem_cons_of_mem _ he)) pos X.env
  obtain ⟨hm, hkp, fdt, hb, F⟩ := gr.fn f fd hf
  refine peW (pe_callSD (E := fun σ => WE W σ) F gr.room hg hm hkp hb .nil (fun σ => passAt tk σ) ha (okN_of hn).1 s1 s2) fun σ H Q ⟨g, s, Sh, ok, h⟩ => ⟨g, s, Sh, ok, EvX.bind h fun ds s1 vs H1 Sh1 e1 q1 h => ?_⟩
  rw [List.append_nil]
  refine ⟨?_, ds, s1, Sh1, e1.sub, e1.town, q1, ?_⟩
  · rw [← q1.length]
    cases k with
    | zero => exact h.elim
    | succ k =>
      have h2 : EvX Z W (Rep Z) (sem tb (k + 1) f ds s1) σ H1 Sh1 Q := h
      rw [sem_succ, hf] at h2
      dsimp only at h2
      split at h2
      · rename_i hl
        exact hl
      · exact h2.elim
  · have h2 : EvX Z W (Rep Z) (sem tb k f ds s1) σ H1 Sh1 Q := h
    unfold EvX at h2 ⊢
    exact h2
end
/-! a list that begins with a written text and ends with a text put otherwise -/
section
variable {Z : Gd} {W : WX} {H0 : Ent} {X : Cx}
theorem petW {e : Expr} {t t' : TE} (h : PET X e t) (w : ∀ σ H Q, t' σ H Q → t σ H Q) : PET X e t' := fun pins s σ H Q h0 I q => h pins s σ H Q h0 I (w σ H Q q)
theorem patW {es : List Expr} {t t' : TA} (h : PAT X es t) (w : ∀ σ H Q, t' σ H Q → t σ H Q) : PAT X es t' := fun pos pins s σ H Q h0 I q => h pos pins s σ H Q h0 I (w σ H Q q)
theorem sRpl {o : Expr} {y z : Str} {j i : Nat} {c0 c1 a c : Pos} {ea : G → S → EV D} (hyz : (y == z) = false) (hb : plainB o = true) (hl : (a.endLine == c.line) = true) (ho : PE X o (tV Z W H0 ea)) :
    PET X (.Call (.Attribute o "replace" a) [.Constant (.str y) j c0, .Constant (.str z) i c1] [] c) (tV Z W H0 fun g s => rb (ea g s) fun x s => rp (rplD y z x) s) :=
  petW (CwR.pet_replC ho hyz rfl (plain_base hb) hl) fun σ H Q ⟨g, s, Sh, ok, h⟩ => ⟨g, s, Sh, ok, EvX.bind h fun d s1 v H1 Sh1 e1 q1 h => by
    obtain ⟨e, e3, h3⟩ := h.rp
    cases d <;> first | (cases e3; done) | skip
    rename_i x
    cases q1
    simp only [rplD] at e3
    split at e3
    · rename_i c hc
      split at e3
      · rename_i hz
        cases e3
        refine ⟨x, rfl, ?_, ?_⟩
        · have : (x.length + 1) * z.length ≤ 100001 * 10 := Nat.mul_le_mul (Nat.succ_le_succ hz.1) hz.2.1
          have := hz.1
          show x.length + (x.length + 1) * z.length ≤ _
          omega
        · rw [replace_list hc hz.2.2]
          exact h3.here e1.sub e1.town (.str _)
      · cases e3
    · cases e3⟩
theorem sNilT {l : Expr} {ea : G → S → EV D} (hs : notStar l = true) (h : PET X l (tV Z W H0 ea)) : PAT X [l] (tA Z W H0 fun g s => rb (ea g s) fun d s => some (.ok [d], s)) :=
  patW (pat_cons h pat_nil (star1 hs _)) fun σ H Q ⟨g, s, Sh, ok, h⟩ => ⟨g, s, Sh, ok, EvX.bind h fun d s1 v H1 Sh1 e1 q1 h => h.here e1.sub e1.town (.cons q1 .nil)⟩
theorem sConsT {e : Expr} {es : List Expr} {ea : G → S → EV D} {el : G → S → EV (List D)} (hs : notStar e = true) (ha : PE X e (tV Z W H0 ea)) (hb : PAT X es (tA Z W H0 el)) : PAT X (e :: es) (tA Z W H0 fun g s => rb (ea g s) fun d s => rb (el g s) fun ds s => some (.ok (d :: ds), s)) :=
  patW (pat_cons (CwR.PET.of ha) hb (star1 hs _)) fun σ H Q ⟨g, s, Sh, ok, h⟩ => ⟨g, s, Sh, ok, EvX.bind h fun x s1 v H1 Sh1 e1 q1 h => ⟨g, s1, Sh1, ok.ext e1, EvX.bind h fun ys s2 u H2 Sh2 e2 q2 h =>
    EvX.here h e2.sub e2.town (.cons (q1.mono e2.shs) q2)⟩⟩
theorem sFstT {x : Str} {j : Nat} {p : Pos} {es : List Expr} {el : G → S → EV (List D)} (h : PAT X es (tA Z W H0 el)) : PA X (.Constant (.str x) j p :: es) (tA Z W H0 fun g s => rb (el g s) fun ds s => some (.ok (.str x :: ds), s)) := by
  have q : PA X (.Constant (.str x) j p :: es) (tCons (tC (.str x)) (tA Z W H0 el)) := ⟨fun pos pins s σ H Q I hq => by
    show wpAny _ _ (spliced ((false, eval (.Constant (.str x) j p) X.env) :: backTo pos (starEach es X.env))) _ _ s
    refine Calls.spliced_cons (Calls.Constant_str ?_)
    exact thn (h pos pins _ σ H _ (Nat.le_add_left 1 s.toks) (I.tok (s.toks + 1)) hq) fun us s2 ⟨xs, H2, I2, r2, q2⟩ => ⟨.str x :: xs, H2, I2, .cons ⟨s.toks, rfl⟩ r2, q2⟩⟩
  exact paW q fun σ H Q ⟨g, s, Sh, ok, h⟩ => ⟨g, s, Sh, ok, EvX.bind h fun ds s1 vs H1 Sh1 e1 q1 h => h.here e1.sub e1.town (.cons (.str x) q1)⟩
end
end FR
/-! FrSndN: dicts, sets, lists handed over: the rules for expressions. -/
namespace FR
open PySem PySem.Spec PyProof.Rows L2
section
variable {tb : Tb} {k : Nat} {Z : Gd} {H0 : Ent} {W : WX} {X : Cx}
/-! ### new dicts -/
/-- the answer is a new dict, not yet shared -/
def EvFD (Z : Gd) (W : WX) (o : EV D) (σ : L2.St) (H Sh : Hp) (Q : VK) : Prop := match o with
  | some (.ok (.dct ds), s) => ∀ (p : Addr) (vs : List (Key × V)) (H' Sh' : Hp), Ext Z H Sh H' Sh' s → H p = none → H' p = some (.dK vs) → Sh' p = none → RepK Z Sh' ds vs → Q (.ref p) H'
  | some (.exn c, s) => ∀ (H' Sh' : Hp), Ext Z H Sh H' Sh' s → W (.ref (Z.cA c)) none σ H'
  | _ => False
def tFD (Z : Gd) (W : WX) (H0 : Ent) (ev : G → S → EV D) : TE := fun σ H Q => ∃ (g : G) (s : S) (Sh : Hp), Ok Z H0 σ g H Sh s ∧ EvFD Z W (ev g s) σ H Sh Q
theorem fDct0 {p : Pos} : PE X (.Dict [] [] p) (tFD Z W H0 fun _ s => some (.ok (.dct []), s)) :=
  peW pe_dnewK fun σ H Q ⟨g, s, Sh, ok, h⟩ p hp => h p [] _ Sh (Ext.allocH ok.sub ok.town hp _) hp upd_same (same_none ok.sub hp) .nil
theorem EvFD.bind {α β : Type} {rel : Hp → α → β → Prop} {o : EV α} {f : α → S → EV D} {σ : L2.St} {H Sh : Hp} {Q : VK} {Q' : β → Hp → Prop} (h : EvFD Z W (rb o f) σ H Sh Q)
    (k : ∀ a s' v H' Sh', Ext Z H Sh H' Sh' s' → rel Sh' a v → EvFD Z W (f a s') σ H Sh Q → Q' v H') : EvX Z W rel o σ H Sh Q' := by
  unfold EvX
  cases o with
  | none => exact h
  | some p =>
    obtain ⟨r, s1⟩ := p
    cases r with
    | exn c => exact h
    | ok a => exact fun v H' Sh' e r => k a s1 v H' Sh' e r h
theorem EvFD.new {σ : L2.St} {H Sh H1 Sh1 : Hp} {s : S} {ds : List (Key × D)} {vs : List (Key × V)} {Q : VK} {p : Addr} (h : EvFD Z W (some (.ok (.dct ds), s)) σ H Sh Q) (e : Ext Z H Sh H1 Sh1 s) (nT : H p = none) (r : RepK Z Sh1 ds vs) (hp : H1 p = none) : Q (.ref p) (upd H1 p (.dK vs)) :=
  h p vs _ Sh1 (e.trans (Ext.allocH e.sub e.town hp _)) nT upd_same (same_none e.sub hp) r
theorem fDict {p pos : Pos} {y : Expr} {ea : G → S → EV D} (gr : Gr tb k Z X) (hg : Gl X "dict") (hs : notStar y = true) (ha : PE X y (tV Z W H0 ea)) :
    PE X (.Call (.Name "dict" p) [y] [] pos) (tFD Z W H0 fun g s => rb (ea g s) fun d s => rp (dictD d s) s) := by
  have h0 := pe_callTy (p := p) (pos := pos) (CallR.or (call_dictP gr.calm) call_dictD) hg (gr.blt _ (by decide)) (by decide +kernel) (pa_cons ha pa_nil (star1 hs _)) (by decide) (by decide) (star1 hs _) (by rfl)
  rw [gr.hk] at h0
  refine peW h0 fun σ H Q ⟨g, s, Sh, ok, h⟩ => ⟨g, s, Sh, ok, EvFD.bind h fun d s1 v H1 Sh1 e1 r h => ?_⟩
  cases q : dictD d s1 with
  | none =>
    rw [q] at h
    exact h.elim
  | some d2 =>
    rw [q] at h
    cases r with
    | lst x y =>
      obtain ⟨ps, e2, e3⟩ := Option.bind_eq_some_iff.mp (show (pairsD _).bind _ = some d2 from q)
      split at e3
      · cases e3
        obtain ⟨as, kvs, rfl, pr, rk⟩ := y.pairs e1.sub e2
        exact .inl ⟨_, as, kvs, rfl, SqL.of (e1.sub _ _ x), pr, fun p hp => EvFD.new h e1 (e1.nofree ok.town hp) (RepK.merge .nil rk) hp⟩
      · cases e3
    | dct x y =>
      cases q
      exact .inr ⟨_, _, rfl, .inr ⟨_, e1.sub _ _ x⟩, fun p hp => EvFD.new h e1 (e1.nofree ok.town hp) y hp⟩
    | _ => cases q
/-! ### new lists: sorted(x), list(x) -/
theorem fSorted {p pos : Pos} {y : Expr} {ea : G → S → EV D} (gr : Gr tb k Z X) (hg : Gl X "sorted") (hs : notStar y = true) (ha : PE X y (tV Z W H0 ea)) :
    PE X (.Call (.Name "sorted" p) [y] [] pos) (tF Z W H0 fun g s => rb (ea g s) fun d s => rp (sortedD d s) s) := by
  have h0 := pe_callB (p := p) (pos := pos) (CallR.or cr_sortedS (CallR.or cr_sorted (call_sortedD gr.calm))) hg (gr.blt _ (by decide)) (by decide +kernel) (pa_cons ha pa_nil (star1 hs _)) (by decide) (by decide) (star1 hs _) (by rfl)
  rw [gr.hk] at h0
  refine peW h0 fun σ H Q ⟨g, s, Sh, ok, h⟩ => ⟨g, s, Sh, ok, EvF.bind h fun d s1 v H1 Sh1 e1 r h => ?_⟩
  cases q : sortedD d s1 with
  | none =>
    rw [q] at h
    exact h.elim
  | some d2 =>
    rw [q] at h
    cases r with
    | lst x y =>
      change sortedL _ = some d2 at q
      unfold sortedL at q
      split at q
      · rename_i ks q1
        split at q
        · rename_i h64
          cases q
          have hv := y.strs q1
          subst hv
          refine .inl ⟨_, ks, rfl, SqL.of (e1.sub _ _ x), h64, fun ys p hp hs np => ?_⟩
          rw [sortS_uniq hp hs]
          exact EvF.new h e1 (e1.nofree ok.town np) (repL_strs _) np
        · cases q
      · split at q
        · rename_i ns q1
          split at q
          · rename_i h64
            cases q
            have hv := y.ints q1
            subst hv
            refine .inr (.inl ⟨_, ns, rfl, SqL.of (e1.sub _ _ x), h64, fun ys p hp hs np => ?_⟩)
            rw [sortI_uniq hp hs]
            exact EvF.new h e1 (e1.nofree ok.town np) (repL_ints _) np
          · cases q
        · cases q
    | dct x y =>
      obtain ⟨ks, e2, h64, rfl⟩ := keySort_eq (show keySortD _ = some d2 from q)
      refine .inr (.inr ⟨_, _, ks, rfl, .inr ⟨_, e1.sub _ _ x⟩, y.keyS e2, h64, fun ys p hp hs np => ?_⟩)
      rw [sortS_uniq hp hs]
      exact EvF.new h e1 (e1.nofree ok.town np) (repL_strs _) np
    | _ => cases q
theorem EvF.far {o : EV D} {σ : L2.St} {H Sh H1 Sh1 : Hp} {s0 s1 : S} {Q : VK} (h : EvF Z W o σ H Sh Q) (t : TownOk Z H Sh s0) (e : Ext Z H Sh H1 Sh1 s1) : EvF Z W o σ H1 Sh1 Q := by
  unfold EvF at *
  split
  · exact fun p vs H' Sh' x hp hv hs r => h p vs H' Sh' (e.trans x) (e.nofree t hp) hv hs r
  · exact fun H' Sh' x => h H' Sh' (e.trans x)
  · rename_i n1 n2
    split at h
    · exact n1 _ _ rfl
    · exact n2 _ _ rfl
    · exact h
/-- a new list: a list so many times -/
theorem fRep {pos : Pos} {a b : Expr} {ea eb : G → S → EV D} (ha : PE X a (tV Z W H0 ea)) (hb : PE X b (tV Z W H0 eb)) :
    PE X (.BinOp a .Mult b pos) (tF Z W H0 fun g s => rb (ea g s) fun x s => rb (eb g s) fun y s => rp (mulL x y) s) :=
  peW (pe_op op_rep ha hb) fun σ H Q ⟨g, s, Sh, ok, h⟩ => ⟨g, s, Sh, ok, EvF.bind h fun x s1 v H1 Sh1 e1 r1 h1 => ⟨g, s1, Sh1, ok.ext e1, EvF.bind (h1.far ok.town e1) fun y s2 u H2 Sh2 e2 r2 h2 => by
    cases q : mulL x y with
    | none =>
      rw [q] at h2
      exact h2.elim
    | some d =>
      rw [q] at h2
      unfold mulL at q
      split at q
      · have r1' := r1.mono e2.shs
        cases r1' with
        | lst x1 y1 =>
          cases r2
          split at q
          · rename_i hl
            cases q
            have hz : (SZ : Int) < 2 ^ 63 := by decide
            refine ⟨_, _, _, rfl, rfl, e2.sub _ _ x1, by omega, by omega, ?_, fun p hp => EvF.new h2 e2 (e2.nofree e1.town hp) (y1.rep _) hp⟩
            rw [← y1.length]
            exact szLine hl.1
          · cases q
      · cases q⟩⟩
theorem fList {p pos : Pos} {y : Expr} {ea : G → S → EV D} (gr : Gr tb k Z X) (hg : Gl X "list") (hs : notStar y = true) (ha : PE X y (tV Z W H0 ea)) :
    PE X (.Call (.Name "list" p) [y] [] pos) (tF Z W H0 fun g s => rb (ea g s) fun d s => rp (listD d s) s) := by
  have h0 := pe_callTy (p := p) (pos := pos) (CallR.or call_list_of (cr_listS gr.calm)) hg (gr.blt _ (by decide)) (by decide +kernel) (pa_cons ha pa_nil (star1 hs _)) (by decide) (by decide) (star1 hs _) (by rfl)
  rw [gr.hk] at h0
  refine peW h0 fun σ H Q ⟨g, s, Sh, ok, h⟩ => ⟨g, s, Sh, ok, EvF.bind h fun d s1 v H1 Sh1 e1 r h => ?_⟩
  cases q : listD d s1 with
  | none =>
    rw [q] at h
    exact h.elim
  | some d2 =>
    rw [q] at h
    cases r with
    | lst x y =>
      cases q
      exact .inl ⟨_, _, rfl, .inl (SqL.of (e1.sub _ _ x)), fun p np => EvF.new h e1 (e1.nofree ok.town np) y np⟩
    | tup x y =>
      cases q
      exact .inl ⟨_, _, rfl, .inr (seqT e1.sub x), fun p np => EvF.new h e1 (e1.nofree ok.town np) y np⟩
    | str x =>
      change (if x.length ≤ 1000 then some (.lst ((tlS x).map fun c => .str ⟨#[c]⟩)) else none) = some d2 at q
      split at q
      · rename_i hl
        cases q
        exact .inr ⟨x, rfl, hl, fun p np => EvF.new h e1 (e1.nofree ok.town np) (repL_sgs _) np⟩
      · cases q
    | _ => cases q
/-- a new dict, shared from now on -/
theorem sDct0 {p : Pos} : PE X (.Dict [] [] p) (tV Z W H0 fun _ s => some (.ok (.dct []), s)) :=
  peW (pe_lkP pe_dnewK) fun σ H Q ⟨g, s, Sh, ok, h⟩ p hp => EvX.newD h ok.sub ok.town .nil hp
theorem Ext.fill {H1 Sh1 H Sh : Hp} {s : S} {p : Addr} {o : HO} (e : Ext Z H1 Sh1 H Sh s) (h1 : H1 p = none) (h2 : Sh p = none) (h3 : some p ≠ Z.T) : Ext Z H1 Sh1 (upd H p o) Sh s where
  frame := fun a x hT hx => by
    rw [upd_ne (ne_of_none hx h1)]
    exact e.frame a x hT hx
  shs := e.shs
  sub := fun a x hx => by
    rw [upd_ne (ne_of_none hx h2)]
    exact e.sub a x hx
  town := by
    have t := e.town
    unfold TownOk at t ⊢
    split at t
    · trivial
    · rename_i a n e1
      have hne : a ≠ p := fun z => h3 (by rw [← z, e1])
      rw [upd_ne hne]
      exact t
    · exact t
  new := e.new
theorem upd_upd2 {H : Hp} {p : Addr} {o u : HO} : L2.upd (L2.upd H p o) p u = L2.upd H p u := by
  funext b
  by_cases q : b = p
  · subst q
    rw [upd_same, upd_same]
  · rw [upd_ne q, upd_ne q, upd_ne q]
theorem not_town {H Sh : Hp} {s : S} {p : Addr} (t : TownOk Z H Sh s) (hp : H p = none) : some p ≠ Z.T := fun z => by
  obtain ⟨n, _, _, h⟩ := t.there z.symm
  rw [hp] at h
  cases h
theorem sDisp1 {c : Cst} {y : Expr} {i : Nat} {p p2 : Pos} {kk : Key} {ea : G → S → EV D} (hc : cstK c = some kk) (ha : PE X y (tV Z W H0 ea)) :
    PE X (.Dict [some (.Constant c.k i p)] [y] p2) (tV Z W H0 fun g s => rb (ea g s) fun x s => rp ((cstK c).map fun k => .dct [(k, x)]) s) := by
  have key : PE X (.Constant c.k i p) (tC (kV kk)) := by
    cases c with
    | int j =>
      cases hc
      exact pe_int
    | str z =>
      cases hc
      exact pe_str
    | _ => cases hc
  refine peW (pe_lkP (pe_disp (pps_cons key ha pps_nil) rfl rfl (by simp) (by simp))) fun σ H Q ⟨g, s, Sh, ok, h⟩ p hp => ?_
  have e0 := Ext.allocH (o := .dK []) ok.sub ok.town hp
  have nT := not_town ok.town hp
  refine ⟨g, s, Sh, ok.ext e0, ?_⟩
  dsimp only at h
  unfold EvX
  cases q0 : ea g s with
  | none =>
    rw [q0] at h
    exact h
  | some pr =>
    obtain ⟨rr, s1⟩ := pr
    rw [q0] at h
    cases rr with
    | exn c => exact fun H' Sh' e => h H' Sh' (e0.trans e)
    | ok d =>
      intro v H1 Sh1 e1 r
      rw [rb_ok, hc] at h
      have at1 : H1 p = some (.dK []) := e1.frame p _ nT upd_same
      have sh1 : Sh1 p = none := by
        cases q : Sh1 p with
        | none => rfl
        | some o =>
          rcases e1.new p o q with z | z
          · have := ok.sub p o z
            rw [hp] at this
            cases this
          · rw [upd_same] at z
            cases z
      refine ⟨at1, [(kk, v)], rfl, by simp, .inr ⟨p, _, upd_same, trivial, fun od => ?_⟩⟩
      rw [upd_upd2]
      have e2 := e0.trans e1
      refine h (.ref p) _ (L2.upd Sh1 p (.frz od (.dK (L2.mergeK [] [(kk, v)])))) ⟨fun a x hT hx => ?_, e2.shs.trans (same_fresh sh1), same_upd2 e2.sub _, ?_, fun a x hx => ?_⟩ (.dct upd_same (.cons (r.mono (same_fresh sh1)) .nil))
      · rw [upd_ne (ne_of_none hx hp)]
        exact e2.frame a x hT hx
      · have e3 := e2.fill (o := .frz od (.dK (L2.mergeK [] [(kk, v)]))) hp sh1 nT
        have t := e3.town
        unfold TownOk at t ⊢
        split at t
        · trivial
        · rename_i a n eT
          have hne : a ≠ p := fun z => nT (by rw [← z, eT])
          rw [upd_ne hne]
          exact t
        · exact t
      · by_cases q : a = p
        · subst q
          exact .inr hp
        · rw [upd_ne q] at hx
          exact e2.new a x hx
/-! ### sorted(set(xs)), len(set(xs)) -/
theorem pSet {p pos : Pos} {y : Expr} {te : TE} (gr : Gr tb k Z X) (hg : Gl X "set") (hs : notStar y = true) (ha : PE X y te) : PE X (.Call (.Name "set" p) [y] [] pos) (tCB (rSetT X.K X.prog X.w) (tCons te tNil)) :=
  pe_callTy (cr_setT gr.calm) hg (gr.blt _ (by decide)) (by decide +kernel) (pa_cons ha pa_nil (star1 hs _)) (by decide) (by decide) (star1 hs _) (by rfl)
theorem EvX.allocN {σ : L2.St} {H Sh : Hp} {s : S} {Q : VK} {d : D} {p : Addr} {o : HO} (h : EvX Z W (Rep Z) (some (.ok d, s)) σ H Sh Q) (sub : Same Sh H) (t : TownOk Z H Sh s) (hp : H p = none) : EvX Z W (Rep Z) (some (.ok d, s)) σ (upd H p o) Sh Q :=
  h.mv (Ext.allocH sub t hp o)
theorem sSSort {p p2 p3 pos : Pos} {y : Expr} {ea : G → S → EV D} (gr : Gr tb k Z X) (hg : Gl X "sorted") (hg2 : Gl X "set") (hs : notStar y = true) (ha : PE X y (tV Z W H0 ea)) :
    PE X (.Call (.Name "sorted" p) [.Call (.Name "set" p2) [y] [] p3] [] pos) (tV Z W H0 fun g s => rb (ea g s) fun x s => rp (setSortD x) s) := by
  refine peW (pe_callB (cr_sortT gr.calm) hg (gr.blt _ (by decide)) (by decide +kernel) (pa_cons (pSet gr hg2 hs ha) pa_nil (by rfl)) (by decide) (by decide) (by rfl) (by rfl)) fun σ H Q ⟨g, s, Sh, ok, h⟩ => ⟨g, s, Sh, ok, EvX.bind h fun x s1 v H1 Sh1 e1 q1 h => ?_⟩
  obtain ⟨d, e, h1⟩ := h.rp
  cases q1 with
  | lst x1 y1 =>
    obtain ⟨ks, e2, e3⟩ := Option.bind_eq_some_iff.mp (show (strsD _).bind _ = some d from e)
    split at e3
    · rename_i h64
      cases e3
      have hv := y1.strs e2
      subst hv
      rw [gr.hk]
      refine ⟨_, ks, rfl, SqL.of (e1.sub _ _ x1), by omega, fun p js hp nd hm => ?_⟩
      have pm := once_perm nd hm
      refine ⟨p, js, rfl, upd_same, ?_, fun ys q pq hq hn => ?_⟩
      · rw [pm.length_eq]
        exact Nat.lt_of_le_of_lt (once_len ks) h64
      · rw [sortS_uniq (pq.trans pm) hq]
        have e4 := Ext.allocH (o := TxO X.prog X.w p js) e1.sub e1.town hp
        exact (h1.allocN e1.sub e1.town hp).newL e4.sub e4.town (repL_strs _) hn
    · cases e3
  | _ => cases e
/-! points -/
theorem mem_onceP {x : PtK} : ∀ {l : List PtK}, x ∈ onceP l ↔ x ∈ l
  | [] => Iff.rfl
  | y :: r => by
    unfold onceP
    split
    · rename_i h
      rw [mem_onceP, List.mem_cons]
      exact ⟨.inr, fun z => z.elim (fun e => e ▸ h) id⟩
    · rw [List.mem_cons, List.mem_cons, mem_onceP]
theorem nodup_onceP : ∀ l : List PtK, (onceP l).Nodup
  | [] => List.nodup_nil
  | y :: r => by
    unfold onceP
    split
    · exact nodup_onceP r
    · rename_i h
      exact List.nodup_cons.mpr ⟨fun z => h (mem_onceP.mp z), nodup_onceP r⟩
theorem onceP_perm {l m : List PtK} (n : l.Nodup) (h : ∀ x, x ∈ l ↔ x ∈ m) : l.Perm (onceP m) := (List.perm_ext_iff_of_nodup n (nodup_onceP m)).mpr fun x => (h x).trans mem_onceP.symm
theorem ptK_eq {d : D} {p : PtK} (h : ptK d = some p) : d = .tup [.tup [.int p.1.1, .int p.1.2], .tup [.int p.2.1, .int p.2.2]] := by
  unfold ptK at h
  split at h
  · cases h
    rfl
  · cases h
theorem rep_pt {Sh : Hp} {p : PtK} {v : V} (r : Rep Z Sh (.tup [.tup [.int p.1.1, .int p.1.2], .tup [.int p.2.1, .int p.2.2]]) v) : ∃ a b c, v = .ref a ∧ SqT Z.K Sh a [.ref b, .ref c] ∧ SqT Z.K Sh b [.int p.1.1, .int p.1.2] ∧ SqT Z.K Sh c [.int p.2.1, .int p.2.2] := by
  cases r with
  | tup x y =>
    cases y with
    | cons y1 y =>
      cases y with
      | cons y2 y =>
        cases y
        cases y1 with
        | tup x1 z1 =>
          cases y2 with
          | tup x2 z2 =>
            cases z1 with
            | cons u1 z1 =>
              cases z1 with
              | cons u2 z1 =>
                cases z1
                cases u1
                cases u2
                cases z2 with
                | cons u3 z2 =>
                  cases z2 with
                  | cons u4 z2 =>
                    cases z2
                    cases u3
                    cases u4
                    exact ⟨_, _, _, rfl, x, x1, x2⟩
theorem RepL.pts {Sh : Hp} : ∀ {ds : List D} {vs : List V} {ps : List PtK}, RepL Z Sh ds vs → ptsK ds = some ps → ∃ ks : List (Addr × PtK), vs = ks.map (fun p => V.ref p.1) ∧ ps = ks.map (·.2) ∧
    ∀ p ∈ ks, ∃ b c, SqT Z.K Sh p.1 [.ref b, .ref c] ∧ SqT Z.K Sh b [.int p.2.1.1, .int p.2.1.2] ∧ SqT Z.K Sh c [.int p.2.2.1, .int p.2.2.2]
  | _, _, _, .nil, h => by
    cases h
    exact ⟨[], rfl, rfl, fun p hp => nomatch hp⟩
  | _, _, _, .cons x y, h => by
    obtain ⟨p, e1, h⟩ := Option.bind_eq_some_iff.mp (show (ptK _).bind _ = some _ from h)
    obtain ⟨qs, e2, rfl⟩ := Option.map_eq_some_iff.mp h
    obtain ⟨ks, rfl, rfl, al⟩ := y.pts e2
    rw [ptK_eq e1] at x
    obtain ⟨a, b, c, rfl, h1, h2, h3⟩ := rep_pt x
    refine ⟨(a, p) :: ks, rfl, rfl, fun q hq => ?_⟩
    rcases List.mem_cons.mp hq with rfl | hq
    · exact ⟨b, c, h1, h2, h3⟩
    · exact al q hq
theorem pSetB {p pos : Pos} {y : Expr} {te : TE} (gr : Gr tb k Z X) (hg : Gl X "set") (hs : notStar y = true) (ha : PE X y te) : PE X (.Call (.Name "set" p) [y] [] pos) (tCB (fun x H Q => rSetT X.K X.prog X.w x H Q ∨ rSetP X.K X.prog X.w x H Q) (tCons te tNil)) :=
  pe_callTy (CallR.or (cr_setT gr.calm) (cr_setP gr.calm (by have := gr.hu; omega))) hg (gr.blt _ (by decide)) (by decide +kernel) (pa_cons ha pa_nil (star1 hs _)) (by decide) (by decide) (star1 hs _) (by rfl)
theorem sSLen {p p2 p3 pos : Pos} {y : Expr} {ea : G → S → EV D} (gr : Gr tb k Z X) (hg : Gl X "len") (hg2 : Gl X "set") (hs : notStar y = true) (ha : PE X y (tV Z W H0 ea)) :
    PE X (.Call (.Name "len" p) [.Call (.Name "set" p2) [y] [] p3] [] pos) (tV Z W H0 fun g s => rb (ea g s) fun x s => rp (setLenD x) s) := by
  refine peW (pe_callB (CallR.or cr_lenT cr_lenP) hg (gr.blt _ (by decide)) boot_len (pa_cons (pSetB gr hg2 hs ha) pa_nil (by rfl)) (by decide) (by decide) (by rfl) (by rfl)) fun σ H Q ⟨g, s, Sh, ok, h⟩ => ⟨g, s, Sh, ok, EvX.bind h fun x s1 v H1 Sh1 e1 q1 h => ?_⟩
  obtain ⟨d, e, h1⟩ := h.rp
  cases q1 with
  | lst x1 y1 =>
    simp only [setLenD] at e
    split at e
    · rename_i ks e2
      split at e
      · rename_i h64
        cases e
        have hv := y1.strs e2
        subst hv
        rw [gr.hk]
        refine .inl ⟨_, ks, rfl, SqL.of (e1.sub _ _ x1), by omega, fun p js hp nd hm => ?_⟩
        have pm := once_perm nd hm
        refine .inl ⟨p, js, rfl, upd_same, ?_⟩
        rw [pm.length_eq]
        have e4 := Ext.allocH (o := TxO X.prog X.w p js) e1.sub e1.town hp
        exact (h1.allocN e1.sub e1.town hp).here e4.sub e4.town (.int _)
      · cases e
    · obtain ⟨ps, e2, e3⟩ := Option.bind_eq_some_iff.mp e
      split at e3
      · rename_i h64
        cases e3
        obtain ⟨ks, hv, rfl, al⟩ := y1.pts e2
        subst hv
        rw [gr.hk]
        rw [List.length_map] at h64
        refine .inr ⟨_, ks, rfl, SqL.of (e1.sub _ _ x1), h64, fun p hp => ?_, fun p js hp nd hm => ?_⟩
        · obtain ⟨b, c, k1, k2, k3⟩ := al p hp
          exact ⟨b, c, seqT e1.sub k1, seqT e1.sub k2, seqT e1.sub k3⟩
        · have pm := onceP_perm nd hm
          refine .inr ⟨p, js.length, rfl, upd_same, ?_⟩
          rw [pm.length_eq]
          have e4 := Ext.allocH (o := PsO X.prog X.w p js.length) e1.sub e1.town hp
          rw [pm.length_eq] at e4
          exact (h1.allocN e1.sub e1.town hp).here e4.sub e4.town (.int _)
      · cases e3
  | _ => cases e
/-! ### sorted(d.keys()), list(d.keys()) -/
theorem sKSort {p pos ap cp : Pos} {o : Expr} {ea : G → S → EV D} (gr : Gr tb k Z X) (hg : Gl X "sorted") (hb : plainB o = true) (hl : (ap.endLine == cp.line) = true) (ha : PE X o (tV Z W H0 ea)) :
    PE X (.Call (.Name "sorted" p) [.Call (.Attribute o "keys" ap) [] [] cp] [] pos) (tV Z W H0 fun g s => rb (ea g s) fun x s => rp (keySortD x) s) := by
  refine peW (pe_callB (cr_sortK gr.calm) hg (gr.blt _ (by decide)) (by decide +kernel) (pa_cons (pe_keys ha (plain_base hb) hl) pa_nil (by rfl)) (by decide) (by decide) (by rfl) (by rfl)) fun σ H Q ⟨g, s, Sh, ok, h⟩ => ⟨g, s, Sh, ok, EvX.bind h fun x s1 v H1 Sh1 e1 q1 h => ?_⟩
  obtain ⟨d, e, h1⟩ := h.rp
  cases q1 with
  | @dct ad ob vs ds x1 y1 =>
    obtain ⟨ks, e2, h64, rfl⟩ := keySort_eq e
    refine ⟨_, _, rfl, .inr ⟨_, e1.sub _ _ x1⟩, fun p hp => ?_⟩
    have e4 := Ext.allocH (o := KeyV p ad) e1.sub e1.town hp
    refine ⟨p, ad, vs, ks, rfl, upd_same, .inr ⟨ob, ?_⟩, y1.keyS e2, h64, fun ys q pq hq hn => ?_⟩
    · rw [upd_ne (ne_of_none (e1.sub _ _ x1) hp)]
      exact e1.sub _ _ x1
    · rw [sortS_uniq pq hq]
      exact (h1.allocN e1.sub e1.town hp).newL e4.sub e4.town (repL_strs _) hn
  | _ => cases e
theorem RepK.repKeys {h : Hp} : ∀ {ds : List (Key × D)} {vs : List (Key × V)}, RepK Z h ds vs → RepL Z h (ds.map fun kv => Ky.d kv.1) (vs.map fun kv => kV kv.1)
  | _, _, .nil => .nil
  | _, _, .cons x y => .cons (rep_ky _) (RepK.repKeys y)
theorem sKList {p pos ap cp : Pos} {o : Expr} {ea : G → S → EV D} (gr : Gr tb k Z X) (hg : Gl X "list") (hb : plainB o = true) (hl : (ap.endLine == cp.line) = true) (ha : PE X o (tV Z W H0 ea)) :
    PE X (.Call (.Name "list" p) [.Call (.Attribute o "keys" ap) [] [] cp] [] pos) (tV Z W H0 fun g s => rb (ea g s) fun x s => rp ((keysL x).map D.lst) s) := by
  refine peW (pe_callTy (cr_listK gr.calm) hg (gr.blt _ (by decide)) (by decide +kernel) (pa_cons (pe_keys ha (plain_base hb) hl) pa_nil (by rfl)) (by decide) (by decide) (by rfl) (by rfl)) fun σ H Q ⟨g, s, Sh, ok, h⟩ => ⟨g, s, Sh, ok, EvX.bind h fun x s1 v H1 Sh1 e1 q1 h => ?_⟩
  obtain ⟨d, e, h1⟩ := h.rp
  cases q1 with
  | @dct ad ob vs ds x1 y1 =>
    cases e
    refine ⟨_, _, rfl, .inr ⟨_, e1.sub _ _ x1⟩, fun p hp => ?_⟩
    have e4 := Ext.allocH (o := KeyV p ad) e1.sub e1.town hp
    refine ⟨p, ad, vs, rfl, upd_same, .inr ⟨ob, ?_⟩, fun q hn => ?_⟩
    · rw [upd_ne (ne_of_none (e1.sub _ _ x1) hp)]
      exact e1.sub _ _ x1
    · exact (h1.allocN e1.sub e1.town hp).newL e4.sub e4.town y1.repKeys hn
  | _ => cases e
/-! ### list(range(..)) -/
theorem repL_rg {h : Hp} {a b : Int} : RepL Z h (rangeD a b) (rgV a b) := by
  unfold rangeD rgV
  generalize List.range (b - a).toNat = l
  induction l with
  | nil => exact .nil
  | cons i l ih => exact .cons (.int _) ih
theorem rgOk {i j : Int} (h1 : i.natAbs ≤ SZ) (h2 : j.natAbs ≤ SZ) : RgOk i j := by
  unfold RgOk SZ at *
  omega
theorem rng_eq {x y : D} {ds : List D} (h : rngD x y = some ds) : ∃ i j : Int, x = .int i ∧ y = .int j ∧ i.natAbs ≤ SZ ∧ j.natAbs ≤ SZ ∧ ds = rangeD i j := by
  unfold rngD at h
  split at h
  · split at h
    · rename_i q
      cases h
      exact ⟨_, _, rfl, rfl, q.1, q.2, rfl⟩
    · cases h
  · cases h
theorem sRngl2 {p p2 p3 pos : Pos} {y z : Expr} {ea eb : G → S → EV D} (gr : Gr tb k Z X) (hg : Gl X "list") (hg2 : Gl X "range") (ny : notStar y = true) (nz : notStar z = true) (ha : PE X y (tV Z W H0 ea)) (hb : PE X z (tV Z W H0 eb)) :
    PE X (.Call (.Name "list" p) [.Call (.Name "range" p2) [y, z] [] p3] [] pos) (tV Z W H0 fun g s => rb (ea g s) fun x s => rb (eb g s) fun y s => rp ((rngD x y).map D.lst) s) := by
  refine peW (pe_listRg gr.calm hg (gr.blt _ (by decide)) (prg_2 hg2 (gr.blt _ (by decide)) ha hb (star1 ny _) (star1 nz _) (stars (fun e he => by cases List.mem_singleton.mp he; exact nz) _ _)) (by rfl)) fun σ H Q ⟨g, s, Sh, ok, h⟩ => ⟨g, s, Sh, ok, EvX.bind h fun x s1 v H1 Sh1 e1 q1 h => ⟨g, s1, Sh1, ok.ext e1, EvX.bind h fun y s2 u H2 Sh2 e2 q2 h => ?_⟩⟩
  obtain ⟨d, e, h1⟩ := h.rp
  obtain ⟨ds, e3, rfl⟩ := Option.map_eq_some_iff.mp e
  obtain ⟨i, j, rfl, rfl, b1, b2, rfl⟩ := rng_eq e3
  cases q1
  cases q2
  exact ⟨i, j, rfl, rfl, rgOk b1 b2, fun q hq => h1.newL e2.sub e2.town repL_rg hq⟩
theorem sRngl1 {p p2 p3 pos : Pos} {y : Expr} {eb : G → S → EV D} (gr : Gr tb k Z X) (hg : Gl X "list") (hg2 : Gl X "range") (ny : notStar y = true) (hb : PE X y (tV Z W H0 eb)) :
    PE X (.Call (.Name "list" p) [.Call (.Name "range" p2) [y] [] p3] [] pos) (tV Z W H0 fun g s => rb (some (.ok (.int 0), s)) fun x s => rb (eb g s) fun y s => rp ((rngD x y).map D.lst) s) := by
  refine peW (pe_listRg gr.calm hg (gr.blt _ (by decide)) (prg_1 hg2 (gr.blt _ (by decide)) hb (star1 ny _)) (by rfl)) fun σ H Q ⟨g, s, Sh, ok, h⟩ => ⟨g, s, Sh, ok, EvX.bind (show EvX Z W (Rep Z) (rb (eb g s) fun y s => rp ((rngD (.int 0) y).map D.lst) s) σ H Sh Q from h) fun y s2 u H2 Sh2 e2 q2 h => ?_⟩
  obtain ⟨d, e, h1⟩ := h.rp
  obtain ⟨ds, e3, rfl⟩ := Option.map_eq_some_iff.mp e
  obtain ⟨i, j, e4, rfl, b1, b2, rfl⟩ := rng_eq e3
  cases e4
  cases q2
  exact ⟨j, rfl, rgOk b1 b2, fun q hq => h1.newL e2.sub e2.town repL_rg hq⟩
/-! ### a list handed over -/
theorem Ext.hide {H Sh H1 Sh1 H2 Sh2 : Hp} {s s1 s2 : S} {a : Addr} (t : TownOk Z H Sh s) (e : Ext Z H Sh H1 Sh1 s1) (f : Ext Z (hide a H1) Sh1 H2 Sh2 s2) (ha : H a = none) : Ext Z H Sh H2 Sh2 s2 where
  frame := fun b o hT h => f.frame b o hT (by
    unfold FR.hide
    rw [if_neg (ne_of_none h ha)]
    exact e.frame b o hT h)
  shs := e.shs.trans f.shs
  sub := f.sub
  town := f.town
  new := fun b o h => by
    rcases f.new b o h with z | z
    · exact e.new b o z
    · unfold FR.hide at z
      split at z
      · rename_i q
        rw [q]
        exact .inr ha
      · exact .inr (e.nofree t z)
theorem semF_fn {f : Nat} {ds : List D} {s : S} {r : R D × S} (h : semF tb k f ds s = some r) : ∃ fd p, tb.fs f = some fd ∧ unret fd.body = some p ∧ ds.length = fd.ps.length := by
  cases k with
  | zero => cases h
  | succ k =>
    rw [semF_succ] at h
    cases q : tb.fs f with
    | none =>
      rw [q] at h
      cases h
    | some fd =>
      rw [q] at h
      dsimp only at h
      cases q2 : unret fd.body with
      | none =>
        rw [q2] at h
        cases h
      | some p =>
        rw [q2] at h
        dsimp only at h
        split at h
        · rename_i hl
          exact ⟨fd, p, rfl, q2, hl⟩
        · cases h
theorem semF_lst {f : Nat} {ds : List D} {s s1 : S} {d : D} (h : semF tb k f ds s = some (.ok d, s1)) : ∃ xs, d = .lst xs := by
  obtain ⟨fd, p, e1, e2, hl⟩ := semF_fn h
  cases k with
  | zero => cases h
  | succ k =>
    rw [semF_succ, e1] at h
    dsimp only at h
    rw [e2] at h
    dsimp only at h
    rw [if_pos hl] at h
    unfold runF at h
    cases q : evSs (enOf tb k) p.1 (startG fd.N.length ds) s with
    | none =>
      rw [q] at h
      cases h
    | some pr =>
      obtain ⟨r, s2⟩ := pr
      rw [q] at h
      cases r with
      | exn c => cases h
      | ok fl =>
        rw [rb_ok] at h
        cases fl with
        | nx g =>
          dsimp only at h
          split at h
          · cases h
            exact ⟨_, rfl⟩
          · cases h
        | _ => cases h
theorem sCallO {f h : Nat} {fd hd : Fd} {q : CSs × Nat} {p1 p2 p3 p4 : Pos} {z : Expr} {zs : List Expr} {el : G → S → EV (List D)} (gr : Gr tb k Z X) (tk : Takes X W) (hf : tb.fs f = some fd) (hh : tb.fs h = some hd) (hq : unret hd.body = some q) (h1 : fd.ps.length = 1) (hg : Gl X fd.name) (hg2 : Gl X hd.name) (hn : okN fd.name = true) (hn2 : okN hd.name = true) (hs : ∀ e ∈ z :: zs, notStar e = true) (ha : PA X (z :: zs) (tA Z W H0 el)) :
    PE X (.Call (.Name fd.name p1) [.Call (.Name hd.name p2) (z :: zs) [] p3] [] p4) (tV Z W H0 fun g s => rb (el g s) fun ds s => rb (semF tb k h ds s) fun d s => semO tb k f [d] s) := by
  have s1 := star1 (es := zs) (hs z List.mem_cons_self) X.env
  have s2 := stars (fun e he => hs e (List.mem_cons_of_mem _ he)) p3 X.env
  obtain ⟨m1, k1, _⟩ := gr.fn f fd hf
  obtain ⟨m2, k2, _⟩ := gr.fn h hd hh
  obtain ⟨fdt1, b1, F1⟩ := gr.fnO f fd hf h1
  obtain ⟨fdt2, b2, F2⟩ := gr.fnF h hd q hh hq
  have inner := pe_callSD (p := p2) (pos := p3) (E := fun σ => WE W σ) F2 gr.room hg2 m2 k2 b2 .nil (fun σ => passAt tk σ) ha (okN_of hn2).1 s1 s2
  refine peW (pe_callSD (E := fun σ => WE W σ) F1 gr.room hg m1 k1 b1 .nil (fun σ => passAt tk σ) (pa_cons inner pa_nil (by rfl)) (okN_of hn).1 (by rfl) (by rfl)) fun σ H Q ⟨g, s, Sh, ok, hE⟩ => ⟨g, s, Sh, ok, EvX.bind hE fun ds s1 vs H1 Sh1 e1 q1 hE => ?_⟩
  rw [List.append_nil]
  have tw := e1.town
  cases r : semF tb k h ds s1 with
  | none =>
    rw [r] at hE
    exact hE.elim
  | some pr =>
    obtain ⟨fd', q', z1, z2, z3⟩ := semF_fn r
    rw [hh] at z1
    cases z1
    refine ⟨by rw [← q1.length]; exact z3, ds, s1, Sh1, e1.sub, tw, q1, ?_⟩
    obtain ⟨rr, s2⟩ := pr
    rw [r] at hE ⊢
    cases rr with
    | exn c => exact hE
    | ok d =>
      obtain ⟨xs, rfl⟩ := semF_lst r
      rw [rb_ok] at hE
      intro p us H2 Sh2 e2 hp hv hs2 rl
      show tNil σ H2 fun xs' H3 => _
      refine ⟨p, us, xs, s2, Sh2, by rw [List.append_nil], e2.sub, e2.town, hv, hs2, not_town tw hp, rl, ?_⟩
      unfold EvX at hE ⊢
      cases r2 : semO tb k f [.lst xs] s2 with
      | none =>
        rw [r2] at hE
        exact hE
      | some pr =>
        obtain ⟨rr, s3⟩ := pr
        rw [r2] at hE
        cases rr with
        | exn c => exact fun H' Sh' e => hE H' Sh' (Ext.hide tw e2 e hp)
        | ok d => exact fun v H' Sh' e r => hE v H' Sh' (Ext.hide tw e2 e hp) r
/-- an item of our own dict -/
theorem Ok.dict {H Sh : Hp} {σ : L2.St} {g : G} {s : S} (k : Ok Z H0 σ g H Sh s) {i : Nat} {ds : List (Key × D)} (e : ownDc g[i]? = some ds) : ∃ a vs, σ[i]? = some (some (.ref a)) ∧ some a ≠ Z.T ∧ ((H a = some (.dK vs)) ∨ ∃ o, H a = some (.frz o (.dK vs))) ∧ RepK Z Sh ds vs := by
  unfold ownDc at e
  split at e
  · rename_i q
    cases e
    obtain ⟨o, e1, a, vs, rfl, _, h2, _, h4, r⟩ := k.get q
    exact ⟨a, vs, e1, h2, .inl h4, r⟩
  · rename_i q
    cases e
    obtain ⟨o, e1, v, rfl, r⟩ := k.get q
    cases r with
    | @dct a ob vs _ x y =>
      refine ⟨a, vs, e1, fun z => ?_, .inr ⟨ob, k.sub _ _ x⟩, y⟩
      obtain ⟨n, _, h1, _⟩ := k.town.there z.symm
      rw [x] at h1
      cases h1
  · cases e
theorem sOdix {i : Nat} {ex : G → S → EV D} {H Sh : Hp} {σ : L2.St} {g : G} {s : S} {Q : VK} (ok : Ok Z H0 σ g H Sh s)
    (h : EvX Z W (Rep Z) (match ownDc g[i]? with | some kvs => rb (ex g s) fun y s => rp ((keyD y).bind (getK kvs)) s | none => none) σ H Sh Q) : tOp rIxK (tVar i) (tV Z W H0 ex) σ H Q := by
  split at h
  · rename_i ds q
    obtain ⟨a, vs, e1, h2, h4, r⟩ := ok.dict q
    refine ⟨_, e1, g, s, Sh, ok, EvX.bind h fun y s1 v H1 Sh1 x1 q1 h => ?_⟩
    obtain ⟨d, e, h5⟩ := h.rp
    obtain ⟨kk, e2, e3⟩ := Option.bind_eq_some_iff.mp e
    have rd : Rd H1 a (.dK vs) := h4.imp (x1.frame a _ h2) fun ⟨o, z⟩ => ⟨o, x1.frame a _ h2 z⟩
    rcases (r.mono x1.shs).val kk with ⟨n1, _⟩ | ⟨d', u, n1, n2, rr⟩
    · rw [n1] at e3
      cases e3
    · rw [n1] at e3
      cases e3
      exact ⟨a, u, rfl, .inl ⟨vs, kk, rd, q1.key e2, n2.symm⟩, h5.here x1.sub x1.town rr⟩
  · exact h.elim
theorem sOinE {n : Bool} {i : Nat} {l r : Expr} {pos : Pos} {ex : G → S → EV D} (gr : Gr tb k Z X) (hl : PE X l (tV Z W H0 ex)) (hr : PE X r (tVar i)) (hm : notSet r = true) :
    PE X (.Compare l [cmO (if n then .nin else .isin)] [r] pos) (tV Z W H0 fun g s => (match ownDc g[i]? with | some kvs => rb (ex g s) fun y s => rp ((keyD y).map fun k => .bl (if n then !(getK kvs k).isSome else (getK kvs k).isSome)) s | none => none)) := by
  have hu := gr.hu
  have op : OpR X (compareOp (cmO (if n then .nin else .isin))) (rInK n) := by
    cases n with
    | true => exact op_ninK (by omega)
    | false => exact op_inK (by omega)
  refine peW (pe_cmpR op hl hr (marks0 hm)) fun σ H Q ⟨g, s, Sh, ok, h⟩ => ?_
  dsimp only at h
  cases q : ownDc g[i]? with
  | none =>
    rw [q] at h
    exact h.elim
  | some ds =>
    rw [q] at h
    dsimp only at h
    obtain ⟨a, vs, e1, h2, h4, r⟩ := ok.dict q
    refine ⟨g, s, Sh, ok, EvX.bind h fun y s1 v H1 Sh1 x1 q1 h => ?_⟩
    obtain ⟨d, e, h5⟩ := h.rp
    obtain ⟨kk, e2, e3⟩ := Option.map_eq_some_iff.mp e
    subst e3
    have rd : Rd H1 a (.dK vs) := h4.imp (x1.frame a _ h2) fun ⟨o, z⟩ => ⟨o, x1.frame a _ h2 z⟩
    refine ⟨_, e1, a, L2.valV vs kk, rfl, .inl ⟨vs, kk, rd, q1.key e2, rfl⟩, ?_⟩
    have sm : (getK ds kk).isSome = (L2.valV vs kk).isSome := by
      rcases (r.mono x1.shs).val kk with ⟨n1, n2⟩ | ⟨d', u, n1, n2, rr⟩
      · rw [n1, n2]
        rfl
      · rw [n1, n2]
        rfl
    rw [← sm]
    exact h5.here x1.sub x1.town (.bl _)
theorem sOinT {n : Bool} {i : Nat} {l r : Expr} {pos : Pos} {ex : G → S → EV D} (gr : Gr tb k Z X) (hl : PE X l (tV Z W H0 ex)) (hr : PE X r (tVar i)) (hm : notSet r = true) :
    PT X (.Compare l [cmO (if n then .nin else .isin)] [r] pos) (tB Z W H0 (evT fun g s => (match ownDc g[i]? with | some kvs => rb (ex g s) fun y s => rp ((keyD y).map fun k => .bl (if n then !(getK kvs k).isSome else (getK kvs k).isSome)) s | none => none))) := by
  have hu := gr.hu
  have op : OpR X (compareOp (cmO (if n then .nin else .isin))) (rInK n) := by
    cases n with
    | true => exact op_ninK (by omega)
    | false => exact op_inK (by omega)
  refine ptW (pt_cmpR op hl hr (marks0 hm)) fun σ H Q ⟨g, s, Sh, ok, h⟩ => ?_
  have h : EvX Z W (fun _ a b => a = b) (rb (match ownDc g[i]? with | some kvs => rb (ex g s) fun y s => rp ((keyD y).map fun k => .bl (if n then !(getK kvs k).isSome else (getK kvs k).isSome)) s | none => none) fun x s => tru x s) σ H Sh Q := h
  cases q : ownDc g[i]? with
  | none =>
    rw [q] at h
    exact h.elim
  | some ds =>
    rw [q] at h
    dsimp only at h
    rw [rb_rb] at h
    obtain ⟨a, vs, e1, h2, h4, r⟩ := ok.dict q
    refine ⟨g, s, Sh, ok, EvX.bind h fun y s1 v H1 Sh1 x1 q1 h => ?_⟩
    cases e2 : keyD y with
    | none =>
      rw [e2] at h
      exact h.elim
    | some kk =>
      rw [e2] at h
      have h5 : EvX Z W (fun _ a b => a = b) (some (.ok (if n then !(getK ds kk).isSome else (getK ds kk).isSome), s1)) σ H1 Sh1 Q := h
      have rd : Rd H1 a (.dK vs) := h4.imp (x1.frame a _ h2) fun ⟨o, z⟩ => ⟨o, x1.frame a _ h2 z⟩
      refine ⟨_, e1, a, L2.valV vs kk, rfl, .inl ⟨vs, kk, rd, q1.key e2, rfl⟩, ?_⟩
      have sm : (getK ds kk).isSome = (L2.valV vs kk).isSome := by
        rcases (r.mono x1.shs).val kk with ⟨n1, n2⟩ | ⟨d', u, n1, n2, rr⟩
        · rw [n1, n2]
          rfl
        · rw [n1, n2]
          rfl
      rw [← sm]
      exact ⟨_, rfl, h5 _ H1 Sh1 (Ext.refl x1.sub x1.town) rfl⟩
/-! ### what is not covered -/
theorem sBad {e : Expr} : PE X e (tV Z W H0 fun _ _ => none) := ⟨fun _ _ _ _ _ _ ⟨_, _, _, _, h⟩ => (show False from h).elim⟩
theorem tBad {e : Expr} : PT X e (tB Z W H0 fun _ _ => none) := ⟨fun _ _ _ _ _ _ ⟨_, _, _, _, h⟩ => (show False from h).elim⟩
/-! ### list(d.items()) -/
/-- a heap's part with some new objects more -/
def laySh (Sh H' : Hp) (p : Addr) (ts : List Addr) : Hp := fun a => if a = p ∨ a ∈ ts then H' a else Sh a
theorem lay_ext {H Sh H' : Hp} {s : S} {p : Addr} {ts : List Addr} (sub : Same Sh H) (t : TownOk Z H Sh s) (hk : Same H H') (hp : H p = none) (ht : ∀ a ∈ ts, H a = none) : Ext Z H Sh H' (laySh Sh H' p ts) s where
  frame := fun a o _ h => hk a o h
  shs := fun a o h => by
    unfold laySh
    have h1 := sub a o h
    rw [if_neg]
    · exact h
    · rintro (rfl | z)
      · rw [hp] at h1
        cases h1
      · rw [ht a z] at h1
        cases h1
  sub := fun a o h => by
    unfold laySh at h
    split at h
    · exact h
    · exact hk a o (sub a o h)
  town := by
    unfold TownOk at t ⊢
    split at t
    · trivial
    · rename_i a n e1
      refine ⟨?_, hk a _ t.2⟩
      unfold laySh
      rw [if_neg]
      · exact t.1
      · rintro (rfl | z)
        · have := t.2
          rw [hp] at this
          cases this
        · have := t.2
          rw [ht a z] at this
          cases this
    · exact t
  new := fun a o h => by
    unfold laySh at h
    split at h
    · rename_i z
      rcases z with rfl | z
      · exact .inr hp
      · exact .inr (ht a z)
    · exact .inl h
theorem item_reps {Sh Sh' H' : Hp} {p : Addr} (hs : Same Sh Sh') : ∀ {ds : List (Key × D)} {vs : List (Key × V)} {ts : List Addr}, RepK Z Sh ds vs → Paired (fun (a : Addr) (kv : Key × V) => H' a = some (.tup [kV kv.1, kv.2])) ts vs → (∀ a ∈ ts, Sh' a = H' a) → RepL Z Sh' (ds.map fun kv => .tup [Ky.d kv.1, kv.2]) (ts.map V.ref)
  | _, _, _, .nil, .nil, _ => .nil
  | _, _, _, .cons x xs, .cons h0 hr, hh => by
    refine .cons (.tup (SqT.of (by rw [hh _ List.mem_cons_self]; exact h0)) (.cons (rep_ky _) (.cons (x.mono hs) .nil))) (item_reps (p := p) hs xs hr fun a ha => hh a (List.mem_cons_of_mem _ ha))
theorem sIList {p pos ap cp : Pos} {o : Expr} {ea : G → S → EV D} (gr : Gr tb k Z X) (hg : Gl X "list") (hb : plainB o = true) (hl : (ap.endLine == cp.line) = true) (ha : PE X o (tV Z W H0 ea)) :
    PE X (.Call (.Name "list" p) [.Call (.Attribute o "items" ap) [] [] cp] [] pos) (tV Z W H0 fun g s => rb (ea g s) fun x s => rp (itemL x) s) := by
  refine peW (pe_itemsR gr.calm ha hg (gr.blt _ (by decide)) (plain_base hb) hl) fun σ H Q ⟨g, s, Sh, ok, h⟩ => ⟨g, s, Sh, ok, EvX.bind h fun x s1 v H1 Sh1 e1 q1 h => ?_⟩
  obtain ⟨d, e, h1⟩ := h.rp
  cases q1 with
  | @dct ad ob vs ds x1 y1 =>
    simp only [itemL] at e
    split at e
    · cases e
      refine ⟨ad, vs, rfl, .inr ⟨_, e1.sub _ _ x1⟩, fun H' q ts k1 k2 k3 k4 k5 k6 => ?_⟩
      have ex := lay_ext (Z := Z) (s := s1) e1.sub e1.town k1 k2 k3
      refine h1 (.ref q) H' _ ex (.lst ?_ (item_reps (p := q) ex.shs y1 k6 fun a ha => ?_))
      · unfold laySh
        rw [if_pos (.inl rfl)]
        exact k5
      · unfold laySh
        rw [if_pos (.inr ha)]
    · cases e
  | _ => cases e
/-! ### d.get(k, x) -/
theorem sDGet {ap cp : Pos} {o y z : Expr} {ea eb ec : G → S → EV D} (gr : Gr tb k Z X) (hb : plainB o = true) (hl : (ap.endLine == cp.line) = true) (ny : notStar y = true) (nz : notStar z = true) (ha : PE X o (tV Z W H0 ea)) (hk : PE X y (tV Z W H0 eb)) (hd : PE X z (tV Z W H0 ec)) :
    PE X (.Call (.Attribute o "get" ap) [y, z] [] cp) (tV Z W H0 fun g s => rb (ea g s) fun x s => if isDctD x then rb (eb g s) fun y s => rb (ec g s) fun z s => rp (dgetD x y z) s else none) := by
  have st : starEach [y, z] X.env = [(false, eval y X.env), (false, eval z X.env)] := by
    rw [star1 ny, star1 nz]
    rfl
  have m : M2 X o "get" ap y z cp := ⟨plain_base hb, by rw [st]; rfl, hl, by rw [st]; rfl⟩
  refine peW (pe_dget2 (by have := gr.hu; omega) ha hk hd m) fun σ H Q ⟨g, s, Sh, ok, h⟩ => ⟨g, s, Sh, ok, EvX.bind h fun x s1 v H1 Sh1 e1 q1 h => ?_⟩
  cases q1 with
  | @dct ad ob vs ds x1 y1 =>
    have h : EvX Z W (Rep Z) (rb (eb g s1) fun y s => rb (ec g s) fun z s => rp (dgetD (.dct ds) y z) s) σ H1 Sh1 Q := h
    refine ⟨ad, rfl, .inl ⟨vs, .inr ⟨_, e1.sub _ _ x1⟩⟩, g, s1, Sh1, ok.ext e1, EvX.bind h fun y s2 u H2 Sh2 e2 q2 h => ⟨g, s2, Sh2, (ok.ext e1).ext e2, EvX.bind h fun z s3 w H3 Sh3 e3 q3 h => ?_⟩⟩
    obtain ⟨d, e, h1⟩ := h.rp
    obtain ⟨kk, ek, rfl⟩ := Option.map_eq_some_iff.mp (show (keyD y).map _ = some d from e)
    have x3 : Sh3 ad = some (.frz ob (.dK vs)) := e3.shs _ _ (e2.shs _ _ x1)
    have y3 := (y1.mono e2.shs).mono e3.shs
    refine ⟨valV vs kk, .inl ⟨vs, kk, .inr ⟨_, e3.sub _ _ x3⟩, (q2.mono e3.shs).key ek, rfl⟩, ?_⟩
    rcases y3.val kk with ⟨n1, n2⟩ | ⟨d', u', n1, n2, rr⟩
    · rw [n1] at h1
      rw [n2]
      exact h1.here e3.sub e3.town q3
    · rw [n1] at h1
      rw [n2]
      exact h1.here e3.sub e3.town rr
  | _ => exact (show False from h).elim
/-! ### defs as values -/
theorem sem_fn {f : Nat} {ds : List D} {s : S} {r : R D × S} (h : sem tb k f ds s = some r) : ∃ fd, tb.fs f = some fd ∧ ds.length = fd.ps.length := by
  cases k with
  | zero => cases h
  | succ k =>
    rw [sem_succ] at h
    cases q : tb.fs f with
    | none =>
      rw [q] at h
      cases h
    | some fd =>
      rw [q] at h
      dsimp only at h
      split at h
      · rename_i hl
        exact ⟨fd, rfl, hl⟩
      · cases h
theorem sCallV {i : Nat} {x : Str} {p pos : Pos} {y : Expr} {ys : List Expr} {el : G → S → EV (List D)} (gr : Gr tb k Z X) (tk : Takes X W) (hN : X.N[i]? = some x) (hv : Vis X.env.scope x) (hn : okN x = true) (hs : ∀ e ∈ y :: ys, notStar e = true) (ha : PA X (y :: ys) (tA Z W H0 el)) :
    PE X (.Call (.Name x p) (y :: ys) [] pos) (tV Z W H0 fun g s => match g.rd i with | some (.fn f) => rb (nox (el g s)) fun ds s => sem tb k f ds s | _ => none) := by
  have s1 := star1 (es := ys) (hs y List.mem_cons_self) X.env
  have s2 := stars (fun e he => hs e (List.mem_cons_of_mem _ he)) pos X.env
  refine ⟨fun pins t σ H Q I ⟨g, s, Sh, ok, h⟩ => ?_⟩
  dsimp only at h
  split at h
  · rename_i f q0
    cases q1 : el g s with
    | none =>
      rw [q1] at h
      exact (show False from h).elim
    | some pr =>
      obtain ⟨rr, s'⟩ := pr
      cases rr with
      | exn c =>
        rw [q1] at h
        exact (show False from h).elim
      | ok ds =>
        rw [q1] at h
        have h : EvX Z W (Rep Z) (sem tb k f ds s') σ H Sh Q := h
        cases q2 : sem tb k f ds s' with
        | none =>
          rw [q2] at h
          exact (show False from h).elim
        | some pr2 =>
          obtain ⟨fd, hf, hl⟩ := sem_fn q2
          obtain ⟨hm, hkp, fdt, hb, F⟩ := gr.fn f fd hf
          obtain ⟨v, e2, rv⟩ := ok.rd q0
          cases rv
          have hA : tA Z W H0 el σ H fun vs H1 => spF Z (sem tb k) f fd.ps.length (vs ++ []) H1 Q (WE W σ) := ⟨g, s, Sh, ok, ?_⟩
          · have ld := (pe_var (pos := p) hN hv (okN_of hn).1 (okN_of hn).2.1).run pins t σ H (fun v H1 => v = .ref (Z.fA f) ∧ H1 = H) I ⟨_, e2, rfl, rfl⟩
            refine wpAny_Call_Name_kw (thn ld fun u t1 ⟨v, H1, I1, r1, z1, z2⟩ => ?_)
            subst z1 z2
            cases r1
            exact PySem.W.callWith_K (h₀ := X.base) I.ok.mod.kin hkp (thn (ha.run pos pins t1 σ _ _ I1 hA) fun us t2 ⟨vs, H2, I2, r2, q3⟩ => ⟨I2.kIn, run_fnSD F gr.room hb .nil (passAt tk σ) I2 r2 q3⟩) s1 s2
          rw [q1]
          intro vs H1 Sh1 e1 rl
          rw [List.append_nil]
          refine ⟨by rw [← rl.length]; exact hl, ds, s', Sh1, e1.sub, e1.town, rl, ?_⟩
          have h3 := h.mv e1
          unfold EvX at h3 ⊢
          exact h3
  · exact (show False from h).elim

theorem sFnv {f : Nat} {fd : Fd} {p : Pos} (gr : Gr tb k Z X) (hf : tb.fs f = some fd) (hg : Gl X fd.name) (hn : okN fd.name = true) : PE X (.Name fd.name p) (tV Z W H0 fun _ s => some (.ok (.fn f), s)) := by
  refine peW (pe_glob (v := .ref (Z.fA f)) hg (gr.fn f fd hf).1 rfl (okN_of hn).1) fun σ H Q ⟨g, s, Sh, ok, h⟩ => ?_
  exact h.here ok.sub ok.town (.fn f)
end
end FR
/-! FrSnd8: the theorem for expressions. -/
namespace FR
open PySem PySem.Spec PyProof.Rows L2
section
variable {tb : Tb} {k : Nat} {Z : Gd} {H0 : Ent} {N : List Str}
/-- an expression does what the evaluator says, as a value and as a test -/
def SndE (tb : Tb) (k : Nat) (Z : Gd) (H0 : Ent) (N : List Str) (c : CE) : Prop := ∀ (X : Cx) (sc : Scope) (e : Expr) (W : WX), Gr tb k Z X → ScOk sc X → Takes X W → X.N = N → mtE tb N c sc e = true →
  PE X e (tV Z W H0 (evE (enOf tb k) c)) ∧ (c.isIte = false → PT X e (tB Z W H0 (evT (evE (enOf tb k) c))))
def SndL (tb : Tb) (k : Nat) (Z : Gd) (H0 : Ent) (N : List Str) (c : CEs) : Prop := ∀ (X : Cx) (sc : Scope) (e : List Expr) (W : WX), Gr tb k Z X → ScOk sc X → Takes X W → X.N = N → mtEs tb N c sc e = true →
  PA X e (tA Z W H0 (evEs (enOf tb k) c))
theorem both {X : Cx} {W : WX} {e : Expr} {ev : G → S → EV D} (gr : Gr tb k Z X) (hp : plainT e = true) (h : PE X e (tV Z W H0 ev)) (b : Bool) : PE X e (tV Z W H0 ev) ∧ (b = false → PT X e (tB Z W H0 (evT ev))) :=
  ⟨h, fun _ => sTru gr.hk h fun whole => plainT_eq hp _ whole⟩
theorem own_eq (tg : Tgt) : (ownOf N tg).map (·.2) = tsl tg := by
  unfold ownOf
  rw [List.map_map]
  exact List.map_id _
theorem fold0 {i : Expr} (h : notSet i = true) (env : Env) (x : Value) : foldedSetIterable i env x = pure x := by
  cases i <;> first | rfl | cases h
theorem isTrue_eq {c : CE} (h : c.isTrue = true) : c = .cst (.bl true) := by
  unfold CE.isTrue at h
  split at h
  · rfl
  · cases h
theorem isZero_eq {c : CE} (h : c.isZero = true) : c = .cst (.int 0) := by
  unfold CE.isZero at h
  split at h
  · rfl
  · cases h
/-- the tests of a comprehension -/
theorem sIfs {ifs : CE} (ih : SndE tb k Z H0 N ifs) {X : Cx} {sc : Scope} {fs : List Expr} {W : WX} (gr : Gr tb k Z X) (so : ScOk sc X) (tk : Takes X W) (hN : X.N = N)
    (h : (match fs with | [] => ifs.isTrue | [c] => mtE tb N ifs sc c && !ifs.isIte | _ => false) = true) : PTs X fs (tB Z W H0 (evT (evE (enOf tb k) ifs))) := by
  cases fs with
  | nil =>
    cases isTrue_eq h
    refine ⟨fun pins s σ H Q I q => pts_nil.run pins s σ H Q I ?_⟩
    obtain ⟨g, s, Sh, ok, q⟩ := q
    exact EvX.here q ok.sub ok.town rfl
  | cons c cs =>
    cases cs with
    | nil =>
      simp only [Bool.and_eq_true, Bool.not_eq_true'] at h
      exact pts_one ((ih X sc c W gr so tk hN h.1).2 h.2)
    | cons _ _ => cases h
/-- a comprehension and its parts -/
def CompOk (Z : Gd) (W : WX) (H0 : Ent) (X : Cx) (e : Expr) (ev : G → S → EV D) : Prop := ∃ (el t i : Expr) (fs : List Expr) (scope : Scope) (pos : Pos) (own : List (Str × Nat)) (wi : TI) (g : TG) (tt : TT) (te : TE),
  e = .ListComp el [⟨t, i, fs, 0⟩] scope pos ∧ PI X t i wi ∧ BlkOk X.N X.env.scope scope own ∧
  (∀ (s : Shared) (H : Hp) (C : Addr) (cl : List (Str × Addr)) (fp : List Addr), PG (X.blk s H scope (compEnvC scope cl C X.env) fp) t g) ∧
  (∀ (s : Shared) (H : Hp) (C : Addr) (cl : List (Str × Addr)) (fp : List Addr), PTs (X.blk s H scope (compEnvC scope cl C X.env) fp) fs tt) ∧
  (∀ (s : Shared) (H : Hp) (C : Addr) (cl : List (Str × Addr)) (fp : List Addr), PE (X.blk s H scope (compEnvC scope cl C X.env) fp) el te) ∧
  (∀ x, foldedSetIterable i X.env x = pure x) ∧ ∀ σ H Q, tF Z W H0 ev σ H Q → tLc wi g tt te (own.map (·.2)) σ H Q
theorem CompOk.pe {X : Cx} {W : WX} {e : Expr} {ev : G → S → EV D} (gr : Gr tb k Z X) (h : CompOk Z W H0 X e ev) : PE X e (tF Z W H0 ev) ∧ plainT e = true := by
  obtain ⟨el, t, i, fs, scope, pos, own, wi, g, tt, te, rfl, h1, h2, h3, h4, h5, h6, h7⟩ := h
  exact ⟨peW (pe_lc gr.calm gr.nd h1 h2 h3 h4 h5 h6) h7, rfl⟩
/-- a comprehension over what a sequence holds -/
theorem fCompS {tg : Tgt} {it ifs elt : CE} (hI : SndE tb k Z H0 N it) (hF : SndE tb k Z H0 N ifs) (hE : SndE tb k Z H0 N elt) {X : Cx} {sc : Scope} {e : Expr} {W : WX} (gr : Gr tb k Z X) (so : ScOk sc X) (tk : Takes X W) (hN : X.N = N)
    (h : mtE tb N (.comp tg it ifs elt) sc e = true) : CompOk Z W H0 X e (evComp (evE (enOf tb k) it) tg (evT (evE (enOf tb k) ifs)) (evE (enOf tb k) elt)) := by
  simp only [mtE] at h
  cases q : asComp e with
  | none =>
    rw [q] at h
    cases h
  | some pq =>
  obtain ⟨el, t, i, fs, scope⟩ := pq
  rw [q] at h
  obtain ⟨pos, rfl⟩ := asComp_eq q
  simp only [Bool.and_eq_true] at h
  obtain ⟨⟨⟨⟨⟨h1, h2⟩, h3⟩, h4⟩, h5⟩, h6⟩ := h
  subst hN
  have hi := sIter (tg := t) gr.hk (hI X sc i W gr so tk rfl h2).1
  exact ⟨el, t, i, fs, scope, pos, ownOf X.N tg, _, _, _, _, rfl, hi, blkOk_sc so (blkOk_by h4), fun s H C cl fp => sTgt (X := X.blk s H scope (compEnvC scope cl C X.env) fp) gr.hk gr.calm gr.nd (scOk_blk scope) rfl h1,
    fun s H C cl fp => sIfs hF gr.blk (scOk_blk scope) takes0 rfl h6, fun s H C cl fp => (hE _ scope el _ gr.blk (scOk_blk scope) takes0 rfl h5).1, fold0 h3 _,
    fComp (tge := t) (elt := el) (ifs := fs) (scope := scope) gr.hk hi (own_eq tg)⟩
theorem evRng_comp {lo hi : G → S → EV D} {tg : Tgt} {ti : G → S → EV Bool} {ee : G → S → EV D} (g : G) (s : S) : evComp (evRng lo hi) tg ti ee g s = rb (lo g s) fun x s => rb (hi g s) fun y s => rb (rp (rngD x y) s) fun ds s => rb (compL (evTurn tg ti ee g) ds s) fun es s => if es.length ≤ SZ then some (.ok (.lst es), s) else none := by
  unfold evComp evRng
  rw [rb_rb]
  congr 1
  funext x s
  rw [rb_rb]
  congr 1
  funext y s
  cases rngD x y with
  | none => rfl
  | some ds => rfl
theorem fCompR {tg : Tgt} {lo hi ifs elt : CE} (hL : SndE tb k Z H0 N lo) (hH : SndE tb k Z H0 N hi) (hF : SndE tb k Z H0 N ifs) (hE : SndE tb k Z H0 N elt) {X : Cx} {sc : Scope} {e : Expr} {W : WX} (gr : Gr tb k Z X) (so : ScOk sc X) (tk : Takes X W) (hN : X.N = N)
    (h : mtE tb N (.compR tg lo hi ifs elt) sc e = true) : CompOk Z W H0 X e (evComp (evRng (evE (enOf tb k) lo) (evE (enOf tb k) hi)) tg (evT (evE (enOf tb k) ifs)) (evE (enOf tb k) elt)) := by
  simp only [mtE] at h
  cases q : asComp e with
  | none =>
    rw [q] at h
    cases h
  | some pq =>
  obtain ⟨el, t, i, fs, scope⟩ := pq
  rw [q] at h
  obtain ⟨pos, rfl⟩ := asComp_eq q
  simp only [Bool.and_eq_true] at h
  obtain ⟨⟨⟨⟨h1, h4⟩, h5⟩, h7⟩, h6⟩ := h
  subst hN
  cases q2 : asCall i with
  | none =>
    rw [q2] at h6
    cases h6
  | some pq =>
  obtain ⟨x, y, ys⟩ := pq
  rw [q2] at h6
  obtain ⟨p, p2, rfl⟩ := asCall_eq q2
  simp only [Bool.and_eq_true, decide_eq_true_eq] at h6
  obtain ⟨⟨⟨rfl, h3⟩, h8⟩, h9⟩ := h6
  have hi : PI X t (.Call (.Name "range" p) (y :: ys) [] p2) (tI Z W H0 (evRng (evE (enOf tb k) lo) (evE (enOf tb k) hi))) := by
    split at h9
    · simp only [Bool.and_eq_true] at h9
      cases isZero_eq h9.1
      exact sRng1 (so.gl h3) (gr.blt _ (by decide)) h8 (hH X sc y W gr so tk rfl h9.2).1
    · rename_i z
      simp only [Bool.and_eq_true] at h9
      exact sRng2 (so.gl h3) (gr.blt _ (by decide)) h8 h9.1.1 (hL X sc y W gr so tk rfl h9.1.2).1 (hH X sc z W gr so tk rfl h9.2).1
    · cases h9
  exact ⟨el, t, _, fs, scope, pos, ownOf X.N tg, _, _, _, _, rfl, hi, blkOk_sc so (blkOk_by h4), fun s H C cl fp => sTgt (X := X.blk s H scope (compEnvC scope cl C X.env) fp) gr.hk gr.calm gr.nd (scOk_blk scope) rfl h1,
    fun s H C cl fp => sIfs hF gr.blk (scOk_blk scope) takes0 rfl h7, fun s H C cl fp => (hE _ scope el _ gr.blk (scOk_blk scope) takes0 rfl h5).1, fold0 rfl _,
    fComp (tge := t) (elt := el) (ifs := fs) (scope := scope) gr.hk hi (own_eq tg)⟩
theorem fCompK {tg : Tgt} {it ifs elt : CE} (hI : SndE tb k Z H0 N it) (hF : SndE tb k Z H0 N ifs) (hE : SndE tb k Z H0 N elt) {X : Cx} {sc : Scope} {e : Expr} {W : WX} (gr : Gr tb k Z X) (so : ScOk sc X) (tk : Takes X W) (hN : X.N = N)
    (h : mtE tb N (.compK tg it ifs elt) sc e = true) : CompOk Z W H0 X e (evComp (evKeys (evE (enOf tb k) it)) tg (evT (evE (enOf tb k) ifs)) (evE (enOf tb k) elt)) := by
  simp only [mtE] at h
  cases q : asComp e with
  | none =>
    rw [q] at h
    cases h
  | some pq =>
  obtain ⟨el, t, i, fs, scope⟩ := pq
  rw [q] at h
  obtain ⟨pos, rfl⟩ := asComp_eq q
  simp only [Bool.and_eq_true] at h
  obtain ⟨⟨⟨⟨h1, h4⟩, h5⟩, h7⟩, h6⟩ := h
  subst hN
  cases q2 : asKeys i with
  | none =>
    rw [q2] at h6
    cases h6
  | some o =>
  rw [q2] at h6
  obtain ⟨pa, pc, rfl, hl, hb⟩ := asKeys_eq q2
  have hi : PI X t (.Call (.Attribute o "keys" pa) [] [] pc) (tI Z W H0 (evKeys (evE (enOf tb k) it))) := sKeys gr.hw (hI X sc o W gr so tk rfl h6).1 (plain_base hb) hl
  exact ⟨el, t, _, fs, scope, pos, ownOf X.N tg, _, _, _, _, rfl, hi, blkOk_sc so (blkOk_by h4), fun s H C cl fp => sTgt (X := X.blk s H scope (compEnvC scope cl C X.env) fp) gr.hk gr.calm gr.nd (scOk_blk scope) rfl h1,
    fun s H C cl fp => sIfs hF gr.blk (scOk_blk scope) takes0 rfl h7, fun s H C cl fp => (hE _ scope el _ gr.blk (scOk_blk scope) takes0 rfl h5).1, fold0 rfl _,
    fComp (tge := t) (elt := el) (ifs := fs) (scope := scope) gr.hk hi (own_eq tg)⟩
theorem isL_comp {ei : G → S → EV D} {tg : Tgt} {ti : G → S → EV Bool} {ee : G → S → EV D} : isL (evComp ei tg ti ee) := fun g s d s' e => by
  unfold evComp at e
  cases q : ei g s with
  | none =>
    rw [q] at e
    cases e
  | some p =>
    obtain ⟨r, s1⟩ := p
    rw [q] at e
    cases r with
    | exn c => cases e
    | ok x =>
      rw [rb_ok] at e
      cases q1 : itemsD x with
      | none =>
        rw [q1] at e
        cases e
      | some ds =>
        rw [q1, rp_some, rb_ok] at e
        cases q2 : compL (evTurn tg ti ee g) ds s1 with
        | none =>
          rw [q2] at e
          cases e
        | some r =>
          obtain ⟨es, sE, rfl⟩ := compL_ok q2
          rw [q2, rb_ok] at e
          split at e
          · cases e
            exact ⟨_, rfl⟩
          · cases e

theorem turn_eq {en : En} {tg : Tgt} {ifs elt : CE} (g : G) : (fun (d : D) (s : S) => match setT g d tg with
      | none => none
      | some g1 => rb (evE en ifs g1 s) fun c s => rb (tru c s) fun t s => if t then rb (evE en elt g1 s) fun e s => some (.ok (some e), s) else some (.ok none, s)) = evTurn tg (evT (evE en ifs)) (evE en elt) g := by
  funext d s
  unfold evTurn
  cases setT g d tg with
  | none => rfl
  | some g1 =>
    dsimp only
    unfold evT
    rw [rb_rb]
theorem comp_eq {en : En} {tg : Tgt} {it ifs elt : CE} (g : G) (s : S) : evE en (.comp tg it ifs elt) g s = evComp (evE en it) tg (evT (evE en ifs)) (evE en elt) g s := by
  unfold evComp
  rw [← turn_eq]
  rfl
theorem compR_eq {en : En} {tg : Tgt} {lo hi ifs elt : CE} (g : G) (s : S) : evE en (.compR tg lo hi ifs elt) g s = evComp (evRng (evE en lo) (evE en hi)) tg (evT (evE en ifs)) (evE en elt) g s := by
  rw [evRng_comp, ← turn_eq]
  rfl
theorem compK_eq {en : En} {tg : Tgt} {it ifs elt : CE} (g : G) (s : S) : evE en (.compK tg it ifs elt) g s = evComp (evKeys (evE en it)) tg (evT (evE en ifs)) (evE en elt) g s := by
  unfold evComp evKeys
  rw [← turn_eq, rb_rb]
  show rb (evE en it g s) _ = _
  congr 1
  funext x s
  cases keysD x with
  | none => rfl
  | some ds => rfl
theorem pwOf {X : Cx} {o : BoolOp} {es : List Expr} {p : Pos} {t : TT} (h : PT X (.BoolOp o es p) t) : PW X (.BoolOp o es p) t := ⟨fun whole pins s σ H Q I q => h.run pins s σ H Q I q⟩
theorem pv_of {X : Cx} {i : Nat} {x : Str} {p : Pos} {sc : Scope} (so : ScOk sc X) (hN : X.N[i]? = some x) (hv : visB sc x = true) (ho : okN x = true) : PE X (.Name x p) (tVar i) :=
  pe_var hN (so.vis hv) (okN_of ho).1 (okN_of ho).2.1
theorem Ok.own {H Sh : Hp} {σ : L2.St} {g : G} {s : S} (k : Ok Z H0 σ g H Sh s) {i : Nat} {ds : List D} (e : g[i]? = some (.own ds)) : ∃ a vs, σ[i]? = some (some (.ref a)) ∧ Sh a = none ∧ some a ≠ Z.T ∧ H0.H a = none ∧ H a = some (.lst vs) ∧ RepL Z Sh ds vs := by
  obtain ⟨o, e1, a, vs, rfl, h⟩ := k.get e
  exact ⟨a, vs, e1, h⟩
theorem Ok.list {H Sh : Hp} {σ : L2.St} {g : G} {s : S} (k : Ok Z H0 σ g H Sh s) {i : Nat} {ds : List D} (e : ownL g[i]? = some ds) : ∃ a vs, σ[i]? = some (some (.ref a)) ∧ some a ≠ Z.T ∧ H a = some (.lst vs) ∧ RepL Z Sh ds vs := by
  unfold ownL at e
  split at e
  · rename_i q
    cases e
    obtain ⟨a, vs, e1, _, h2, _, h4, r⟩ := k.own q
    exact ⟨a, vs, e1, h2, h4, r⟩
  · rename_i q
    cases e
    obtain ⟨o, e1, v, rfl, r⟩ := k.get q
    cases r with
    | lst x y =>
      rename_i a vs
      refine ⟨a, vs, e1, fun z => ?_, k.sub _ _ x, y⟩
      obtain ⟨n, _, h1, _⟩ := k.town.there z.symm
      rw [x] at h1
      cases h1
  · cases e
theorem sOidx {X : Cx} {W : WX} {i : Nat} {ex : G → S → EV D} {H Sh : Hp} {σ : L2.St} {g : G} {s : S} {Q : VK} (hk : X.K = Z.K) (ok : Ok Z H0 σ g H Sh s)
    (h : EvX Z W (Rep Z) (match ownL g[i]? with | some ds => rb (ex g s) fun y s => rp (match y with | .int k => atL ds k | _ => none) s | none => none) σ H Sh Q) : tOp (rIxL X.K) (tVar i) (tV Z W H0 ex) σ H Q := by
  rw [hk]
  split at h
  · rename_i ds q
    obtain ⟨a, vs, e1, h2, h4, r⟩ := ok.list q
    refine ⟨_, e1, g, s, Sh, ok, EvX.bind h fun y s1 v H1 Sh1 x1 q1 h => ?_⟩
    obtain ⟨d, e, h5⟩ := h.rp
    split at e
    · cases q1
      obtain ⟨u, e2, r2⟩ := (r.mono x1.shs).at e
      exact ⟨_, _, _, _, rfl, rfl, SqL.of (x1.frame a _ h2 h4), e2, h5.here x1.sub x1.town r2⟩
    · cases e
  · exact h.elim
theorem sOlen {X : Cx} {W : WX} {i : Nat} {H Sh : Hp} {σ : L2.St} {g : G} {s : S} {Q : VK} (hk : X.K = Z.K) (ok : Ok Z H0 σ g H Sh s)
    (h : EvX Z W (Rep Z) (rp ((ownL g[i]?).map fun ds => .int ds.length) s) σ H Sh Q) : tCB (rLen1 X.K) (tCons (tVar i) tNil) σ H Q := by
  rw [hk]
  obtain ⟨d, e, h1⟩ := h.rp
  obtain ⟨ds, q, rfl⟩ := Option.map_eq_some_iff.mp e
  obtain ⟨a, vs, e1, _, h4, r⟩ := ok.list q
  exact ⟨_, e1, _, _, rfl, .inl ⟨_, SqL.of h4, r.length⟩, h1.here ok.sub ok.town (.int _)⟩
mutual
theorem snd : ∀ c : CE, SndE tb k Z H0 N c
  | .cst c => fun X sc e W gr so tk hN h => by
    simp only [mtE, decide_eq_true_eq] at h
    obtain ⟨i, p, rfl⟩ := asConst_eq h
    refine both gr rfl ?_ _
    cases c with
    | non => exact sCst (k := .non) pe_non (fun _ => .non) fun _ _ => rfl
    | bl b => exact sCst (k := .bl b) pe_bl (fun _ => .bl b) fun _ _ => rfl
    | int j => exact sCst (k := .int j) pe_int (fun _ => .int j) fun _ _ => rfl
    | str x => exact sCst (k := .str x) pe_str (fun _ => .str x) fun _ _ => rfl
  | .var i => fun X sc e W gr so tk hN h => by
    simp only [mtE] at h
    cases q : asName e with
    | none => rw [q] at h; cases h
    | some x =>
      rw [q] at h
      obtain ⟨p, rfl⟩ := asName_eq q
      simp only [Bool.and_eq_true, decide_eq_true_eq] at h
      exact both gr rfl (sVar (pv_of so (by rw [hN]; exact h.1.1) h.1.2 h.2)) _
  | .glo i => fun X sc e W gr so tk hN h => by
    simp only [mtE] at h
    cases q : asName e with
    | none => rw [q] at h; cases h
    | some x =>
      rw [q] at h
      obtain ⟨p, rfl⟩ := asName_eq q
      simp only [Bool.and_eq_true, decide_eq_true_eq] at h
      obtain ⟨u, v, h1, h2, h3⟩ := gr.glo i x h.1.1
      refine both gr rfl (peW (pe_glob (so.gl h.1.2) h1 h2 (okN_of h.2).1) fun σ H Q ⟨g, s, Sh, ok, q⟩ => ?_) _
      exact EvX.here q ok.sub ok.town (h3 Sh)
  | .bin o a b => fun X sc e W gr so tk hN h => by
    simp only [mtE] at h
    cases q : asBin e with
    | none => rw [q] at h; cases h
    | some pq =>
      obtain ⟨l, p, r⟩ := pq
      rw [q] at h
      obtain ⟨pos, rfl⟩ := asBin_eq q
      simp only [Bool.and_eq_true, decide_eq_true_eq] at h
      obtain ⟨⟨rfl, h1⟩, h2⟩ := h
      have ha := (snd a X sc l W gr so tk hN h1).1
      have hb := (snd b X sc r W gr so tk hN h2).1
      refine both gr rfl ?_ _
      cases o with
      | add => exact sAdd gr.hk ha hb
      | sub => exact sSub ha hb
      | mul => exact sMul ha hb
      | fdiv => exact sFdiv ha hb
      | mod => exact sMod ha hb
      | pow => exact sPow ha hb
      | shl => exact sShl ha hb
      | shr => exact sShr ha hb
      | band => exact sBand ha hb
  | .neg a => fun X sc e W gr so tk hN h => by
    simp only [mtE] at h
    cases q : asUn e with
    | none => rw [q] at h; cases h
    | some pq =>
      obtain ⟨o, x⟩ := pq
      rw [q] at h
      obtain ⟨pos, rfl⟩ := asUn_eq q
      simp only [Bool.and_eq_true, decide_eq_true_eq] at h
      obtain ⟨rfl, h1⟩ := h
      exact both gr rfl (sNeg (snd a X sc x W gr so tk hN h1).1) _
  | .not a => fun X sc e W gr so tk hN h => by
    simp only [mtE] at h
    cases q : asUn e with
    | none => rw [q] at h; cases h
    | some pq =>
      obtain ⟨o, x⟩ := pq
      rw [q] at h
      obtain ⟨pos, rfl⟩ := asUn_eq q
      simp only [Bool.and_eq_true, decide_eq_true_eq, Bool.not_eq_true'] at h
      obtain ⟨⟨rfl, h0⟩, h1⟩ := h
      obtain ⟨ha, ht⟩ := snd a X sc x W gr so tk hN h1
      exact ⟨sNot gr.hk ha, fun _ => ptE (sTNot (ht h0)) fun g s => evT_not g s⟩
  | .cmp o a b => fun X sc e W gr so tk hN h => by
    simp only [mtE] at h
    cases q : asCmp1 e with
    | none => rw [q] at h; cases h
    | some pq =>
      obtain ⟨l, p, r⟩ := pq
      rw [q] at h
      obtain ⟨pos, rfl⟩ := asCmp1_eq q
      simp only [Bool.and_eq_true, decide_eq_true_eq] at h
      obtain ⟨⟨⟨rfl, h0⟩, h1⟩, h2⟩ := h
      have ha := (snd a X sc l W gr so tk hN h1).1
      have hb := (snd b X sc r W gr so tk hN h2).1
      exact ⟨sCmpO gr.hk gr.hu o ha hb h0, fun _ => sTCmp gr.hk gr.hu o ha hb h0⟩
  | .chn o p a b c => fun X sc e W gr so tk hN h => by
    simp only [mtE] at h
    cases q : asCmp2 e with
    | none => rw [q] at h; cases h
    | some pq =>
      obtain ⟨l, p1, p2, r, t⟩ := pq
      rw [q] at h
      obtain ⟨pos, rfl⟩ := asCmp2_eq q
      simp only [Bool.and_eq_true, decide_eq_true_eq] at h
      obtain ⟨⟨⟨⟨⟨rfl, rfl⟩, h0⟩, h1⟩, h2⟩, h3⟩ := h
      have ha := (snd a X sc l W gr so tk hN h1).1
      have hb := (snd b X sc r W gr so tk hN h2).1
      have hc := (snd c X sc t W gr so tk hN h3).1
      exact ⟨sChn gr.hk gr.hu o p ha hb hc h0, fun _ => sTChn gr.hk gr.hu o p ha hb hc h0⟩
  | .and a b => fun X sc e W gr so tk hN h => by
    simp only [mtE] at h
    cases q : asBoolOp e with
    | none => rw [q] at h; cases h
    | some pq =>
      obtain ⟨o, x, y, syn⟩ := pq
      rw [q] at h
      obtain ⟨pos, hq⟩ := asBoolOp_eq q
      simp only [Bool.and_eq_true, decide_eq_true_eq, Bool.not_eq_true'] at h
      obtain ⟨⟨⟨⟨⟨rfl, h0⟩, h0'⟩, h3⟩, h1⟩, h2⟩ := h
      obtain ⟨ha, ta⟩ := snd a X sc x W gr so tk hN h1
      obtain ⟨hb, tb'⟩ := snd b X sc y W gr so tk hN h2
      rcases hq with ⟨_, rfl⟩ | ⟨_, u, z, r, rfl, rfl⟩
      · exact ⟨sAnd gr.hk ha (pe_one hb), fun _ => ptE (sTAnd (ta h0) (pw_and1 (tb' h0'))).pt fun g s => evT_and g s⟩
      · exact ⟨sAnd gr.hk ha hb, fun _ => ptE (sTAnd (ta h0) (pwOf (tb' h0'))).pt fun g s => evT_and g s⟩
  | .or a b => fun X sc e W gr so tk hN h => by
    simp only [mtE] at h
    cases q : asBoolOp e with
    | none => rw [q] at h; cases h
    | some pq =>
      obtain ⟨o, x, y, syn⟩ := pq
      rw [q] at h
      obtain ⟨pos, hq⟩ := asBoolOp_eq q
      simp only [Bool.and_eq_true, decide_eq_true_eq, Bool.not_eq_true'] at h
      obtain ⟨⟨⟨⟨⟨rfl, h0⟩, h0'⟩, h3⟩, h1⟩, h2⟩ := h
      obtain ⟨ha, ta⟩ := snd a X sc x W gr so tk hN h1
      obtain ⟨hb, tb'⟩ := snd b X sc y W gr so tk hN h2
      rcases hq with ⟨_, rfl⟩ | ⟨_, u, z, r, rfl, rfl⟩
      · exact ⟨sOr gr.hk ha (pe_one hb), fun _ => ptE (sTOr (ta h0) (pw_or1 (tb' h0'))).pt fun g s => evT_or g s⟩
      · exact ⟨sOr gr.hk ha hb, fun _ => ptE (sTOr (ta h0) (pwOf (tb' h0'))).pt fun g s => evT_or g s⟩
  | .ite t a b => fun X sc e W gr so tk hN h => by
    simp only [mtE] at h
    cases q : asIf e with
    | none => rw [q] at h; cases h
    | some pq =>
      obtain ⟨c, x, y⟩ := pq
      rw [q] at h
      obtain ⟨pos, rfl⟩ := asIf_eq q
      simp only [Bool.and_eq_true, Bool.not_eq_true'] at h
      obtain ⟨⟨⟨h0, h1⟩, h2⟩, h3⟩ := h
      refine ⟨peE (sIte ((snd t X sc c W gr so tk hN h1).2 h0) (snd a X sc x W gr so tk hN h2).1 (snd b X sc y W gr so tk hN h3).1) fun g s => ?_, fun z => by cases z⟩
      show _ = rb (evT (evE (enOf tb k) t) g s) _
      unfold evT
      rw [rb_rb]
      rfl
  | .tup es => fun X sc e W gr so tk hN h => by
    simp only [mtE] at h
    cases q : asTup e with
    | none => rw [q] at h; cases h
    | some xs =>
      rw [q] at h
      obtain ⟨n, pos, rfl⟩ := asTup_eq q
      exact both gr rfl (sTup (sndL es X sc xs W gr so tk hN h)) _
  | .lst es => fun X sc e W gr so tk hN h => by
    simp only [mtE] at h
    cases q : asLst e with
    | none => rw [q] at h; cases h
    | some xs =>
      rw [q] at h
      obtain ⟨pos, rfl⟩ := asLst_eq q
      exact both gr rfl (sLst (sndL es X sc xs W gr so tk hN h)) _
  | .idx a i => fun X sc e W gr so tk hN h => by
    simp only [mtE] at h
    cases q : asIdx e with
    | none => rw [q] at h; cases h
    | some pq =>
      obtain ⟨x, y⟩ := pq
      rw [q] at h
      obtain ⟨pos, rfl⟩ := asIdx_eq q
      simp only [Bool.and_eq_true] at h
      obtain ⟨⟨h0, h1⟩, h2⟩ := h
      exact both gr rfl (sIdx gr.hk gr.hw gr.hu h0 (snd a X sc x W gr so tk hN h1).1 (snd i X sc y W gr so tk hN h2).1) _
  | .slc a lo hi => fun X sc e W gr so tk hN h => by
    simp only [mtE] at h
    cases q : asSlc e with
    | none => rw [q] at h; cases h
    | some pq =>
      obtain ⟨x, l, u⟩ := pq
      rw [q] at h
      obtain ⟨p, pos, rfl⟩ := asSlc_eq q
      simp only [Bool.and_eq_true] at h
      obtain ⟨⟨h0, h1⟩, h2⟩ := h
      have hl : PO X l (tO Z W H0 fun g s => if lo.isNon then some (.ok none, s) else rb (evE (enOf tb k) lo g s) fun l s => rp (partD l) s) := by
        cases l with
        | none =>
          rw [show lo.isNon = true from h1]
          exact sP0
        | some l =>
          simp only [Bool.and_eq_true, Bool.not_eq_true'] at h1
          rw [h1.1]
          exact sP1 (snd lo X sc l W gr so tk hN h1.2).1
      have hu : PO X u (tO Z W H0 fun g s => if hi.isNon then some (.ok none, s) else rb (evE (enOf tb k) hi g s) fun l s => rp (partD l) s) := by
        cases u with
        | none =>
          rw [show hi.isNon = true from h2]
          exact sP0
        | some l =>
          simp only [Bool.and_eq_true, Bool.not_eq_true'] at h2
          rw [h2.1]
          exact sP1 (snd hi X sc l W gr so tk hN h2.2).1
      exact both gr rfl (sSlc gr.hk (snd a X sc x W gr so tk hN h0).1 hl hu) _
  | .rev a => fun X sc e W gr so tk hN h => by
    simp only [mtE] at h
    cases q : asRev e with
    | none => rw [q] at h; cases h
    | some x =>
      rw [q] at h
      obtain ⟨n, p1, p2, p3, p4, rfl⟩ := asRev_eq q
      exact both gr rfl (sRev gr.hk (snd a X sc x W gr so tk hN h).1) _
  | .bck a => fun X sc e W gr so tk hN h => by
    simp only [mtE] at h
    cases q : asBck e with
    | none => rw [q] at h; cases h
    | some x =>
      rw [q] at h
      obtain ⟨n, n2, p0, p1, p2, p3, p4, rfl⟩ := asBck_eq q
      exact both gr rfl (sBck gr.hk (snd a X sc x W gr so tk hN h).1) _
  | .two a => fun X sc e W gr so tk hN h => by
    simp only [mtE] at h
    cases q : asTwo e with
    | none => rw [q] at h; cases h
    | some x =>
      rw [q] at h
      obtain ⟨n, n2, p0, p1, p2, p3, p4, rfl⟩ := asTwo_eq q
      exact both gr rfl (sTwo gr.hk (snd a X sc x W gr so tk hN h).1) _
  | .lsr c es a y z => fun X sc e W gr so tk hN h => by
    simp only [mtE] at h
    split at h
    · rename_i c0 r q
      obtain ⟨pos, rfl⟩ := asLst_eq q
      simp only [Bool.and_eq_true, decide_eq_true_eq] at h
      obtain ⟨⟨⟨h1, h2⟩, h3⟩, h4⟩ := h
      obtain ⟨i, p, rfl⟩ := asConst_eq h1
      split at h4
      · rename_i l hl
        split at h4
        · rename_i o y' z' ho
          simp only [Bool.and_eq_true, decide_eq_true_eq] at h4
          obtain ⟨⟨rfl, rfl⟩, h5⟩ := h4
          obtain ⟨a1, c1, j1, k1, p1, p2, rfl, h6, h7⟩ := asRepl_eq ho
          have er : r = r.dropLast ++ [Expr.Call (.Attribute o "replace" a1) [.Constant (.str y') j1 p1, .Constant (.str z') k1 p2] [] c1] := by
            obtain ⟨r', rfl⟩ := List.getLast?_eq_some_iff.mp hl
            rw [List.dropLast_concat]
          rw [er]
          exact both gr rfl (sLst (sFstT (sndT es X sc r.dropLast W gr so tk hN h3 (sNilT rfl (sRpl (by simpa using h2) h7 h6 (snd a X sc o W gr so tk hN h5).1))))) _
        · cases h4
      · cases h4
    · cases h
  | .oin n i x => fun X sc e W gr so tk hN h => by
    simp only [mtE] at h
    cases q : asCmp1 e with
    | none => rw [q] at h; cases h
    | some pq =>
      obtain ⟨l, p, r⟩ := pq
      rw [q] at h
      obtain ⟨pos, rfl⟩ := asCmp1_eq q
      simp only [Bool.and_eq_true, decide_eq_true_eq] at h
      obtain ⟨⟨rfl, h1⟩, h2⟩ := h
      cases q2 : asName r with
      | none => rw [q2] at h1; cases h1
      | some y =>
        rw [q2] at h1
        obtain ⟨p, rfl⟩ := asName_eq q2
        simp only [Bool.and_eq_true, decide_eq_true_eq] at h1
        have hx := (snd x X sc l W gr so tk hN h2).1
        have hv := pv_of (p := p) so (by rw [hN]; exact h1.1.1) h1.1.2 h1.2
        exact ⟨sOinE gr hx hv rfl, fun _ => sOinT gr hx hv rfl⟩
  | .call f es => fun X sc e W gr so tk hN h => by
    simp only [mtE] at h
    cases q : asCall e with
    | none => rw [q] at h; cases h
    | some pq =>
      obtain ⟨x, y, ys⟩ := pq
      rw [q] at h
      obtain ⟨p, p2, rfl⟩ := asCall_eq q
      simp only [Bool.and_eq_true, decide_eq_true_eq] at h
      obtain ⟨⟨⟨h0, h1⟩, h2⟩, h3⟩ := h
      obtain ⟨fd, hf, rfl⟩ := Option.map_eq_some_iff.mp h0
      exact both gr rfl (sCall gr tk hf (so.gl h1) h2 (mtEs_star h3) (sndL es X sc (y :: ys) W gr so tk hN h3)) _
  | .bif f es => fun X sc e W gr so tk hN h => by
    simp only [mtE] at h
    cases q : asCall e with
    | none => rw [q] at h; cases h
    | some pq =>
      obtain ⟨x, y, ys⟩ := pq
      rw [q] at h
      obtain ⟨p, p2, rfl⟩ := asCall_eq q
      simp only [Bool.and_eq_true, decide_eq_true_eq] at h
      obtain ⟨⟨h0, h1⟩, h3⟩ := h
      exact both gr rfl (sBif gr h0 (so.gl h1) (mtEs_star h3) (sndL es X sc (y :: ys) W gr so tk hN h3)) _
  | .isi a t => fun X sc e W gr so tk hN h => by
    simp only [mtE] at h
    cases q : asCall e with
    | none => rw [q] at h; cases h
    | some pq =>
      obtain ⟨x, y, ys⟩ := pq
      rw [q] at h
      obtain ⟨p, p2, rfl⟩ := asCall_eq q
      cases ys with
      | nil => cases h
      | cons z zs =>
        cases zs with
        | cons _ _ => cases h
        | nil =>
          simp only [Bool.and_eq_true, decide_eq_true_eq] at h
          obtain ⟨⟨⟨⟨rfl, h0⟩, h1⟩, h2⟩, h3⟩ := h
          cases q2 : asName z with
          | none => rw [q2] at h3; cases h3
          | some w =>
            rw [q2] at h3
            obtain ⟨p3, rfl⟩ := asName_eq q2
            simp only [Bool.and_eq_true] at h3
            have hz := so.gl h3.1
            have hi := h3.2
            have ha := (snd a X sc y W gr so tk hN h2).1
            cases t with
            | cls c =>
              simp only [isiB, Bool.and_eq_true, decide_eq_true_eq] at hi
              exact both gr rfl (sIsC gr (so.gl h0) h1 ha hi.1 hi.2 hz) _
            | ve =>
              cases (of_decide_eq_true hi : w = ("ValueError" : Str))
              exact both gr rfl (sIsV gr (so.gl h0) h1 ha hz) _
            | int => exact both gr rfl (sIsi gr (so.gl h0) h1 ha (of_decide_eq_true hi) hz) _
            | bool => exact both gr rfl (sIsi gr (so.gl h0) h1 ha (of_decide_eq_true hi) hz) _
            | tuple => exact both gr rfl (sIsi gr (so.gl h0) h1 ha (of_decide_eq_true hi) hz) _
            | list => exact both gr rfl (sIsi gr (so.gl h0) h1 ha (of_decide_eq_true hi) hz) _
            | str => exact both gr rfl (sIsi gr (so.gl h0) h1 ha (of_decide_eq_true hi) hz) _
            | dict => exact both gr rfl (sIsi gr (so.gl h0) h1 ha (of_decide_eq_true hi) hz) _
  | .comp tg it ifs elt => fun X sc e W gr so tk hN h => by
    obtain ⟨h1, h2⟩ := (fCompS (snd it) (snd ifs) (snd elt) gr so tk hN h).pe gr
    refine both gr h2 (peE (sOwn isL_comp h1) fun g s => ?_) _
    exact comp_eq g s
  | .compR tg lo hi ifs elt => fun X sc e W gr so tk hN h => by
    obtain ⟨h1, h2⟩ := (fCompR (snd lo) (snd hi) (snd ifs) (snd elt) gr so tk hN h).pe gr
    refine both gr h2 (peE (sOwn isL_comp h1) fun g s => ?_) _
    exact compR_eq g s
  | .mth m a es => fun X sc e W gr so tk hN h => by
    simp only [mtE] at h
    cases q : asMth e with
    | none => rw [q] at h; cases h
    | some pq =>
      obtain ⟨o, x, y⟩ := pq
      rw [q] at h
      obtain ⟨pa, pc, rfl, hl⟩ := asMth_eq q
      simp only [Bool.and_eq_true, decide_eq_true_eq] at h
      obtain ⟨⟨⟨⟨h0, h1⟩, h2⟩, h3⟩, h4⟩ := h
      exact both gr rfl (sMth gr h0 h1 h2 hl (snd a X sc o W gr so tk hN h3).1 (sndL es X sc [y] W gr so tk hN h4)) _
  | .oidx i x => fun X sc e W gr so tk hN h => by
    simp only [mtE] at h
    cases q : asIdx e with
    | none => rw [q] at h; cases h
    | some pq =>
      obtain ⟨a, z⟩ := pq
      rw [q] at h
      obtain ⟨pos, rfl⟩ := asIdx_eq q
      simp only [Bool.and_eq_true] at h
      obtain ⟨⟨h0, h1⟩, h2⟩ := h
      cases q2 : asName a with
      | none => rw [q2] at h1; cases h1
      | some y =>
        rw [q2] at h1
        obtain ⟨p, rfl⟩ := asName_eq q2
        simp only [Bool.and_eq_true, decide_eq_true_eq] at h1
        refine both gr rfl (peW (pe_ix ix_list (pv_of so (by rw [hN]; exact h1.1.1) h1.1.2 h1.2) (snd x X sc z W gr so tk hN h2).1 (plainIx h0)) fun σ H Q ⟨g, s, Sh, ok, h⟩ => ?_) _
        exact sOidx gr.hk ok h
  | .dct0 => fun X sc e W gr so tk hN h => by
    simp only [mtE] at h
    split at h
    · exact both gr rfl sDct0 _
    · cases h
  | .odix i x => fun X sc e W gr so tk hN h => by
    simp only [mtE] at h
    cases q : asIdx e with
    | none => rw [q] at h; cases h
    | some pq =>
      obtain ⟨a, z⟩ := pq
      rw [q] at h
      obtain ⟨pos, rfl⟩ := asIdx_eq q
      simp only [Bool.and_eq_true] at h
      obtain ⟨⟨h0, h1⟩, h2⟩ := h
      cases q2 : asName a with
      | none => rw [q2] at h1; cases h1
      | some y =>
        rw [q2] at h1
        obtain ⟨p, rfl⟩ := asName_eq q2
        simp only [Bool.and_eq_true, decide_eq_true_eq] at h1
        refine both gr rfl (peW (pe_ix (ix_dictK (by have := gr.hu; omega)) (pv_of so (by rw [hN]; exact h1.1.1) h1.1.2 h1.2) (snd x X sc z W gr so tk hN h2).1 (plainIx h0)) fun σ H Q ⟨g, s, Sh, ok, h⟩ => ?_) _
        exact sOdix ok h
  | .ssort a => fun X sc e W gr so tk hN h => by
    simp only [mtE] at h
    cases q : asCall2 e with
    | none => rw [q] at h; cases h
    | some pq =>
      obtain ⟨x, y, z, zs⟩ := pq
      rw [q] at h
      obtain ⟨p1, p2, p3, p4, rfl⟩ := asCall2_eq q
      cases zs with
      | cons _ _ => cases h
      | nil =>
        simp only [Bool.and_eq_true, decide_eq_true_eq] at h
        obtain ⟨⟨⟨⟨⟨rfl, rfl⟩, h1⟩, h2⟩, h3⟩, h4⟩ := h
        exact both gr rfl (sSSort gr (so.gl h1) (so.gl h2) h3 (snd a X sc z W gr so tk hN h4).1) _
  | .slen a => fun X sc e W gr so tk hN h => by
    simp only [mtE] at h
    cases q : asCall2 e with
    | none => rw [q] at h; cases h
    | some pq =>
      obtain ⟨x, y, z, zs⟩ := pq
      rw [q] at h
      obtain ⟨p1, p2, p3, p4, rfl⟩ := asCall2_eq q
      cases zs with
      | cons _ _ => cases h
      | nil =>
        simp only [Bool.and_eq_true, decide_eq_true_eq] at h
        obtain ⟨⟨⟨⟨⟨rfl, rfl⟩, h1⟩, h2⟩, h3⟩, h4⟩ := h
        exact both gr rfl (sSLen gr (so.gl h1) (so.gl h2) h3 (snd a X sc z W gr so tk hN h4).1) _
  | .ksort a => fun X sc e W gr so tk hN h => by
    simp only [mtE] at h
    cases q : asCall e with
    | none => rw [q] at h; cases h
    | some pq =>
      obtain ⟨x, y, ys⟩ := pq
      rw [q] at h
      obtain ⟨p, p2, rfl⟩ := asCall_eq q
      cases ys with
      | cons _ _ => cases h
      | nil =>
        simp only [Bool.and_eq_true, decide_eq_true_eq] at h
        obtain ⟨⟨rfl, h0⟩, h1⟩ := h
        cases q2 : asKeys y with
        | none => rw [q2] at h1; cases h1
        | some o =>
          rw [q2] at h1
          obtain ⟨pa, pc, rfl, hl, hb⟩ := asKeys_eq q2
          exact both gr rfl (sKSort gr (so.gl h0) hb hl (snd a X sc o W gr so tk hN h1).1) _
  | .klist a => fun X sc e W gr so tk hN h => by
    simp only [mtE] at h
    cases q : asCall e with
    | none => rw [q] at h; cases h
    | some pq =>
      obtain ⟨x, y, ys⟩ := pq
      rw [q] at h
      obtain ⟨p, p2, rfl⟩ := asCall_eq q
      cases ys with
      | cons _ _ => cases h
      | nil =>
        simp only [Bool.and_eq_true, decide_eq_true_eq] at h
        obtain ⟨⟨rfl, h0⟩, h1⟩ := h
        cases q2 : asKeys y with
        | none => rw [q2] at h1; cases h1
        | some o =>
          rw [q2] at h1
          obtain ⟨pa, pc, rfl, hl, hb⟩ := asKeys_eq q2
          exact both gr rfl (sKList gr (so.gl h0) hb hl (snd a X sc o W gr so tk hN h1).1) _
  | .compK tg it ifs elt => fun X sc e W gr so tk hN h => by
    obtain ⟨h1, h2⟩ := (fCompK (snd it) (snd ifs) (snd elt) gr so tk hN h).pe gr
    refine both gr h2 (peE (sOwn isL_comp h1) fun g s => ?_) _
    exact compK_eq g s
  | .rngl lo hi => fun X sc e W gr so tk hN h => by
    simp only [mtE] at h
    cases q : asCall2 e with
    | none => rw [q] at h; cases h
    | some pq =>
      obtain ⟨x, r, y, ys⟩ := pq
      rw [q] at h
      obtain ⟨p1, p2, p3, p4, rfl⟩ := asCall2_eq q
      simp only [Bool.and_eq_true, decide_eq_true_eq] at h
      obtain ⟨⟨⟨⟨⟨rfl, rfl⟩, h1⟩, h2⟩, h3⟩, h4⟩ := h
      split at h4
      · simp only [Bool.and_eq_true] at h4
        cases isZero_eq h4.1
        exact both gr rfl (sRngl1 gr (so.gl h1) (so.gl h2) h3 (snd hi X sc y W gr so tk hN h4.2).1) _
      · rename_i z
        simp only [Bool.and_eq_true] at h4
        exact both gr rfl (sRngl2 gr (so.gl h1) (so.gl h2) h3 h4.1.1 (snd lo X sc y W gr so tk hN h4.1.2).1 (snd hi X sc z W gr so tk hN h4.2).1) _
      · cases h4
  | .dctd c a => fun X sc e W gr so tk hN h => by
    simp only [mtE] at h
    cases q : asDict1 e with
    | none => rw [q] at h; cases h
    | some pq =>
      obtain ⟨c', v⟩ := pq
      rw [q] at h
      simp only [Bool.and_eq_true, decide_eq_true_eq] at h
      obtain ⟨⟨rfl, h1⟩, h2⟩ := h
      obtain ⟨i, p1, p2, rfl⟩ := asDict1_eq q
      obtain ⟨kk, hk⟩ := Option.isSome_iff_exists.mp h1
      exact both gr rfl (sDisp1 hk (snd a X sc v W gr so tk hN h2).1) _
  | .callO f hh es => fun X sc e W gr so tk hN h => by
    simp only [mtE] at h
    cases q : asCall2 e with
    | none => rw [q] at h; cases h
    | some pq =>
      obtain ⟨x, y, z, zs⟩ := pq
      rw [q] at h
      obtain ⟨p1, p2, p3, p4, rfl⟩ := asCall2_eq q
      simp only [Bool.and_eq_true] at h
      obtain ⟨⟨⟨⟨⟨⟨h1, h2⟩, h3⟩, h4⟩, h5⟩, h6⟩, h7⟩ := h
      cases q1 : tb.fs f with
      | none => rw [q1] at h1; cases h1
      | some fd =>
        cases q2 : tb.fs hh with
        | none => rw [q2] at h2; cases h2
        | some hd =>
          rw [q1] at h1
          rw [q2] at h2
          simp only [Bool.and_eq_true, decide_eq_true_eq] at h1 h2
          obtain ⟨rfl, h1⟩ := h1
          obtain ⟨rfl, h2⟩ := h2
          obtain ⟨u, hu⟩ := Option.isSome_iff_exists.mp h2
          exact both gr rfl (sCallO gr tk q1 q2 hu h1 (so.gl h3) (so.gl h4) h5 h6 (mtEs_star h7) (sndL es X sc (z :: zs) W gr so tk hN h7)) _
  | .olen i => fun X sc e W gr so tk hN h => by
    simp only [mtE] at h
    cases q : asCall e with
    | none => rw [q] at h; cases h
    | some pq =>
      obtain ⟨x, y, ys⟩ := pq
      rw [q] at h
      obtain ⟨p, p2, rfl⟩ := asCall_eq q
      cases ys with
      | cons _ _ => cases h
      | nil =>
        simp only [Bool.and_eq_true, decide_eq_true_eq] at h
        obtain ⟨⟨rfl, h0⟩, h1⟩ := h
        cases q2 : asName y with
        | none => rw [q2] at h1; cases h1
        | some z =>
          rw [q2] at h1
          obtain ⟨p3, rfl⟩ := asName_eq q2
          simp only [Bool.and_eq_true, decide_eq_true_eq] at h1
          refine both gr rfl (peW (pe_callB call_len (so.gl h0) (gr.blt _ (by decide)) boot_len (pa_cons (pv_of so (by rw [hN]; exact h1.1.1) h1.1.2 h1.2) pa_nil (by rfl)) (by decide) (by decide) (by rfl) (by rfl)) fun σ H Q ⟨g, s, Sh, ok, h⟩ => ?_) _
          exact sOlen gr.hk ok h
  | .bad => fun X sc e W gr so tk hN h => ⟨sBad, fun _ => tBad⟩
  | .ilist a => fun X sc e W gr so tk hN h => by
    simp only [mtE] at h
    cases q : asCall e with
    | none => rw [q] at h; cases h
    | some pq =>
      obtain ⟨x, y, ys⟩ := pq
      rw [q] at h
      obtain ⟨p, p2, rfl⟩ := asCall_eq q
      cases ys with
      | cons _ _ => cases h
      | nil =>
        simp only [Bool.and_eq_true, decide_eq_true_eq] at h
        obtain ⟨⟨rfl, h0⟩, h1⟩ := h
        cases q2 : asItems y with
        | none => rw [q2] at h1; cases h1
        | some o =>
          rw [q2] at h1
          obtain ⟨pa, pc, rfl, hl, hb⟩ := asItems_eq q2
          exact both gr rfl (sIList gr (so.gl h0) hb hl (snd a X sc o W gr so tk hN h1).1) _
  | .dget a b d => fun X sc e W gr so tk hN h => by
    simp only [mtE] at h
    cases q : asGet2 e with
    | none => rw [q] at h; cases h
    | some pq =>
      obtain ⟨o, y, z⟩ := pq
      rw [q] at h
      obtain ⟨pa, pc, rfl, hl, hb, hy, hz⟩ := asGet2_eq q
      simp only [Bool.and_eq_true] at h
      exact both gr rfl (sDGet gr hb hl hy hz (snd a X sc o W gr so tk hN h.1.1).1 (snd b X sc y W gr so tk hN h.1.2).1 (snd d X sc z W gr so tk hN h.2).1) _
  | .fnv f => fun X sc e W gr so tk hN h => by
    simp only [mtE] at h
    cases q : asName e with
    | none => rw [q] at h; cases h
    | some x =>
      rw [q] at h
      obtain ⟨p, rfl⟩ := asName_eq q
      simp only [Bool.and_eq_true, decide_eq_true_eq] at h
      obtain ⟨⟨h0, h1⟩, h2⟩ := h
      obtain ⟨fd, hf, rfl⟩ := Option.map_eq_some_iff.mp h0
      exact both gr rfl (sFnv gr hf (so.gl h1) h2) _
  | .callV i es => fun X sc e W gr so tk hN h => by
    simp only [mtE] at h
    cases q : asCall e with
    | none => rw [q] at h; cases h
    | some pq =>
      obtain ⟨x, y, ys⟩ := pq
      rw [q] at h
      obtain ⟨p, p2, rfl⟩ := asCall_eq q
      simp only [Bool.and_eq_true, decide_eq_true_eq] at h
      obtain ⟨⟨⟨h0, h1⟩, h2⟩, h3⟩ := h
      exact both gr rfl (sCallV gr tk (by rw [hN]; exact h0) (so.vis h1) h2 (mtEs_star h3) (sndL es X sc (y :: ys) W gr so tk hN h3)) _
theorem sndL : ∀ c : CEs, SndL tb k Z H0 N c
  | .nil => fun X sc e W gr so tk hN h => by
    simp only [mtEs] at h
    cases e with
    | nil => exact sNil
    | cons _ _ => cases h
  | .cons c cs => fun X sc e W gr so tk hN h => by
    cases e with
    | nil => simp [mtEs] at h
    | cons e es =>
      simp only [mtEs, Bool.and_eq_true] at h
      exact sCons h.1.1 (snd c X sc e W gr so tk hN h.1.2).1 (sndL cs X sc es W gr so tk hN h.2)
theorem sndT : ∀ c : CEs, ∀ (X : Cx) (sc : Scope) (es : List Expr) (W : WX), Gr tb k Z X → ScOk sc X → Takes X W → X.N = N → mtEs tb N c sc es = true → ∀ {l : Expr} {ea : G → S → EV D}, PAT X [l] (tA Z W H0 fun g s => rb (ea g s) fun d s => some (.ok [d], s)) →
    PAT X (es ++ [l]) (tA Z W H0 fun g s => rb (evEs (enOf tb k) c g s) fun ds s => rb (ea g s) fun d s => some (.ok (ds ++ [d]), s))
  | .nil => fun X sc e W gr so tk hN h l ea hl => by
    simp only [mtEs] at h
    cases e with
    | nil => exact hl
    | cons _ _ => cases h
  | .cons c cs => fun X sc e W gr so tk hN h l ea hl => by
    cases e with
    | nil => simp [mtEs] at h
    | cons e es =>
      simp only [mtEs, Bool.and_eq_true] at h
      have q := sConsT h.1.1 (snd c X sc e W gr so tk hN h.1.2).1 (sndT cs X sc es W gr so tk hN h.2 hl)
      refine patW q fun σ H Q ⟨g, s, Sh, ok, h⟩ => ⟨g, s, Sh, ok, ?_⟩
      have e1 : (rb (evE (enOf tb k) c g s) fun d s => rb (rb (evEs (enOf tb k) cs g s) fun ds s => rb (ea g s) fun d s => some (.ok (ds ++ [d]), s)) fun ds s => some (.ok (d :: ds), s)) = rb (evEs (enOf tb k) (.cons c cs) g s) fun ds s => rb (ea g s) fun d s => some (.ok (ds ++ [d]), s) := by
        simp only [evEs, rb_rb, rb_ok]
        rfl
      show EvX Z W (RepL Z) (rb (evE (enOf tb k) c g s) fun d s => rb (rb (evEs (enOf tb k) cs g s) fun ds s => rb (ea g s) fun d s => some (.ok (ds ++ [d]), s)) fun ds s => some (.ok (d :: ds), s)) σ H Sh Q
      rw [e1]
      exact h
end
end
end FR
/-! FrSnd9: slots shared for a while; what is wanted behind statements. -/
namespace FR
open PySem PySem.Spec PyProof.Rows L2

def lsd : HO → Bool
  | .lst _ => true
  | .dK _ => true
  | _ => false
/-- more is shared: lists and dicts of our own -/
structure Fz (H Sh Sh' : Hp) : Prop where
  shs : Same Sh Sh'
  new : ∀ (a : Addr) (o : HO), Sh' a = some o → Sh a = some o ∨ (Sh a = none ∧ lsd o = true ∧ H a = some o)
theorem Fz.refl {H Sh : Hp} : Fz H Sh Sh := ⟨Same.refl _, fun _ _ e => .inl e⟩
theorem Fz.trans {H Sh Sh1 Sh2 : Hp} (a : Fz H Sh Sh1) (b : Fz H Sh1 Sh2) : Fz H Sh Sh2 := ⟨a.shs.trans b.shs, fun c o e => by
  rcases b.new c o e with h | ⟨h1, h2, h3⟩
  · exact a.new c o h
  · exact .inr ⟨a.shs.free h1, h2, h3⟩⟩
section
variable {Z : Gd} {H0 : Ent} {H Sh : Hp} {σ : L2.St} {g : G} {s : S}
theorem TownOk.putS {o : HO} {p : Addr} (t : TownOk Z H Sh s) (hp : some p ≠ Z.T) : TownOk Z H (upd Sh p o) s := by
  unfold TownOk at t ⊢
  split at t
  · trivial
  · rename_i x a n e1
    have h : a ≠ p := fun q => hp (by rw [← q, e1])
    rw [upd_ne h]
    exact t
  · exact t
theorem Ext.putS {H1 Sh1 : Hp} {o : HO} {p : Addr} (e : Ext Z H1 Sh1 H Sh s) (h1 : Sh p = none) (h2 : some p ≠ Z.T) (h3 : H1 p = none) (h4 : H p = some o) : Ext Z H1 Sh1 H (upd Sh p o) s where
  frame := e.frame
  shs := e.shs.trans (same_fresh h1)
  sub := fun b x q => by
    by_cases hb : b = p
    · subst hb
      rw [upd_same] at q
      cases q
      exact h4
    · rw [upd_ne hb] at q
      exact e.sub b x q
  town := e.town.putS h2
  new := fun b x q => by
    by_cases hb : b = p
    · subst hb
      exact .inr h3
    · rw [upd_ne hb] at q
      exact e.new b x q
theorem Ok.atOwn (k : Ok Z H0 σ g H Sh s) {i : Nat} {x : Sl} {a : Addr} (e : g[i]? = some x) (hx : isOwn x = true) (es : σ[i]? = some (some (.ref a))) : ∃ o, H a = some o ∧ lsd o = true := by
  have q := k.slot i x _ e es
  cases x with
  | own ds =>
    obtain ⟨b, vs, e5, _, _, _, q4, _⟩ := q
    cases e5
    exact ⟨_, q4, rfl⟩
  | ownD ds =>
    obtain ⟨b, vs, e5, _, _, _, q4, _⟩ := q
    cases e5
    exact ⟨_, q4, rfl⟩
  | ownN dss =>
    obtain ⟨b, bs, e5, _, _, _, q4, _⟩ := q
    cases e5
    exact ⟨_, q4, rfl⟩
  | _ => cases hx
theorem lsd_ne {H : Hp} {a b : Addr} {o : HO} {od : Obj} {u : HO} (h : H a = some o) (hl : lsd o = true) (e : H b = some (.frz od u)) : b ≠ a := fun z => by
  subst z
  rw [e] at h
  cases h
  cases hl
theorem Ok.frz1 (k : Ok Z H0 σ g H Sh s) (i : Nat) (x : Sl) (e : g[i]? = some x) : ∃ Sh', Ok Z H0 σ (g.set i (frzS x)) H Sh' s ∧ Fz H Sh Sh' := by
  have hl : i < g.length := (List.getElem?_eq_some_iff.mp e).1
  have same : g.set i x = g := by
    obtain ⟨h1, h2⟩ := List.getElem?_eq_some_iff.mp e
    rw [← h2]
    exact List.set_getElem_self h1
  -- one of our own at a, its object o, its data d
  have key : ∀ (a : Addr) (o : HO) (d : D), isOwn x = true → σ[i]? = some (some (.ref a)) → Sh a = none → some a ≠ Z.T → H0.H a = none → H a = some o → lsd o = true → Rep Z (upd Sh a o) d (.ref a) → ∃ Sh', Ok Z H0 σ (g.set i (.dat d)) H Sh' s ∧ Fz H Sh Sh' := by
    intro a o d hx es h1 h2 h3 h4 h5 r
    have fr : Same Sh (upd Sh a o) := same_fresh h1
    refine ⟨upd Sh a o, ⟨k.ent.putS h1 h2 h3 h4, by rw [List.length_set]; exact k.len, fun j y p e1 e2 => ?_, fun j l y z p e1 e2 y1 z1 e3 e4 => ?_⟩, fr, fun b u q => ?_⟩
    · by_cases hj : j = i
      · subst hj
        rw [List.getElem?_set_self hl] at e1
        cases e1
        rw [es] at e2
        cases e2
        exact ⟨_, rfl, r⟩
      · rw [List.getElem?_set_ne (Ne.symm hj)] at e1
        have q := k.slot j y p e1 e2
        have nd : ∀ b, p = some (.ref b) → isOwn y = true → b ≠ a := fun b eb hy z => by
          subst z eb
          exact hj (k.dist j i y x _ e1 e hy hx e2 es)
        cases y with
        | un => trivial
        | dat d2 =>
          obtain ⟨v, e5, r5⟩ := q
          exact ⟨v, e5, r5.mono fr⟩
        | own ds =>
          obtain ⟨b, vs, e5, q1, q2, q3, q4, q5⟩ := q
          exact ⟨b, vs, e5, by rw [upd_ne (nd b e5 rfl)]; exact q1, q2, q3, q4, q5.mono fr⟩
        | ownD ds =>
          obtain ⟨b, vs, e5, q1, q2, q3, q4, q5⟩ := q
          exact ⟨b, vs, e5, by rw [upd_ne (nd b e5 rfl)]; exact q1, q2, q3, q4, q5.mono fr⟩
        | lkD ds =>
          obtain ⟨b, od, vs, e5, q1, q2, q3, q4, q5⟩ := q
          exact ⟨b, od, vs, e5, fr _ _ q1, q2, q3, q4, q5.mono fr⟩
        | ownN dss =>
          obtain ⟨b, bs, e5, q1, q2, q3, q4, q5⟩ := q
          exact ⟨b, bs, e5, by rw [upd_ne (nd b e5 rfl)]; exact q1, q2, q3, q4, q5.mv (fun c od vs w1 w2 w3 w4 => ⟨by rw [upd_ne (lsd_ne h4 h5 w4)]; exact w1, w3, w4⟩) fun ds vs w => w.mono fr⟩
    · have na : ∀ {a : Nat} {x : Sl}, (g.set i (Sl.dat d))[a]? = some x → isOwn x = true → a ≠ i := fun {a x} e h z => by
        subst z
        rw [List.getElem?_set_self hl] at e
        cases e
        cases h
      have n1 := na e1 y1
      have n2 := na e2 z1
      rw [List.getElem?_set_ne (Ne.symm n1)] at e1
      rw [List.getElem?_set_ne (Ne.symm n2)] at e2
      exact k.dist j l y z p e1 e2 y1 z1 e3 e4
    · by_cases hb : b = a
      · subst hb
        rw [upd_same] at q
        cases q
        exact .inr ⟨h1, h5, h4⟩
      · rw [upd_ne hb] at q
        exact .inl q
  obtain ⟨o, es, q⟩ := k.get e
  cases x with
  | un =>
    refine ⟨Sh, ?_, Fz.refl⟩
    show Ok Z H0 σ (g.set i .un) H Sh s
    rw [same]
    exact k
  | dat d =>
    refine ⟨Sh, ?_, Fz.refl⟩
    show Ok Z H0 σ (g.set i (.dat d)) H Sh s
    rw [same]
    exact k
  | own ds =>
    obtain ⟨a, vs, rfl, q1, q2, q3, q4, q5⟩ := q
    exact key a _ (.lst ds) rfl es q1 q2 q3 q4 rfl (.lst upd_same (q5.mono (same_fresh q1)))
  | ownD ds =>
    refine ⟨Sh, ?_, Fz.refl⟩
    show Ok Z H0 σ (g.set i (.ownD ds)) H Sh s
    rw [same]
    exact k
  | lkD ds =>
    refine ⟨Sh, ?_, Fz.refl⟩
    show Ok Z H0 σ (g.set i (.lkD ds)) H Sh s
    rw [same]
    exact k
  | ownN ds =>
    refine ⟨Sh, ?_, Fz.refl⟩
    show Ok Z H0 σ (g.set i (.ownN ds)) H Sh s
    rw [same]
    exact k
/-- what is our own at a, shared from now on as another thing -/
theorem Ok.lockO (k : Ok Z H0 σ g H Sh s) {i : Nat} {x : Sl} {a : Addr} {o : HO} {d : D} (e : g[i]? = some x) (hx : isOwn x = true) (es : σ[i]? = some (some (.ref a))) (h1 : Sh a = none) (h2 : some a ≠ Z.T) (h3 : H0.H a = none) (r : Rep Z (upd Sh a o) d (.ref a)) :
    Ok Z H0 σ (g.set i (.dat d)) (upd H a o) (upd Sh a o) s ∧ Same Sh (upd Sh a o) := by
  have hl : i < g.length := (List.getElem?_eq_some_iff.mp e).1
  have fr : Same Sh (upd Sh a o) := same_fresh h1
  refine ⟨⟨⟨fun b x hT q => ?_, k.ent.shs.trans fr, same_upd2 k.sub _, ?_, fun b x q => ?_⟩, by rw [List.length_set]; exact k.len, fun j y p e1 e2 => ?_, fun j l y z p e1 e2 y1 z1 e3 e4 => ?_⟩, fr⟩
  · rw [upd_ne (ne_of_none q h3)]
    exact k.ent.frame b x hT q
  · have t := k.town
    unfold TownOk at t ⊢
    split at t
    · trivial
    · rename_i b n eT
      have hne : b ≠ a := fun z => h2 (by rw [← z, eT])
      rw [upd_ne hne, upd_ne hne]
      exact t
    · exact t
  · by_cases hb : b = a
    · subst hb
      exact .inr h3
    · rw [upd_ne hb] at q
      exact k.ent.new b x q
  · by_cases hj : j = i
    · subst hj
      rw [List.getElem?_set_self hl] at e1
      cases e1
      rw [es] at e2
      cases e2
      exact ⟨_, rfl, r⟩
    · rw [List.getElem?_set_ne (Ne.symm hj)] at e1
      have q := k.slot j y p e1 e2
      have nd : ∀ b, p = some (.ref b) → isOwn y = true → b ≠ a := fun b eb hy z => by
        subst z eb
        exact hj (k.dist j i y _ _ e1 e hy hx e2 es)
      cases y with
      | un => trivial
      | dat d2 =>
        obtain ⟨v, e5, r5⟩ := q
        exact ⟨v, e5, r5.mono fr⟩
      | own ds =>
        obtain ⟨b, vs', e5, q1, q2, q3, q4, q5⟩ := q
        exact ⟨b, vs', e5, by rw [upd_ne (nd b e5 rfl)]; exact q1, q2, q3, by rw [upd_ne (nd b e5 rfl)]; exact q4, q5.mono fr⟩
      | ownD ds =>
        obtain ⟨b, vs', e5, q1, q2, q3, q4, q5⟩ := q
        exact ⟨b, vs', e5, by rw [upd_ne (nd b e5 rfl)]; exact q1, q2, q3, by rw [upd_ne (nd b e5 rfl)]; exact q4, q5.mono fr⟩
      | lkD ds =>
        obtain ⟨b, od', vs', e5, q1, q2, q3, q4, q5⟩ := q
        exact ⟨b, od', vs', e5, fr _ _ q1, q2, q3, q4, q5.mono fr⟩
      | ownN dss =>
        obtain ⟨b, bs, e5, q1, q2, q3, q4, q5⟩ := q
        obtain ⟨oa, ha, la⟩ := k.atOwn e hx es
        exact ⟨b, bs, e5, by rw [upd_ne (nd b e5 rfl)]; exact q1, q2, q3, by rw [upd_ne (nd b e5 rfl)]; exact q4, q5.mv (fun c od vs w1 w2 w3 w4 => ⟨by rw [upd_ne (lsd_ne ha la w4)]; exact w1, w3, by rw [upd_ne (lsd_ne ha la w4)]; exact w4⟩) fun ds vs w => w.mono fr⟩
  · have na : ∀ {b : Nat} {x : Sl}, (g.set i (Sl.dat d))[b]? = some x → isOwn x = true → b ≠ i := fun {b x} e h z => by
      subst z
      rw [List.getElem?_set_self hl] at e
      cases e
      cases h
    have n1 := na e1 y1
    have n2 := na e2 z1
    rw [List.getElem?_set_ne (Ne.symm n1)] at e1
    rw [List.getElem?_set_ne (Ne.symm n2)] at e2
    exact k.dist j l y z p e1 e2 y1 z1 e3 e4
/-- our own dict at a, locked and shared from now on -/
theorem Ok.lockD (k : Ok Z H0 σ g H Sh s) {i : Nat} {ks : List (Key × D)} {a : Addr} {vs : List (Key × V)} (od : Obj) (e : g[i]? = some (.ownD ks)) (es : σ[i]? = some (some (.ref a))) (h1 : Sh a = none) (h2 : some a ≠ Z.T) (h3 : H0.H a = none) (h4 : H a = some (.dK vs)) (r : RepK Z Sh ks vs) :
    Ok Z H0 σ (g.set i (.dat (.dct ks))) (upd H a (.frz od (.dK vs))) (upd Sh a (.frz od (.dK vs))) s ∧ Same Sh (upd Sh a (.frz od (.dK vs))) :=
  k.lockO e rfl es h1 h2 h3 (.dct upd_same (r.mono (same_fresh h1)))
theorem Ok.frz : ∀ (L : List Nat) {g : G} {Sh : Hp}, Ok Z H0 σ g H Sh s → ∃ Sh', Ok Z H0 σ (frz g L) H Sh' s ∧ Fz H Sh Sh'
  | [], g, Sh, k => ⟨Sh, k, Fz.refl⟩
  | i :: L, g, Sh, k => by
    rw [FR.frz]
    cases e : g[i]? with
    | none => exact Ok.frz L k
    | some x =>
      obtain ⟨Sh1, k1, f1⟩ := k.frz1 i x e
      obtain ⟨Sh2, k2, f2⟩ := Ok.frz L k1
      exact ⟨Sh2, k2, f1.trans f2⟩
mutual
theorem Rep.thin {Sh2 Sh3 : Hp} (h : ∀ a o, Sh2 a = some o → lsd o = false → Sh3 a = some o) : ∀ {d : D} {v : V}, Rep Z Sh2 d v → d.lf = true → Rep Z Sh3 d v
  | _, _, .non, _ => .non
  | _, _, .bl b, _ => .bl b
  | _, _, .int b, _ => .int b
  | _, _, .str b, _ => .str b
  | _, _, .tup x y, q => by
    refine .tup ?_ (RepL.thin h y (by simpa [D.lf] using q))
    rcases x with (x | ⟨o, x⟩) | x
    · exact .inl (.inl (h _ _ x rfl))
    · exact .inl (.inr ⟨o, h _ _ x rfl⟩)
    · exact .inr x
  | _, _, .lst x y, q => by simp [D.lf] at q
  | _, _, .dct x y, q => by simp [D.lf] at q
  | _, _, .fn f, _ => .fn f
  | _, _, .exc c x, _ => .exc c (h _ _ x rfl)
  | _, _, .town x, q => by simp [D.lf] at q
  | _, _, .scr x, q => by simp [D.lf] at q
  | _, _, .ndc x y z, q => by simp [D.lf] at q
theorem RepL.thin {Sh2 Sh3 : Hp} (h : ∀ a o, Sh2 a = some o → lsd o = false → Sh3 a = some o) : ∀ {d : List D} {v : List V}, RepL Z Sh2 d v → D.lfL d = true → RepL Z Sh3 d v
  | _, _, .nil, _ => .nil
  | _, _, .cons x y, q => by
    simp only [D.lfL, Bool.and_eq_true] at q
    exact .cons (Rep.thin h x q.1) (RepL.thin h y q.2)
end
/-- the shared part without what was shared for a while -/
def thinH (Sh Sh1 Sh2 : Hp) : Hp := fun a => match Sh a, Sh1 a with
  | none, some _ => none
  | _, _ => Sh2 a
theorem Ok.back {Sh1 H' Sh2 : Hp} {s' : S} (k : Ok Z H0 σ g H Sh s) (f : Fz H Sh Sh1) (e : Ext Z H Sh1 H' Sh2 s') :
    ∃ Sh3, Ok Z H0 σ g H' Sh3 s' ∧ Same Sh Sh3 ∧ (∀ a, Sh2 a = none → Sh3 a = none) ∧ (∀ d v, d.lf = true → Rep Z Sh2 d v → Rep Z Sh3 d v) ∧ ∀ ds vs, D.lfL ds = true → RepL Z Sh2 ds vs → RepL Z Sh3 ds vs := by
  have out : ∀ a o, thinH Sh Sh1 Sh2 a = some o → Sh2 a = some o ∧ (Sh a ≠ none ∨ Sh1 a = none) := fun a o q => by
    unfold thinH at q
    split at q
    · cases q
    · rename_i h1 h2
      refine ⟨q, ?_⟩
      cases q1 : Sh a with
      | some _ => exact .inl (by simp)
      | none =>
        cases q2 : Sh1 a with
        | none => exact .inr rfl
        | some _ => exact (h2 _ q1 q2).elim
  have into : ∀ a, (Sh a ≠ none ∨ Sh1 a = none) → thinH Sh Sh1 Sh2 a = Sh2 a := fun a h => by
    unfold thinH
    split
    · rename_i q1 q2
      rcases h with h | h
      · exact absurd q1 h
      · rw [q2] at h
        cases h
    · rfl
  have same : Same Sh (thinH Sh Sh1 Sh2) := fun a o q => by
    rw [into a (.inl (by rw [q]; simp))]
    exact e.shs a o (f.shs a o q)
  have thin : ∀ a o, Sh2 a = some o → lsd o = false → thinH Sh Sh1 Sh2 a = some o := fun a o q hl => by
    rw [into a ?_]
    · exact q
    · cases q1 : Sh a with
      | some _ => exact .inl (by simp)
      | none =>
        cases q2 : Sh1 a with
        | none => exact .inr rfl
        | some u =>
          rcases f.new a u q2 with z | ⟨_, z, _⟩
          · rw [q1] at z
            cases z
          · have := e.shs a u q2
            rw [q] at this
            cases this
            rw [hl] at z
            cases z
  have noOwn : ∀ a o, Sh a = none → H a = some o → thinH Sh Sh1 Sh2 a = none := fun a o h1 h2 => by
    cases q : thinH Sh Sh1 Sh2 a with
    | none => rfl
    | some u =>
      obtain ⟨h3, h4⟩ := out a u q
      rcases h4 with h4 | h4
      · exact absurd h1 h4
      · rcases e.new a u h3 with z | z
        · rw [h4] at z
          cases z
        · rw [h2] at z
          cases z
  refine ⟨thinH Sh Sh1 Sh2, ⟨⟨fun a o h q => e.frame a o h (k.ent.frame a o h q), k.ent.shs.trans same, fun a o q => e.sub a o (out a o q).1, ?_, fun a o q => ?_⟩, k.len, fun i x o e1 e2 => ?_, k.dist⟩, same, fun a h => ?_, fun d v hd r => r.thin thin hd, fun ds vs hd r => r.thin thin hd⟩
  · have t := e.town
    unfold TownOk at t ⊢
    split at t
    · trivial
    · rename_i x a n e1
      refine ⟨?_, t.2⟩
      cases q : thinH Sh Sh1 Sh2 a with
      | none => rfl
      | some u =>
        rw [(out a u q).1] at t
        cases t.1
    · exact t
  · obtain ⟨h3, h4⟩ := out a o q
    rcases e.new a o h3 with z | z
    · rcases f.new a o z with z2 | ⟨z2, _, _⟩
      · exact k.ent.new a o z2
      · rcases h4 with h4 | h4
        · exact absurd z2 h4
        · rw [h4] at z
          cases z
    · rcases k.ent.gone z with h | h
      · exact .inr h
      · obtain ⟨_, _, _, h2⟩ := k.town.there h.symm
        rw [z] at h2
        cases h2
  · have q := k.slot i x o e1 e2
    cases x with
    | un => trivial
    | dat d =>
      obtain ⟨v, e5, r⟩ := q
      exact ⟨v, e5, r.mono same⟩
    | own ds =>
      obtain ⟨a, vs, e5, q1, q2, q3, q4, q5⟩ := q
      exact ⟨a, vs, e5, noOwn a _ q1 q4, q2, q3, e.frame a _ q2 q4, q5.mono same⟩
    | ownD ds =>
      obtain ⟨a, vs, e5, q1, q2, q3, q4, q5⟩ := q
      exact ⟨a, vs, e5, noOwn a _ q1 q4, q2, q3, e.frame a _ q2 q4, q5.mono same⟩
    | lkD ds =>
      obtain ⟨a, od, vs, e5, q1, q2, q3, q4, q5⟩ := q
      exact ⟨a, od, vs, e5, same _ _ q1, q2, q3, q4, q5.mono same⟩
    | ownN dss =>
      obtain ⟨a, bs, e5, q1, q2, q3, q4, q5⟩ := q
      exact ⟨a, bs, e5, noOwn a _ q1 q4, q2, q3, e.frame a _ q2 q4, q5.mv (fun c od vs w1 w2 w3 w4 => ⟨noOwn c _ w1 w4, w3, e.frame c _ w2 w4⟩) fun ds vs w => w.mono same⟩
  · cases q : thinH Sh Sh1 Sh2 a with
    | none => rfl
    | some u =>
      have := (out a u q).1
      rw [h] at this
      cases this
end

/-! ### what is wanted behind a statement -/
section
variable (Z : Gd) (W : WX) (H0 : Ent)
def EvS (Sh : Hp) (o : EV Fl) (D : Ends) : Prop := match o with
  | some (.ok (.nx g), s) => ∀ (σ : L2.St) (H Sh' : Hp), Same Sh Sh' → Ok Z H0 σ g H Sh' s → D.nx σ H
  | some (.ok (.ct g), s) => ∀ (σ : L2.St) (H Sh' : Hp), Same Sh Sh' → Ok Z H0 σ g H Sh' s → D.ct σ H
  | some (.ok (.bk g), s) => ∀ (σ : L2.St) (H Sh' : Hp), Same Sh Sh' → Ok Z H0 σ g H Sh' s → D.bk σ H
  | some (.ok (.rt d), s) => ∀ (v : V) (H Sh' : Hp), Ext Z H0.H H0.Sh H Sh' s → Rep Z Sh' d v → D.rt v H
  | some (.exn c, s) => ∀ (σ : L2.St) (H Sh' : Hp), Ext Z H0.H H0.Sh H Sh' s → W (.ref (Z.cA c)) none σ H
  | none => False
def tS (ev : G → S → EV Fl) : TS := fun D σ H => ∃ (g : G) (s : S) (Sh : Hp), Ok Z H0 σ g H Sh s ∧ EvS Z W H0 Sh (ev g s) D
end
section
variable {Z : Gd} {W : WX} {H0 : Ent} {H Sh : Hp} {σ : L2.St} {g : G} {s : S} {D : Ends} {α β : Type} {rel : Hp → α → β → Prop}
theorem EvS.mono {Sh' : Hp} {o : EV Fl} (h : EvS Z W H0 Sh o D) (x : Same Sh Sh') : EvS Z W H0 Sh' o D := by
  unfold EvS at h ⊢
  split
  · exact fun σ H Sh2 y k => h σ H Sh2 (x.trans y) k
  · exact fun σ H Sh2 y k => h σ H Sh2 (x.trans y) k
  · exact fun σ H Sh2 y k => h σ H Sh2 (x.trans y) k
  · exact h
  · exact h
  · exact h
theorem EvS.imp {o : EV Fl} {D' : Ends} (h : EvS Z W H0 Sh o D) (h1 : ∀ σ H, D.nx σ H → D'.nx σ H) (h2 : ∀ σ H, D.ct σ H → D'.ct σ H) (h3 : ∀ σ H, D.bk σ H → D'.bk σ H) (h4 : ∀ v H, D.rt v H → D'.rt v H) : EvS Z W H0 Sh o D' := by
  unfold EvS at h ⊢
  split
  · exact fun σ H Sh2 y k => h1 _ _ (h σ H Sh2 y k)
  · exact fun σ H Sh2 y k => h2 _ _ (h σ H Sh2 y k)
  · exact fun σ H Sh2 y k => h3 _ _ (h σ H Sh2 y k)
  · exact fun v H Sh2 y k => h4 _ _ (h v H Sh2 y k)
  · exact h
  · exact h
/-- an answer, then on -/
theorem EvS.bind {o : EV α} {f : α → S → EV Fl} {Sh1 : Hp} {Q : β → Hp → Prop} (k : Ok Z H0 σ g H Sh1 s) (h : EvS Z W H0 Sh (rb o f) D) (q : ∀ a s' v H' Sh', Ext Z H Sh1 H' Sh' s' → rel Sh' a v → EvS Z W H0 Sh (f a s') D → Q v H') : EvX Z W rel o σ H Sh1 Q := by
  unfold EvX
  cases o with
  | none => exact h.elim
  | some p =>
    obtain ⟨r, s1⟩ := p
    cases r with
    | exn c => exact fun H' Sh' e => h σ H' Sh' (k.ent.trans e)
    | ok a => exact fun v H' Sh' e r => q a s1 v H' Sh' e r h
/-- an expression at a statement's head -/
theorem EvS.exE {en : En} {L : List Nat} {e : CE} {f : FR.D → G → S → EV Fl} {Q : VK} (k : Ok Z H0 σ g H Sh s) (h : EvS Z W H0 Sh (exE en L e g s f) D)
    (q : ∀ d g' s' v H' Sh', Same Sh Sh' → Ok Z H0 σ g' H' Sh' s' → (g' = g ∨ g' = FR.frz g L) → (∀ a o, some a ≠ Z.T → H a = some o → H' a = some o) → Rep Z Sh' d v → EvS Z W H0 Sh (f d g' s') D → Q v H') :
    ∃ Sh1, Ok Z H0 σ (FR.frz g L) H Sh1 s ∧ EvX Z W (Rep Z) (evE en e (FR.frz g L) s) σ H Sh1 Q := by
  obtain ⟨Sh1, k1, fz⟩ := k.frz L
  refine ⟨Sh1, k1, EvS.bind k1 h fun d s' v H' Sh' x r h => ?_⟩
  cases hd : d.lf with
  | false =>
    rw [hd, if_neg Bool.false_ne_true] at h
    exact q d _ s' v H' Sh' (fz.shs.trans x.shs) (k1.ext x) (.inr rfl) x.frame r h
  | true =>
    rw [hd, if_pos rfl] at h
    obtain ⟨Sh3, k3, sm, _, r3, _⟩ := k.back fz x
    exact q d _ s' v H' Sh3 sm k3 (.inl rfl) x.frame (r3 d v hd r) h
theorem EvS.test {en : En} {L : List Nat} {e : CE} {f : Bool → S → EV Fl} {Q : Bool → Hp → Prop} (k : Ok Z H0 σ g H Sh s) (h : EvS Z W H0 Sh (rb (testE en L e g s) f) D)
    (q : ∀ b s' H' Sh', Same Sh Sh' → Ok Z H0 σ g H' Sh' s' → EvS Z W H0 Sh (f b s') D → Q b H') :
    ∃ Sh1, Ok Z H0 σ (FR.frz g L) H Sh1 s ∧ EvX Z W (fun _ a b => a = b) (evT (evE en e) (FR.frz g L) s) σ H Sh1 Q := by
  obtain ⟨Sh1, k1, fz⟩ := k.frz L
  refine ⟨Sh1, k1, EvS.bind (o := testE en L e g s) k1 h fun b s' v H' Sh' x r h => ?_⟩
  subst r
  obtain ⟨Sh3, k3, sm, _⟩ := k.back fz x
  exact q b s' H' Sh3 sm k3 h
end
end FR
/-! FrSnd10: rules for statements. -/
namespace FR
open PySem PySem.Spec PyProof.Rows L2

/-! ### our own lists changed -/
section
variable {Z : Gd} {H0 : Ent} {H Sh : Hp} {σ : L2.St} {g : G} {s : S}
theorem Ext.upd1 {H1 Sh1 : Hp} {o : HO} {p : Addr} (e : Ext Z H1 Sh1 H Sh s) (h1 : Sh p = none) (h2 : some p ≠ Z.T) (h3 : H1 p = none) : Ext Z H1 Sh1 (upd H p o) Sh s where
  frame := fun a x h q => by
    rw [upd_ne (ne_of_none q h3)]
    exact e.frame a x h q
  shs := e.shs
  sub := fun a x q => by
    rw [upd_ne (ne_of_none q h1)]
    exact e.sub a x q
  town := by
    have t := e.town
    unfold TownOk at t ⊢
    split at t
    · trivial
    · rename_i x a n e1
      have h : a ≠ p := fun z => h2 (by rw [← z, e1])
      rw [upd_ne h]
      exact t
    · exact t
  new := e.new
/-- the list of slot i is changed -/
theorem Ok.mut (k : Ok Z H0 σ g H Sh s) {i : Nat} {x : Sl} {a : Addr} {es : List D} {vs : List V} (e : g[i]? = some x) (hx : isOwn x = true) (es1 : σ[i]? = some (some (.ref a))) (h1 : Sh a = none) (h2 : some a ≠ Z.T) (h3 : H0.H a = none) (r : RepL Z Sh es vs) :
    Ok Z H0 σ (g.set i (.own es)) (upd H a (.lst vs)) Sh s where
  ent := k.ent.upd1 h1 h2 h3
  len := by rw [List.length_set]; exact k.len
  slot := fun j y p e1 e2 => by
    by_cases hj : j = i
    · subst hj
      rw [List.getElem?_set_self (List.getElem?_eq_some_iff.mp e).1] at e1
      cases e1
      rw [es1] at e2
      cases e2
      exact ⟨a, vs, rfl, h1, h2, h3, upd_same, r⟩
    · rw [List.getElem?_set_ne (Ne.symm hj)] at e1
      have q := k.slot j y p e1 e2
      have nd : ∀ b, p = some (.ref b) → isOwn y = true → b ≠ a := fun b eb hy z => by
        subst z eb
        exact hj (k.dist j i y x _ e1 e hy hx e2 es1)
      cases y with
      | un => trivial
      | dat d2 => exact q
      | own ds =>
        obtain ⟨b, vs, e5, q1, q2, q3, q4, q5⟩ := q
        exact ⟨b, vs, e5, q1, q2, q3, by rw [upd_ne (nd b e5 rfl)]; exact q4, q5⟩
      | ownD ds =>
        obtain ⟨b, vs, e5, q1, q2, q3, q4, q5⟩ := q
        exact ⟨b, vs, e5, q1, q2, q3, by rw [upd_ne (nd b e5 rfl)]; exact q4, q5⟩
      | lkD ds => exact q
      | ownN dss =>
        obtain ⟨b, bs, e5, q1, q2, q3, q4, q5⟩ := q
        obtain ⟨oa, ha, la⟩ := k.atOwn e hx es1
        exact ⟨b, bs, e5, q1, q2, q3, by rw [upd_ne (nd b e5 rfl)]; exact q4, q5.mv (fun c od vs w1 w2 w3 w4 => ⟨w1, w3, by rw [upd_ne (lsd_ne ha la w4)]; exact w4⟩) fun ds vs w => w⟩
  dist := fun j l y z p e1 e2 y1 z1 e3 e4 => by
    have key : ∀ {j : Nat} {y : Sl}, (g.set i (Sl.own es))[j]? = some y → isOwn y = true → ∃ y', g[j]? = some y' ∧ isOwn y' = true := fun {j y} e1 y1 => by
      by_cases hj : j = i
      · subst hj
        exact ⟨x, e, hx⟩
      · rw [List.getElem?_set_ne (Ne.symm hj)] at e1
        exact ⟨y, e1, y1⟩
    obtain ⟨y', q1, q2⟩ := key e1 y1
    obtain ⟨z', q3, q4⟩ := key e2 z1
    exact k.dist j l y' z' p q1 q3 q2 q4 e3 e4
/-- a new list of our own is put into slot i -/
theorem Ok.setOwn (k : Ok Z H0 σ g H Sh s) {i : Nat} {a : Addr} {es : List D} {vs : List V} (h1 : Sh a = none) (h2 : some a ≠ Z.T) (h3 : H0.H a = none) (h4 : H a = some (.lst vs)) (r : RepL Z Sh es vs) (hn : ∀ (j : Nat) (y : Sl), g[j]? = some y → isOwn y = true → σ[j]? ≠ some (some (.ref a))) :
    Ok Z H0 (σ.set i (some (.ref a))) (g.set i (.own es)) H Sh s where
  ent := k.ent
  len := by rw [List.length_set, List.length_set]; exact k.len
  slot := fun j y p e1 e2 => by
    by_cases hj : j = i
    · subst hj
      have hl : j < g.length := by
        have := (List.getElem?_eq_some_iff.mp e1).1
        rwa [List.length_set] at this
      rw [List.getElem?_set_self hl] at e1
      rw [List.getElem?_set_self (by rw [k.len]; exact hl)] at e2
      cases e1
      cases e2
      exact ⟨a, vs, rfl, h1, h2, h3, h4, r⟩
    · rw [List.getElem?_set_ne (Ne.symm hj)] at e1 e2
      exact k.slot j y p e1 e2
  dist := fun j l y z p e1 e2 y1 z1 e3 e4 => by
    by_cases hj : j = i
    · by_cases hl : l = i
      · rw [hj, hl]
      · exfalso
        subst hj
        rw [List.getElem?_set_ne (Ne.symm hl)] at e2 e4
        have hg : j < σ.length := by
          have := (List.getElem?_eq_some_iff.mp e3).1
          rwa [List.length_set] at this
        rw [List.getElem?_set_self hg] at e3
        cases e3
        exact hn l z e2 z1 e4
    · rw [List.getElem?_set_ne (Ne.symm hj)] at e1 e3
      by_cases hl : l = i
      · exfalso
        subst hl
        have hg : l < σ.length := by
          have := (List.getElem?_eq_some_iff.mp e4).1
          rwa [List.length_set] at this
        rw [List.getElem?_set_self hg] at e4
        cases e4
        exact hn j y e1 y1 e3
      · rw [List.getElem?_set_ne (Ne.symm hl)] at e2 e4
        exact k.dist j l y z p e1 e2 y1 z1 e3 e4
/-- the town grows -/
theorem Ok.tapped (k : Ok Z H0 σ g H Sh s) {t : Addr} {n : Nat} (e : Z.T = some t) (hs : s = some n) : Ok Z H0 σ g (upd H t (.lst (List.replicate n (V.int 0) ++ [.int 0]))) Sh (some (n + 1)) := by
  obtain ⟨n', e1, h1, h2⟩ := k.town.there e
  rw [hs] at e1
  cases e1
  refine ⟨⟨fun a x h q => ?_, k.ent.shs, fun a x q => ?_, ?_, k.ent.new⟩, k.len, fun j y p e1 e2 => ?_, k.dist⟩
  · have : a ≠ t := fun z => h (by rw [z, e])
    rw [upd_ne this]
    exact k.ent.frame a x h q
  · rw [upd_ne (ne_of_none q h1)]
    exact k.sub a x q
  · unfold TownOk
    rw [e]
    refine ⟨h1, ?_⟩
    rw [upd_same, List.replicate_succ']
  · have q := k.slot j y p e1 e2
    cases y with
    | un => trivial
    | dat d2 => exact q
    | own ds =>
      obtain ⟨b, vs, e5, q1, q2, q3, q4, q5⟩ := q
      exact ⟨b, vs, e5, q1, q2, q3, by rw [upd_ne fun z => q2 (by rw [z, e])]; exact q4, q5⟩
    | ownD ds =>
      obtain ⟨b, vs, e5, q1, q2, q3, q4, q5⟩ := q
      exact ⟨b, vs, e5, q1, q2, q3, by rw [upd_ne fun z => q2 (by rw [z, e])]; exact q4, q5⟩
    | lkD ds => exact q
    | ownN dss =>
      obtain ⟨b, bs, e5, q1, q2, q3, q4, q5⟩ := q
      exact ⟨b, bs, e5, q1, q2, q3, by rw [upd_ne fun z => q2 (by rw [z, e])]; exact q4, q5.mv (fun c od vs w1 w2 w3 w4 => ⟨w1, w3, by rw [upd_ne fun z => w2 (by rw [z, e])]; exact w4⟩) fun ds vs w => w⟩
/-- something of our own is changed, in place -/
theorem Ok.mutG (k : Ok Z H0 σ g H Sh s) {i : Nat} {x y : Sl} {a : Addr} {o : HO} (e : g[i]? = some x) (hx : isOwn x = true) (hy : isOwn y = true) (es1 : σ[i]? = some (some (.ref a))) (h1 : Sh a = none) (h2 : some a ≠ Z.T) (h3 : H0.H a = none) (hs : SlOk Z (upd H a o) Sh H0 y (some (.ref a))) :
    Ok Z H0 σ (g.set i y) (upd H a o) Sh s where
  ent := k.ent.upd1 h1 h2 h3
  len := by rw [List.length_set]; exact k.len
  slot := fun j z p e1 e2 => by
    by_cases hj : j = i
    · subst hj
      rw [List.getElem?_set_self (List.getElem?_eq_some_iff.mp e).1] at e1
      cases e1
      rw [es1] at e2
      cases e2
      exact hs
    · rw [List.getElem?_set_ne (Ne.symm hj)] at e1
      have q := k.slot j z p e1 e2
      have nd : ∀ b, p = some (.ref b) → isOwn z = true → b ≠ a := fun b eb hz w => by
        subst w eb
        exact hj (k.dist j i z x _ e1 e hz hx e2 es1)
      cases z with
      | un => trivial
      | dat d2 => exact q
      | own ds =>
        obtain ⟨b, vs, e5, q1, q2, q3, q4, q5⟩ := q
        exact ⟨b, vs, e5, q1, q2, q3, by rw [upd_ne (nd b e5 rfl)]; exact q4, q5⟩
      | ownD ds =>
        obtain ⟨b, vs, e5, q1, q2, q3, q4, q5⟩ := q
        exact ⟨b, vs, e5, q1, q2, q3, by rw [upd_ne (nd b e5 rfl)]; exact q4, q5⟩
      | lkD ds => exact q
      | ownN dss =>
        obtain ⟨b, bs, e5, q1, q2, q3, q4, q5⟩ := q
        obtain ⟨oa, ha, la⟩ := k.atOwn e hx es1
        exact ⟨b, bs, e5, q1, q2, q3, by rw [upd_ne (nd b e5 rfl)]; exact q4, q5.mv (fun c od vs w1 w2 w3 w4 => ⟨w1, w3, by rw [upd_ne (lsd_ne ha la w4)]; exact w4⟩) fun ds vs w => w⟩
  dist := fun j l u z p e1 e2 y1 z1 e3 e4 => by
    have key : ∀ {j : Nat} {u : Sl}, (g.set i y)[j]? = some u → isOwn u = true → ∃ u', g[j]? = some u' ∧ isOwn u' = true := fun {j u} e1 y1 => by
      by_cases hj : j = i
      · subst hj
        exact ⟨x, e, hx⟩
      · rw [List.getElem?_set_ne (Ne.symm hj)] at e1
        exact ⟨u, e1, y1⟩
    obtain ⟨y', q1, q2⟩ := key e1 y1
    obtain ⟨z', q3, q4⟩ := key e2 z1
    exact k.dist j l y' z' p q1 q3 q2 q4 e3 e4
/-- something new of our own is put into slot i -/
theorem Ok.setG (k : Ok Z H0 σ g H Sh s) {i : Nat} {a : Addr} {x : Sl} (hs : SlOk Z H Sh H0 x (some (.ref a))) (hn : ∀ (j : Nat) (y : Sl), g[j]? = some y → isOwn y = true → σ[j]? ≠ some (some (.ref a))) :
    Ok Z H0 (σ.set i (some (.ref a))) (g.set i x) H Sh s where
  ent := k.ent
  len := by rw [List.length_set, List.length_set]; exact k.len
  slot := fun j y p e1 e2 => by
    by_cases hj : j = i
    · subst hj
      have hl : j < g.length := by
        have := (List.getElem?_eq_some_iff.mp e1).1
        rwa [List.length_set] at this
      rw [List.getElem?_set_self hl] at e1
      rw [List.getElem?_set_self (by rw [k.len]; exact hl)] at e2
      cases e1
      cases e2
      exact hs
    · rw [List.getElem?_set_ne (Ne.symm hj)] at e1 e2
      exact k.slot j y p e1 e2
  dist := fun j l y z p e1 e2 y1 z1 e3 e4 => by
    by_cases hj : j = i
    · by_cases hl : l = i
      · rw [hj, hl]
      · exfalso
        subst hj
        rw [List.getElem?_set_ne (Ne.symm hl)] at e2 e4
        have hg : j < σ.length := by
          have := (List.getElem?_eq_some_iff.mp e3).1
          rwa [List.length_set] at this
        rw [List.getElem?_set_self hg] at e3
        cases e3
        exact hn l z e2 z1 e4
    · rw [List.getElem?_set_ne (Ne.symm hj)] at e1 e3
      by_cases hl : l = i
      · exfalso
        subst hl
        have hg : l < σ.length := by
          have := (List.getElem?_eq_some_iff.mp e4).1
          rwa [List.length_set] at this
        rw [List.getElem?_set_self hg] at e4
        cases e4
        exact hn j y e1 y1 e3
      · rw [List.getElem?_set_ne (Ne.symm hl)] at e2 e4
        exact k.dist j l y z p e1 e2 y1 z1 e3 e4
/-- what is new stands in no slot of our own -/
theorem Ok.free (ok : Ok Z H0 σ g H Sh s) {p : Addr} (hp : H p = none) : ∀ (j : Nat) (y : Sl), g[j]? = some y → isOwn y = true → σ[j]? ≠ some (some (.ref p)) := fun j y e1 y1 z => by
  obtain ⟨o, e2, q2⟩ := ok.get e1
  rw [z] at e2
  cases e2
  cases y with
  | own ds =>
    obtain ⟨b, vs, e5, _, _, _, q4, _⟩ := q2
    cases e5
    rw [hp] at q4
    cases q4
  | ownD ds =>
    obtain ⟨b, vs, e5, _, _, _, q4, _⟩ := q2
    cases e5
    rw [hp] at q4
    cases q4
  | ownN ds =>
    obtain ⟨b, vs, e5, _, _, _, q4, _⟩ := q2
    cases e5
    rw [hp] at q4
    cases q4
  | _ => cases y1
theorem Ok.ownA (k : Ok Z H0 σ g H Sh s) {i : Nat} (h : ownB g[i]? = true) : ∃ a, σ[i]? = some (some (.ref a)) ∧ some a ≠ Z.T := by
  unfold ownB at h
  split at h
  · rename_i q
    obtain ⟨o, e1, a, vs, rfl, _, h2, _⟩ := k.get q
    exact ⟨a, e1, h2⟩
  · rename_i q
    obtain ⟨o, e1, a, vs, rfl, _, h2, _⟩ := k.get q
    exact ⟨a, e1, h2⟩
  · cases h
end

/-! ### statements, by their parts -/
section
variable {Z : Gd} {W : WX} {H0 : Ent} {X : Cx} {en : En} {st : Stmt}
/-- slot i := an expression -/
theorem rAsg {L : List Nat} {i : Nat} {e : CE} {t : TS} (h : PS X st t) (ht : ∀ D σ H, tV Z W H0 (evE en e) σ H (fun v H1 => D.nx (σ.set i (some v)) H1) → t D σ H) :
    PS X st (tS Z W H0 fun g s => exE en L e g s fun d g s => some (.ok (.nx (g.set i (.dat d))), s)) :=
  psW h fun D σ H ⟨g, s, Sh, ok, h⟩ => ht D σ H (by
    obtain ⟨Sh1, k1, q⟩ := EvS.exE (Q := fun v H1 => D.nx (σ.set i (some v)) H1) ok h fun d g' s' v H' Sh' sm k2 _ _ r h2 => h2 _ H' Sh' sm (k2.set r i)
    exact ⟨_, s, Sh1, k1, q⟩)
/-- the same, a new list of our own -/
theorem ownTF {L : List Nat} {i : Nat} {e : CE} {σ : L2.St} {H Sh : Hp} {g : G} {s : S} {D : Ends} (hl : isL (evE en e)) (ok : Ok Z H0 σ g H Sh s) (h : EvS Z W H0 Sh (rb (evE en e (frz g L) s) fun d s => match d with
      | .lst ds => some (.ok (.nx ((if FR.D.lfL ds then g else frz g L).set i (.own ds))), s)
      | .dct ks => some (.ok (.nx ((if FR.D.lfL (ks.map (·.2)) then g else frz g L).set i (.ownD ks))), s)
      | _ => none) D) : tF Z W H0 (evE en e) σ H (fun v H1 => D.nx (σ.set i (some v)) H1) := by
  obtain ⟨Sh1, k1, fz⟩ := ok.frz L
  refine ⟨_, s, Sh1, k1, ?_⟩
  unfold EvF
  cases q : evE en e (frz g L) s with
  | none =>
    rw [q] at h
    exact h.elim
  | some p =>
    obtain ⟨r, s1⟩ := p
    rw [q] at h
    cases r with
    | exn c => exact fun H' Sh' x => h σ H' Sh' (k1.ent.trans x)
    | ok d =>
      obtain ⟨ds, rfl⟩ := hl _ s d s1 q
      intro p vs H' Sh' x hp hv hs r
      have hT : some p ≠ Z.T := fun z => by
        obtain ⟨_, _, _, h2⟩ := ok.town.there z.symm
        rw [hp] at h2
        cases h2
      have h0 : H0.H p = none := by
        rcases ok.ent.gone hp with z | z
        · exact z
        · exact absurd z hT
      have n1 : ∀ (j : Nat) (y : Sl), g[j]? = some y → isOwn y = true → σ[j]? ≠ some (some (.ref p)) := fun j y e1 y1 z => by
        obtain ⟨o, e2, q2⟩ := ok.get e1
        rw [z] at e2
        cases e2
        cases y with
        | own ds =>
          obtain ⟨b, vs, e5, _, _, _, q4, _⟩ := q2
          cases e5
          rw [hp] at q4
          cases q4
        | ownD ds =>
          obtain ⟨b, vs, e5, _, _, _, q4, _⟩ := q2
          cases e5
          rw [hp] at q4
          cases q4
        | ownN ds =>
          obtain ⟨b, vs, e5, _, _, _, q4, _⟩ := q2
          cases e5
          rw [hp] at q4
          cases q4
        | _ => cases y1
      have n2 : ∀ (j : Nat) (y : Sl), (frz g L)[j]? = some y → isOwn y = true → σ[j]? ≠ some (some (.ref p)) := fun j y e1 y1 z => by
        obtain ⟨o, e2, q2⟩ := k1.get e1
        rw [z] at e2
        cases e2
        cases y with
        | own ds =>
          obtain ⟨b, vs, e5, _, _, _, q4, _⟩ := q2
          cases e5
          rw [hp] at q4
          cases q4
        | ownD ds =>
          obtain ⟨b, vs, e5, _, _, _, q4, _⟩ := q2
          cases e5
          rw [hp] at q4
          cases q4
        | ownN ds =>
          obtain ⟨b, vs, e5, _, _, _, q4, _⟩ := q2
          cases e5
          rw [hp] at q4
          cases q4
        | _ => cases y1
      rw [rb_ok] at h
      dsimp only at h
      cases hd : FR.D.lfL ds with
      | false =>
        rw [hd, if_neg Bool.false_ne_true] at h
        exact h _ H' Sh' (fz.shs.trans x.shs) ((k1.ext x).setOwn hs hT h0 hv r n2)
      | true =>
        rw [hd, if_pos rfl] at h
        obtain ⟨Sh3, k3, sm, no, _, r3⟩ := ok.back fz x
        exact h _ H' Sh3 sm (k3.setOwn (no p hs) hT h0 hv (r3 ds vs hd r) n1)
theorem rOwn {L : List Nat} {i : Nat} {e : CE} {t : TS} (h : PS X st t) (hl : isL (evE en e)) (ht : ∀ D σ H, tF Z W H0 (evE en e) σ H (fun v H1 => D.nx (σ.set i (some v)) H1) → t D σ H) :
    PS X st (tS Z W H0 fun g s => rb (evE en e (frz g L) s) fun d s => match d with
      | .lst ds => some (.ok (.nx ((if D.lfL ds then g else frz g L).set i (.own ds))), s)
      | .dct ks => some (.ok (.nx ((if D.lfL (ks.map (·.2)) then g else frz g L).set i (.ownD ks))), s)
      | _ => none) :=
  psW h fun D σ H ⟨g, s, Sh, ok, h⟩ => ht D σ H (ownTF hl ok h)
theorem RepK.via {Sh2 Sh3 : Hp} (f : ∀ d v, FR.D.lf d = true → Rep Z Sh2 d v → Rep Z Sh3 d v) : ∀ {ds : List (Key × FR.D)} {vs : List (Key × V)}, RepK Z Sh2 ds vs → FR.D.lfL (ds.map (·.2)) = true → RepK Z Sh3 ds vs
  | _, _, .nil, _ => .nil
  | _, _, .cons x y, h => by
    rw [List.map_cons, FR.D.lfL, Bool.and_eq_true] at h
    exact .cons (f _ _ h.1 x) (RepK.via f y h.2)
/-- a new dict of our own -/
def isDc (ev : G → S → EV D) : Prop := ∀ g s d s', ev g s = some (.ok d, s') → ∃ ds, d = .dct ds
theorem ownTFD {L : List Nat} {i : Nat} {e : CE} {σ : L2.St} {H Sh : Hp} {g : G} {s : S} {D : Ends} (hl : isDc (evE en e)) (ok : Ok Z H0 σ g H Sh s) (h : EvS Z W H0 Sh (rb (evE en e (frz g L) s) fun d s => match d with
      | .lst ds => some (.ok (.nx ((if FR.D.lfL ds then g else frz g L).set i (.own ds))), s)
      | .dct ks => some (.ok (.nx ((if FR.D.lfL (ks.map (·.2)) then g else frz g L).set i (.ownD ks))), s)
      | _ => none) D) : tFD Z W H0 (evE en e) σ H (fun v H1 => D.nx (σ.set i (some v)) H1) := by
  obtain ⟨Sh1, k1, fz⟩ := ok.frz L
  refine ⟨_, s, Sh1, k1, ?_⟩
  unfold EvFD
  cases q : evE en e (frz g L) s with
  | none =>
    rw [q] at h
    exact h.elim
  | some p =>
    obtain ⟨r, s1⟩ := p
    rw [q] at h
    cases r with
    | exn c => exact fun H' Sh' x => h σ H' Sh' (k1.ent.trans x)
    | ok d =>
      obtain ⟨ds, rfl⟩ := hl _ s d s1 q
      intro p vs H' Sh' x hp hv hs r
      have hT : some p ≠ Z.T := not_town ok.town hp
      have h0 : H0.H p = none := by
        rcases ok.ent.gone hp with z | z
        · exact z
        · exact absurd z hT
      rw [rb_ok] at h
      dsimp only at h
      cases hd : FR.D.lfL (ds.map (·.2)) with
      | false =>
        rw [hd, if_neg Bool.false_ne_true] at h
        exact h _ H' Sh' (fz.shs.trans x.shs) ((k1.ext x).setG (x := .ownD ds) ⟨p, vs, rfl, hs, hT, h0, hv, r⟩ (k1.free hp))
      | true =>
        rw [hd, if_pos rfl] at h
        obtain ⟨Sh3, k3, sm, no, r2, _⟩ := ok.back fz x
        exact h _ H' Sh3 sm (k3.setG (x := .ownD ds) ⟨p, vs, rfl, no p hs, hT, h0, hv, RepK.via r2 r hd⟩ (ok.free hp))
theorem rOwnD {L : List Nat} {i : Nat} {e : CE} {t : TS} (h : PS X st t) (hl : isDc (evE en e)) (ht : ∀ D σ H, tFD Z W H0 (evE en e) σ H (fun v H1 => D.nx (σ.set i (some v)) H1) → t D σ H) :
    PS X st (tS Z W H0 fun g s => rb (evE en e (frz g L) s) fun d s => match d with
      | .lst ds => some (.ok (.nx ((if D.lfL ds then g else frz g L).set i (.own ds))), s)
      | .dct ks => some (.ok (.nx ((if D.lfL (ks.map (·.2)) then g else frz g L).set i (.ownD ks))), s)
      | _ => none) :=
  psW h fun D σ H ⟨g, s, Sh, ok, h⟩ => ht D σ H (ownTFD hl ok h)
/-- x = [..] if t else x -/
theorem rOif {i : Nat} {tc e : CE} {t : TS} {c : Expr} (h : PS X st t) (hl : isL (evE en e)) (ht : ∀ D σ H, tIf (tB Z W H0 (evT (evE en tc))) (tF Z W H0 (evE en e)) (tVar i) σ H (fun v H1 => D.nx (σ.set i (some v)) H1) → t D σ H) :
    PS X st (tS Z W H0 (evS en (.oif i tc e))) :=
  psW h fun D σ H ⟨g, s, Sh, ok, h⟩ => ht D σ H (by
    obtain ⟨Sh1, k1, q⟩ := EvS.test (L := []) (Q := fun b H1 => if b = true then tF Z W H0 (evE en e) σ H1 (fun v H2 => D.nx (σ.set i (some v)) H2) else tVar i σ H1 (fun v H2 => D.nx (σ.set i (some v)) H2)) ok h fun b s' H' Sh' sm k2 h2 => by
      cases b with
      | true =>
        rw [if_pos rfl] at h2 ⊢
        exact ownTF (L := []) hl k2 (EvS.mono h2 sm)
      | false =>
        rw [if_neg Bool.false_ne_true] at h2 ⊢
        cases q : ownL g[i]? with
        | none =>
          rw [q] at h2
          exact h2.elim
        | some ds =>
          rw [q] at h2
          obtain ⟨a, vs, e1, _⟩ := k2.list q
          refine ⟨_, e1, ?_⟩
          have e2 : σ.set i (some (.ref a)) = σ := by
            obtain ⟨l1, l2⟩ := List.getElem?_eq_some_iff.mp e1
            rw [← l2]
            exact List.set_getElem_self l1
          show D.nx (σ.set i (some (.ref a))) H'
          rw [e2]
          exact h2 σ H' Sh' sm k2
    exact ⟨_, s, Sh1, k1, q⟩)
/-- a tuple's items into slots -/
theorem rTas {L : List Nat} {is : List Nat} {e : CE} {t : TS} (h : PS X st t) (ht : ∀ D σ H, tV Z W H0 (evE en e) σ H (fun v H1 => gSet Z.K (.tp is) v σ H1 D.nx) → t D σ H) :
    PS X st (tS Z W H0 fun g s => exE en L e g s fun d g s => rb (rp (setT g d (.tp is)) s) fun g s => some (.ok (.nx g), s)) :=
  psW h fun D σ H ⟨g, s, Sh, ok, h⟩ => ht D σ H (by
    obtain ⟨Sh1, k1, q⟩ := EvS.exE (Q := fun v H1 => gSet Z.K (.tp is) v σ H1 D.nx) ok h fun d g' s' v H' Sh' sm k2 _ _ r h2 => by
      cases q : setT g' d (.tp is) with
      | none =>
        rw [q] at h2
        exact h2.elim
      | some g2 =>
        rw [q] at h2
        exact gSet_of k2 r q fun vs _ k3 => h2 _ H' Sh' sm k3
    exact ⟨_, s, Sh1, k1, q⟩)
/-- several expressions into slots -/
theorem rPar {L : List Nat} {is : List Nat} {es : CEs} {t : TS} (h : PS X st t) (ht : ∀ D σ H, tA Z W H0 (evEs en es) σ H (fun vs H1 => is.length = vs.length ∧ D.nx (setV σ is vs) H1) → t D σ H) :
    PS X st (tS Z W H0 fun g s => rb (evEs en es (frz g L) s) fun ds s => rb (rp (setAll (if D.lfL ds then g else frz g L) is ds) s) fun g s => some (.ok (.nx g), s)) :=
  psW h fun D σ H ⟨g, s, Sh, ok, h⟩ => ht D σ H (by
    obtain ⟨Sh1, k1, fz⟩ := ok.frz L
    refine ⟨_, s, Sh1, k1, EvS.bind k1 h fun ds s' vs H' Sh' x r h => ?_⟩
    have fin : ∀ {g' : G} {Sh2 : Hp}, Same Sh Sh2 → Ok Z H0 σ g' H' Sh2 s' → RepL Z Sh2 ds vs → EvS Z W H0 Sh (rb (rp (setAll g' is ds) s') fun g s => some (.ok (.nx g), s)) D → is.length = vs.length ∧ D.nx (setV σ is vs) H' := fun {g' Sh2} sm k2 r2 h2 => by
      cases q : setAll g' is ds with
      | none =>
        rw [q] at h2
        exact h2.elim
      | some g2 =>
        rw [q] at h2
        obtain ⟨l1, k3⟩ := k2.setAll is r2 q
        exact ⟨l1, h2 _ H' Sh2 sm k3⟩
    cases hd : FR.D.lfL ds with
    | false =>
      rw [hd, if_neg Bool.false_ne_true] at h
      exact fin (fz.shs.trans x.shs) (k1.ext x) r h
    | true =>
      rw [hd, if_pos rfl] at h
      obtain ⟨Sh3, k3, sm, no, _, r3⟩ := ok.back fz x
      exact fin sm k3 (r3 ds vs hd r) h)
/-- an expression whose value is dropped -/
theorem rEx {L : List Nat} {e : CE} {t : TS} (h : PS X st t) (ht : ∀ D σ H, tV Z W H0 (evE en e) σ H (fun _ H1 => D.nx σ H1) → t D σ H) :
    PS X st (tS Z W H0 fun g s => exE en L e g s fun _ g s => some (.ok (.nx g), s)) :=
  psW h fun D σ H ⟨g, s, Sh, ok, h⟩ => ht D σ H (by
    obtain ⟨Sh1, k1, q⟩ := EvS.exE (Q := fun _ H1 => D.nx σ H1) ok h fun d g' s' v H' Sh' sm k2 _ _ r h2 => h2 _ H' Sh' sm k2
    exact ⟨_, s, Sh1, k1, q⟩)
theorem rRet {L : List Nat} {e : CE} {t : TS} (h : PS X st t) (ht : ∀ D σ H, tV Z W H0 (evE en e) σ H D.rt → t D σ H) :
    PS X st (tS Z W H0 fun g s => exE en L e g s fun d _ s => some (.ok (.rt d), s)) :=
  psW h fun D σ H ⟨g, s, Sh, ok, h⟩ => ht D σ H (by
    obtain ⟨Sh1, k1, q⟩ := EvS.exE (Q := D.rt) ok h fun d g' s' v H' Sh' sm k2 _ _ r h2 => h2 v H' Sh' k2.ent r
    exact ⟨_, s, Sh1, k1, q⟩)
/-- a method that changes our own list in slot i -/
theorem rMut {L : List Nat} {i : Nat} {e : CE} {f : FR.D → List FR.D → Option (List FR.D)} {t : TS} (h : PS X st t)
    (ht : ∀ (D : Ends) (σ : L2.St) (H : Hp), (∃ a xs, σ[i]? = some (some (.ref a)) ∧ H a = some (.lst xs) ∧ tV Z W H0 (evE en e) σ H fun y H1 => ∃ (d : FR.D) (Sh' : Hp) (ds es : List FR.D) (xs : List V), Same Sh' H1 ∧ Rep Z Sh' d y ∧ f d ds = some es ∧ RepL Z Sh' ds xs ∧ H1 a = some (.lst xs) ∧
      ∀ vs, RepL Z Sh' es vs → D.nx σ (upd H1 a (.lst vs))) → t D σ H) :
    PS X st (tS Z W H0 fun g s => owned g i (exE en L e g s fun d g s => rb (rp (appO g i (f d)) s) fun g s => some (.ok (.nx g), s))) :=
  psW h fun D σ H ⟨g, s, Sh, ok, h⟩ => ht D σ H (by
    dsimp only at h
    unfold owned at h
    split at h
    case h_2 => exact h.elim
    rename_i ds0 e0
    obtain ⟨a, xs, e1, h1, h2, h3, h4, r4⟩ := ok.own e0
    refine ⟨a, xs, e1, h4, ?_⟩
    obtain ⟨Sh1, k1, q⟩ := EvS.exE (Q := fun y H1 => ∃ (d : FR.D) (Sh' : Hp) (ds es : List FR.D) (xs : List V), Same Sh' H1 ∧ Rep Z Sh' d y ∧ f d ds = some es ∧ RepL Z Sh' ds xs ∧ H1 a = some (.lst xs) ∧ ∀ vs, RepL Z Sh' es vs → D.nx σ (upd H1 a (.lst vs))) ok h fun d g' s' v H' Sh' sm k2 _ fr r h2 => by
      unfold appO at h2
      split at h2
      · rename_i ds q
        obtain ⟨a2, xs2, e2, q1, q2, q3, q4, q5⟩ := k2.own q
        rw [e1] at e2
        cases e2
        cases q6 : f d ds with
        | none =>
          rw [q6] at h2
          exact h2.elim
        | some es =>
          rw [q6] at h2
          exact ⟨d, Sh', ds, es, xs2, k2.sub, r, q6, q5, q4, fun vs rv => h2 σ _ Sh' sm (k2.mut q rfl e1 q1 q2 q3 rv)⟩
      · exact h2.elim
    exact ⟨_, s, Sh1, k1, q⟩)
/-- a method without arguments that changes it -/
theorem rMut0 {i : Nat} {f : List FR.D → Option (List FR.D)} {t : TS} (h : PS X st t)
    (ht : ∀ (D : Ends) (σ : L2.St) (H : Hp), (∃ (a : Addr) (xs : List V) (ds es : List FR.D) (Sh : Hp), σ[i]? = some (some (.ref a)) ∧ H a = some (.lst xs) ∧ f ds = some es ∧ RepL Z Sh ds xs ∧ ∀ vs, RepL Z Sh es vs → D.nx σ (upd H a (.lst vs))) → t D σ H) :
    PS X st (tS Z W H0 fun g s => rb (rp (appO g i f) s) fun g s => some (.ok (.nx g), s)) :=
  psW h fun D σ H ⟨g, s, Sh, ok, h⟩ => ht D σ H (by
    dsimp only at h
    unfold appO at h
    split at h
    · rename_i ds q
      obtain ⟨a, xs, e1, q1, q2, q3, q4, q5⟩ := ok.own q
      cases q6 : f ds with
      | none =>
        rw [q6] at h
        exact h.elim
      | some es =>
        rw [q6] at h
        exact ⟨a, xs, ds, es, Sh, e1, q4, q6, q5, fun vs rv => h σ _ Sh (Same.refl _) (ok.mut q rfl e1 q1 q2 q3 rv)⟩
    · exact h.elim)
/-! ### items stored -/
theorem PSet.or {t u : TSet} (h : PSet X t) (k : PSet X u) : PSet X fun o i v H Q => t o i v H Q ∨ u o i v H Q := fun pins s σ H o i v ov iv w Q I r1 r2 r3 q => by
  rcases q with q | q
  · exact h pins s σ H o i v ov iv w Q I r1 r2 r3 q
  · exact k pins s σ H o i v ov iv w Q I r1 r2 r3 q
theorem setL_ix {ds es : List FR.D} {i : Int} {d : FR.D} {n : Nat} (hn : ds.length = n) (h : setL ds i d = some es) : ∃ j, ixN n i = some j ∧ es = ds.set j d := by
  subst hn
  unfold setL at h
  unfold ixN
  split at h
  · rename_i q
    cases h
    exact ⟨_, by rw [if_pos q.1, if_pos q.2], rfl⟩
  · split at h
    · rename_i q
      cases h
      exact ⟨_, by rw [if_neg (by omega), if_pos q.2], rfl⟩
    · cases h
/-- behind two expressions that may have shared the slots L for a while -/
theorem Ok.two {L : List Nat} {g : G} {σ : L2.St} {H Sh Sh1 H1 H2 Sh2 Sh3 : Hp} {s s1 s2 : S} {d j : FR.D} {v w : V} (ok : Ok Z H0 σ g H Sh s) (k1 : Ok Z H0 σ (FR.frz g L) H Sh1 s) (fz : Fz H Sh Sh1) (x1 : Ext Z H Sh1 H1 Sh2 s1) (x2 : Ext Z H1 Sh2 H2 Sh3 s2) (rv : Rep Z Sh2 d v) (rw' : Rep Z Sh3 j w) :
    ∃ Sh', Ok Z H0 σ (if d.lf && j.lf then g else FR.frz g L) H2 Sh' s2 ∧ Same Sh Sh' ∧ Rep Z Sh' d v ∧ Rep Z Sh' j w := by
  have x := x1.trans x2
  have rv3 := rv.mono x2.shs
  cases q : d.lf && j.lf with
  | false => exact ⟨Sh3, k1.ext x, fz.shs.trans x.shs, rv3, rw'⟩
  | true =>
    rw [Bool.and_eq_true] at q
    obtain ⟨Sh4, k4, sm, _, r2, _⟩ := ok.back fz x
    exact ⟨Sh4, k4, sm, r2 d v q.1 rv3, r2 j w q.2 rw'⟩
theorem rSti {L : List Nat} {i : Nat} {e v : CE} {t : TS} (h : PS X st t) (ht : ∀ D σ H, (∃ a, σ[i]? = some (some (.ref a)) ∧ tV Z W H0 (evE en v) σ H fun x H1 => tV Z W H0 (evE en e) σ H1 fun j H2 => rSetL (.ref a) j x H2 (fun H3 => D.nx σ H3) ∨ (rSetD (.ref a) j x H2 (fun H3 => D.nx σ H3) ∨ rSetN Z.w (.ref a) j x H2 fun H3 => D.nx σ H3)) → t D σ H) :
    PS X st (tS Z W H0 (evS en (.sti L i e v))) :=
  psW h fun D σ H ⟨g, s, Sh, ok, h⟩ => ht D σ H (by
    change EvS Z W H0 Sh (if ownB g[i]? then _ else none) D at h
    split at h
    case isFalse => exact h.elim
    rename_i hb
    obtain ⟨a, e1, hT⟩ := ok.ownA hb
    refine ⟨a, e1, ?_⟩
    obtain ⟨Sh1, k1, fz⟩ := ok.frz L
    refine ⟨_, s, Sh1, k1, EvS.bind k1 h fun d s1 x H1 Sh2 x1 rv h => ⟨_, s1, Sh2, k1.ext x1, EvS.bind (k1.ext x1) h fun j s2 w H2 Sh3 x2 rj h => ?_⟩⟩
    obtain ⟨Sh', k2, sm, rv2, rj2⟩ := ok.two k1 fz x1 x2 rv rj
    generalize (if d.lf && j.lf then g else frz g L) = g' at k2 h
    cases q : g'[i]? with
    | none =>
      rw [q] at h
      exact h.elim
    | some sl =>
    cases sl with
    | own ds =>
      rw [q] at h
      cases rj2 with
      | int kk =>
        dsimp only at h
        obtain ⟨a2, xs, e2, q1, q2, q3, q4, q5⟩ := k2.own q
        rw [e1] at e2
        cases e2
        cases r : setL ds kk d with
        | none =>
          rw [r] at h
          exact h.elim
        | some es =>
          rw [r] at h
          obtain ⟨n, hn, rfl⟩ := setL_ix q5.length r
          exact .inl ⟨a, xs, kk, n, rfl, rfl, q4, hn, h σ _ Sh' sm (k2.mut q rfl e1 q1 q2 q3 (q5.set n rv2))⟩
      | _ => exact h.elim
    | ownD ks =>
      obtain ⟨o, e2, a2, vs, rfl, q1, q2, q3, q4, q5⟩ := k2.get q
      rw [e1] at e2
      cases e2
      by_cases hj : j = .non
      · subst hj
        rw [q] at h
        dsimp only at h
        split at h
        · rename_i hl
          cases rj2
          refine .inr (.inr ⟨a, vs, rfl, rfl, q4, by rw [← q5.length]; exact hl, fun ob => ?_⟩)
          have fr : Same Sh' (upd Sh' a (.frz ob (NDc Z.w a vs x))) := same_fresh q1
          obtain ⟨k3, sm3⟩ := k2.lockO q rfl e1 q1 q2 q3 (o := .frz ob (NDc Z.w a vs x)) (d := .ndc ks d) (.ndc upd_same (q5.mono fr) (rv2.mono fr))
          exact h σ _ _ (sm.trans sm3) k3
        · exact h.elim
      have h := (show EvS Z W H0 Sh (rb (rp (keyD j) s2) fun k s => if ks.length < SZ then some (.ok (.nx (g'.set i (.ownD (FR.putK ks k d)))), s) else none) D by
        rw [q] at h
        cases j <;> first | exact absurd rfl hj | exact h)
      cases r : keyD j with
      | none =>
        rw [r] at h
        exact h.elim
      | some kk =>
        rw [r, rp_some, rb_ok] at h
        split at h
        · rename_i hl
          refine .inr (.inl ⟨a, _, rfl, .inl ⟨vs, kk, q4, rj2.key r, ?_, rfl⟩, ?_⟩)
          · rw [← q5.length]
            exact szLt hl
          · exact h σ _ Sh' sm (k2.mutG (y := .ownD (FR.putK ks kk d)) (o := .dK (L2.putK vs kk x)) q rfl rfl e1 q1 q2 q3 ⟨a, _, rfl, q1, q2, q3, upd_same, q5.put rv2⟩)
        · exact h.elim
    | _ =>
      rw [q] at h
      exact h.elim)
/-- two items exchanged -/
theorem rSwp {i ja jb : Nat} {t : TS} (h : PS X st t)
    (ht : ∀ (D : Ends) (σ : L2.St) (H : Hp), (∃ (a : Addr) (p q : Int) (xs : List V) (m n : Nat) (u w : V), σ[i]? = some (some (.ref a)) ∧ σ[ja]? = some (some (.int p)) ∧ σ[jb]? = some (some (.int q)) ∧ H a = some (.lst xs) ∧ ixN xs.length p = some m ∧ ixN xs.length q = some n ∧ xs[n]? = some u ∧ xs[m]? = some w ∧
      ∀ T, H T = none → D.nx σ (upd (upd H T (.tup [u, w])) a (.lst ((xs.set m u).set n w)))) → t D σ H) :
    PS X st (tS Z W H0 (evS en (.swp i ja jb))) :=
  psW h fun D σ H ⟨g, s, Sh, ok, h⟩ => ht D σ H (by
    change EvS Z W H0 Sh (match g[i]?, g.rd ja, g.rd jb with
      | some (.own ds), some (.int p), some (.int q) => rb (rp (swpL ds p q) s) fun ds s => some (.ok (.nx (g.set i (.own ds))), s)
      | _, _, _ => none) D at h
    split at h
    · rename_i ds p q q0 qa qb
      obtain ⟨a, xs, e1, q1, q2, q3, q4, q5⟩ := ok.own q0
      obtain ⟨va, ea, ra⟩ := ok.rd qa
      obtain ⟨vb, eb, rb'⟩ := ok.rd qb
      cases ra
      cases rb'
      cases r : swpL ds p q with
      | none =>
        rw [r] at h
        exact h.elim
      | some es =>
        rw [r] at h
        unfold swpL at r
        cases r1 : atL ds q with
        | none =>
          rw [r1] at r
          cases r
        | some dq =>
          cases r2 : atL ds p with
          | none =>
            rw [r1, r2] at r
            cases r
          | some dp =>
            rw [r1, r2] at r
            obtain ⟨fs, r3, r4⟩ := Option.bind_eq_some_iff.mp r
            obtain ⟨m, hm, rfl⟩ := setL_ix q5.length r3
            obtain ⟨n, hn, rfl⟩ := setL_ix (n := xs.length) (by rw [List.length_set]; exact q5.length) r4
            have at_ : ∀ {i : Int} {m : Nat} {d : FR.D}, ixN xs.length i = some m → atL ds i = some d → ∃ u, xs[m]? = some u ∧ Rep Z Sh d u := fun {i m d} hm hd => by
              obtain ⟨u, e3, ru⟩ := q5.at hd
              unfold atI at e3
              rw [hm] at e3
              exact ⟨u, e3, ru⟩
            obtain ⟨u, hu, ru⟩ := at_ hn r1
            obtain ⟨w, hw, rw'⟩ := at_ hm r2
            refine ⟨a, p, q, xs, m, n, u, w, e1, ea, eb, q4, hm, hn, hu, hw, fun T hT => ?_⟩
            have x := Ext.allocH (o := .tup [u, w]) ok.sub ok.town hT
            exact h σ _ Sh (Same.refl _) ((ok.ext x).mut q0 rfl e1 q1 q2 q3 ((q5.set m ru).set n rw'))
    · exact h.elim)
/-- a, b = xs.pop(0) -/
theorem rPop0 {i : Nat} {is : List Nat} {t : TS} (h : PS X st t)
    (ht : ∀ (D : Ends) (σ : L2.St) (H : Hp), (∃ (a : Addr) (x : V) (xs : List V), σ[i]? = some (some (.ref a)) ∧ H a = some (.lst (x :: xs)) ∧ gSet Z.K (.tp is) x σ (upd H a (.lst xs)) D.nx) → t D σ H) :
    PS X st (tS Z W H0 (evS en (.pop0 i is))) :=
  psW h fun D σ H ⟨g, s, Sh, ok, h⟩ => ht D σ H (by
    change EvS Z W H0 Sh (match g[i]? with | some (.own (d :: ds)) => rb (rp (setT (g.set i (.own ds)) d (.tp is)) s) fun g s => some (.ok (.nx g), s) | _ => none) D at h
    split at h
    · rename_i d ds q
      obtain ⟨a, vs, e1, q1, q2, q3, q4, q5⟩ := ok.own q
      cases q5 with
      | @cons _ x _ xs r1 r2 =>
        refine ⟨a, x, xs, e1, q4, ?_⟩
        have k2 := ok.mut q rfl e1 q1 q2 q3 r2
        cases r : setT (g.set i (.own ds)) d (.tp is) with
        | none =>
          rw [r] at h
          exact h.elim
        | some g' =>
          rw [r] at h
          exact gSet_of k2 r1 r fun vs _ k3 => h _ _ Sh (Same.refl _) k3
    · exact h.elim)
/-- d.pop(k) -/
theorem rPopk {L : List Nat} {i : Nat} {e : CE} {t : TS} (h : PS X st t) (ht : ∀ D σ H, (∃ a, σ[i]? = some (some (.ref a)) ∧ IsD H a ∧ tV Z W H0 (evE en e) σ H fun y H2 => ∃ kvs k v, H2 a = some (.dK kvs) ∧ y = kV k ∧ valV kvs k = some v ∧ D.nx σ (upd H2 a (.dK (L2.dropK kvs k)))) → t D σ H) :
    PS X st (tS Z W H0 (evS en (.popk L i e))) :=
  psW h fun D σ H ⟨g, s, Sh, ok, h⟩ => ht D σ H (by
    change EvS Z W H0 Sh (if ownDB g[i]? then _ else none) D at h
    split at h
    case isFalse => exact h.elim
    rename_i hb
    obtain ⟨ks0, q0⟩ : ∃ ks, g[i]? = some (.ownD ks) := by
      unfold ownDB at hb
      split at hb
      · rename_i q
        exact ⟨_, q⟩
      · cases hb
    obtain ⟨o, e1, a, vs0, rfl, _, hT, _, hd, _⟩ := ok.get q0
    refine ⟨a, e1, .inl ⟨vs0, .inl hd⟩, ?_⟩
    obtain ⟨Sh1, k1, fz⟩ := ok.frz L
    refine ⟨_, s, Sh1, k1, EvS.bind k1 h fun j s1 w H1 Sh2 x1 rj h => ?_⟩
    obtain ⟨Sh', k2, sm, _, rj2⟩ := ok.two (d := .non) k1 fz x1 (Ext.refl x1.sub x1.town) .non rj
    have e5 : ((FR.D.lf .non) && j.lf) = j.lf := rfl
    rw [e5] at k2
    generalize (if j.lf then g else frz g L) = g' at k2 h
    cases q : g'[i]? with
    | none =>
      rw [q] at h
      exact h.elim
    | some sl =>
    cases sl with
    | ownD ks =>
      rw [q] at h
      dsimp only at h
      obtain ⟨o, e2, a2, vs, rfl, q1, q2, q3, q4, q5⟩ := k2.get q
      rw [e1] at e2
      cases e2
      cases r : keyD j with
      | none =>
        rw [r] at h
        exact h.elim
      | some kk =>
        rw [r, rp_some, rb_ok] at h
        split at h
        · rename_i hs
          rcases q5.val kk with ⟨n1, _⟩ | ⟨d', u, _, n2, _⟩
          · rw [n1] at hs
            cases hs
          · exact ⟨vs, kk, u, q4, rj2.key r, n2, h σ _ Sh' sm (k2.mutG (y := .ownD (FR.dropK ks kk)) (o := .dK (L2.dropK vs kk)) q rfl rfl e1 q1 q2 q3 ⟨a, _, rfl, q1, q2, q3, upd_same, q5.drop⟩)⟩
        · exact h.elim
    | _ =>
      rw [q] at h
      exact h.elim)
/-! a locked dict, unlocked -/
theorem Ok.reset {g : G} {i : Nat} {x y : Sl} (k : Ok Z H0 σ (g.set i x) H Sh s) (hy : isOwn y = false) (hs : ∀ o, σ[i]? = some o → SlOk Z H Sh H0 y o) : Ok Z H0 σ (g.set i y) H Sh s where
  ent := k.ent
  len := by have := k.len; rw [List.length_set] at this ⊢; exact this
  slot := fun j z o e1 e2 => by
    by_cases hj : j = i
    · subst hj
      have hl : j < g.length := by
        have := (List.getElem?_eq_some_iff.mp e1).1
        rwa [List.length_set] at this
      rw [List.getElem?_set_self hl] at e1
      cases e1
      exact hs o e2
    · rw [List.getElem?_set_ne (Ne.symm hj)] at e1
      exact k.slot j z o (by rw [List.getElem?_set_ne (Ne.symm hj)]; exact e1) e2
  dist := fun j l u z o e1 e2 y1 z1 e3 e4 => by
    have key : ∀ {j : Nat} {u : Sl}, (g.set i y)[j]? = some u → isOwn u = true → (g.set i x)[j]? = some u := fun {j u} e h => by
      by_cases hj : j = i
      · subst hj
        have hl : j < g.length := by
          have := (List.getElem?_eq_some_iff.mp e).1
          rwa [List.length_set] at this
        rw [List.getElem?_set_self hl] at e
        cases e
        rw [hy] at h
        cases h
      · rw [List.getElem?_set_ne (Ne.symm hj)] at e ⊢
        exact e
    exact k.dist j l u z o (key e1 y1) (key e2 z1) y1 z1 e3 e4
def ers (Sh : Hp) (a : Addr) : Hp := fun b => if b = a then none else Sh b
theorem ers_ne {Sh : Hp} {a b : Addr} (h : b ≠ a) : ers Sh a b = Sh b := if_neg h
theorem RepK.keys {Z : Gd} {h : Hp} : ∀ {ds : List (Key × D)} {vs : List (Key × V)}, RepK Z h ds vs → ds.map (·.1) = vs.map (·.1)
  | _, _, .nil => rfl
  | _, _, .cons _ y => by rw [List.map_cons, List.map_cons, RepK.keys y]
section
variable {Z : Gd} {Sh : Hp} {a : Addr} {od : Obj} {us : List (Key × V)} (ha : Sh a = some (.frz od (.dK us)))
include ha
mutual
theorem Rep.ers {ks : List Key} (hk : us.map (·.1) = ks) : ∀ {d : D} {v : V}, D.hk ks d = false → Rep Z Sh d v → Rep Z (FR.ers Sh a) d v
  | _, _, _, .non => .non
  | _, _, _, .bl b => .bl b
  | _, _, _, .int b => .int b
  | _, _, _, .str b => .str b
  | _, _, n, .tup x y => .tup (by
      rcases x with (x | ⟨o, x⟩) | x
      · exact .inl (.inl ((ers_ne (fun z => by rw [z, ha] at x; cases x)).trans x))
      · exact .inl (.inr ⟨o, (ers_ne (fun z => by rw [z, ha] at x; cases x)).trans x⟩)
      · exact .inr x) (RepL.ers hk n y)
  | _, _, n, .lst x y => .lst ((ers_ne (fun z => by rw [z, ha] at x; cases x)).trans x) (RepL.ers hk n y)
  | _, _, n, .dct x y => by
      rw [D.hk, Bool.or_eq_false_iff, decide_eq_false_iff_not] at n
      refine .dct ((ers_ne (fun z => ?_)).trans x) (RepK.ers hk n.2 y)
      rw [z, ha] at x
      cases x
      exact n.1 (by rw [← hk, RepK.keys y])
  | _, _, n, .ndc x y z => by
      rw [D.hk] at n
      cases n
  | _, _, _, .fn f => .fn f
  | _, _, _, .exc c x => .exc c ((ers_ne (fun z => by rw [z, ha] at x; cases x)).trans x)
  | _, _, _, .town x => .town x
  | _, _, _, .scr x => .scr (by
      rcases x with (x | ⟨o, x⟩) | x
      · exact .inl (.inl ((ers_ne (fun z => by rw [z, ha] at x; cases x)).trans x))
      · exact .inl (.inr ⟨o, (ers_ne (fun z => by rw [z, ha] at x; cases x)).trans x⟩)
      · exact .inr x)
theorem RepL.ers {ks : List Key} (hk : us.map (·.1) = ks) : ∀ {d : List D} {v : List V}, D.hkL ks d = false → RepL Z Sh d v → RepL Z (FR.ers Sh a) d v
  | _, _, _, .nil => .nil
  | _, _, n, .cons x y => by
    rw [D.hkL, Bool.or_eq_false_iff] at n
    exact .cons (Rep.ers hk n.1 x) (RepL.ers hk n.2 y)
theorem RepK.ers {ks : List Key} (hk : us.map (·.1) = ks) : ∀ {d : List (Key × D)} {v : List (Key × V)}, D.hkK ks d = false → RepK Z Sh d v → RepK Z (FR.ers Sh a) d v
  | _, _, _, .nil => .nil
  | _, _, n, .cons x y => by
    rw [D.hkK, Bool.or_eq_false_iff] at n
    exact .cons (Rep.ers hk n.1 x) (RepK.ers hk n.2 y)
end
end
theorem Ok.lockK {g : G} (k : Ok Z H0 σ g H Sh s) {i : Nat} {ks : List (Key × D)} {a : Addr} {vs : List (Key × V)} (od : Obj) (e : g[i]? = some (.ownD ks)) (es : σ[i]? = some (some (.ref a))) (h1 : Sh a = none) (h2 : some a ≠ Z.T) (h3 : H0.H a = none) (h4 : H a = some (.dK vs)) (r : RepK Z Sh ks vs) :
    Ok Z H0 σ (g.set i (.lkD ks)) (upd H a (.frz od (.dK vs))) (upd Sh a (.frz od (.dK vs))) s ∧ Same Sh (upd Sh a (.frz od (.dK vs))) := by
  obtain ⟨k2, sm⟩ := k.lockD od e es h1 h2 h3 h4 r
  refine ⟨k2.reset rfl fun o e2 => ?_, sm⟩
  rw [es] at e2
  cases e2
  refine ⟨a, od, vs, rfl, upd_same, h2, h3, ?_, r.mono sm⟩
  cases q : H0.Sh a with
  | none => rfl
  | some o =>
    have := k.ent.shs a o q
    rw [h1] at this
    cases this
theorem Ok.unlockK {g : G} (k : Ok Z H0 σ g H Sh s) {i : Nat} {ks : List (Key × D)} (e : g[i]? = some (.lkD ks)) (hks : D.hkK (ks.map (·.1)) ks = false) : ∃ (a : Addr) (od : Obj) (vs : List (Key × V)), Sh a = some (.frz od (.dK vs)) ∧ H0.H a = none ∧
    Ok Z H0 σ ((clrG (ks.map (·.1)) g).set i (.ownD ks)) (upd H a (.dK vs)) (ers Sh a) s := by
  obtain ⟨o, es, a, od, vs, rfl, h1, h2, h3, h4, r⟩ := k.get e
  have hk : vs.map (·.1) = ks.map (·.1) := r.keys.symm
  have hl : i < g.length := (List.getElem?_eq_some_iff.mp e).1
  have gl : (clrG (ks.map (·.1)) g).length = g.length := List.length_map ..
  refine ⟨a, od, vs, h1, h3, ⟨fun b x hT q => ?_, fun b x q => ?_, fun b x q => ?_, ?_, fun b x q => ?_⟩, ?_, fun j y p e1 e2 => ?_, fun j l y z p e1 e2 y1 z1 e3 e4 => ?_⟩
  · rw [upd_ne (fun z => by rw [z, h3] at q; cases q)]
    exact k.ent.frame b x hT q
  · rw [ers_ne (fun z => by rw [z, h4] at q; cases q)]
    exact k.ent.shs b x q
  · unfold ers at q
    split at q
    · cases q
    · rename_i nb
      rw [upd_ne nb]
      exact k.sub b x q
  · have t := k.town
    unfold TownOk at t ⊢
    split at t
    · trivial
    · rename_i b n eT
      have hne : b ≠ a := fun z => h2 (by rw [← z, eT])
      rw [upd_ne hne, ers_ne hne]
      exact t
    · exact t
  · unfold ers at q
    split at q
    · cases q
    · exact k.ent.new b x q
  · rw [List.length_set, gl]
    exact k.len
  · by_cases hj : j = i
    · subst hj
      rw [List.getElem?_set_self (by rw [gl]; exact hl)] at e1
      cases e1
      rw [es] at e2
      cases e2
      exact ⟨a, vs, rfl, if_pos rfl, h2, h3, upd_same, RepK.ers h1 hk hks r⟩
    · rw [List.getElem?_set_ne (Ne.symm hj)] at e1
      unfold clrG at e1
      rw [List.getElem?_map, Option.map_eq_some_iff] at e1
      obtain ⟨x, hx, rfl⟩ := e1
      have q := k.slot j x p hx e2
      cases x with
      | un => trivial
      | lkD _ => trivial
      | ownN _ => trivial
      | dat d =>
        obtain ⟨v, e5, r5⟩ := q
        show SlOk _ _ _ _ (if D.hk (ks.map (·.1)) d then .un else .dat d) p
        split
        · trivial
        · rename_i n
          exact ⟨v, e5, Rep.ers h1 hk (by simpa using n) r5⟩
      | own ds =>
        obtain ⟨b, us, e5, q1, q2, q3, q4, q5⟩ := q
        show SlOk _ _ _ _ (if D.hkL (ks.map (·.1)) ds then .un else .own ds) p
        split
        · trivial
        · rename_i n
          have nb : b ≠ a := fun z => by rw [z, h1] at q1; cases q1
          exact ⟨b, us, e5, by rw [ers_ne nb]; exact q1, q2, q3, by rw [upd_ne nb]; exact q4, RepL.ers h1 hk (by simpa using n) q5⟩
      | ownD ds =>
        obtain ⟨b, us, e5, q1, q2, q3, q4, q5⟩ := q
        show SlOk _ _ _ _ (if D.hkK (ks.map (·.1)) ds then .un else .ownD ds) p
        split
        · trivial
        · rename_i n
          have nb : b ≠ a := fun z => by rw [z, h1] at q1; cases q1
          exact ⟨b, us, e5, by rw [ers_ne nb]; exact q1, q2, q3, by rw [upd_ne nb]; exact q4, RepK.ers h1 hk (by simpa using n) q5⟩
  · have key : ∀ {j : Nat} {u : Sl}, ((clrG (ks.map (·.1)) g).set i (.ownD ks))[j]? = some u → isOwn u = true → j ≠ i → ∃ u', g[j]? = some u' ∧ isOwn u' = true := fun {j u} e h hj => by
      rw [List.getElem?_set_ne (Ne.symm hj)] at e
      unfold clrG at e
      rw [List.getElem?_map, Option.map_eq_some_iff] at e
      obtain ⟨x, hx, rfl⟩ := e
      refine ⟨x, hx, ?_⟩
      cases x with
      | own _ => rfl
      | ownD _ => rfl
      | un => exact absurd (show isOwn .un = true from h) (by decide)
      | lkD _ => exact absurd (show isOwn .un = true from h) (by decide)
      | ownN _ => exact absurd (show isOwn .un = true from h) (by decide)
      | dat d =>
        exfalso
        change isOwn (if D.hk (ks.map (·.1)) d then .un else .dat d) = true at h
        split at h
        · exact absurd h (by decide)
        · exact absurd (show false = true from h) (by decide)
    have far : ∀ {j : Nat} {u : Sl} {p : Option V}, ((clrG (ks.map (·.1)) g).set i (.ownD ks))[j]? = some u → isOwn u = true → j ≠ i → σ[j]? = some p → p ≠ some (.ref a) := fun {j u p} e h hj ep z => by
      obtain ⟨u', hu, ho⟩ := key e h hj
      have q := k.slot j u' p hu ep
      cases u' with
      | own ds =>
        obtain ⟨b, us, e5, q1, _⟩ := q
        rw [e5] at z
        cases z
        rw [h1] at q1
        cases q1
      | ownD ds =>
        obtain ⟨b, us, e5, q1, _⟩ := q
        rw [e5] at z
        cases z
        rw [h1] at q1
        cases q1
      | ownN ds =>
        obtain ⟨b, us, e5, q1, _⟩ := q
        rw [e5] at z
        cases z
        rw [h1] at q1
        cases q1
      | _ => cases ho
    by_cases hj : j = i
    · by_cases hl2 : l = i
      · rw [hj, hl2]
      · exfalso
        rw [hj, es] at e3
        cases e3
        exact far e2 z1 hl2 e4 rfl
    · by_cases hl2 : l = i
      · exfalso
        rw [hl2, es] at e4
        cases e4
        exact far e1 y1 hj e3 rfl
      · obtain ⟨u1, a1, b1⟩ := key e1 y1 hj
        obtain ⟨u2, a2, b2⟩ := key e2 z1 hl2
        exact k.dist j l u1 u2 p a1 a2 b1 b2 e3 e4
/-- a locked dict of our own is unlocked -/
theorem pss_ulA {sts : List Stmt} {t : TS} (h : PSs X sts t) : PSs X sts (fun D σ H => t D σ H ∨ ∃ d od u, H d = some (.frz od u) ∧ (∀ o' u', X.H_0 d ≠ some (.frz o' u')) ∧ t D σ (upd H d u)) := ⟨fun pins t1 σ H D I q => by
  rcases q with q | ⟨d, od, u, hd, hn, q⟩
  · exact h.run pins t1 σ H D I q
  · exact h.run pins t1 σ _ D (I.unlock hd hn) q⟩
/-- our own dict shared from now on -/
theorem pss_lkA {sts : List Stmt} {t : TS} (h : PSs X sts t) : PSs X sts (fun D σ H => t D σ H ∨ ∃ d u, H d = some u ∧ Mut (some u) ∧ ∀ od, t D σ (upd H d (.frz od u))) := ⟨fun pins t1 σ H D I q => by
  rcases q with q | ⟨d, u, hd, mu, q⟩
  · exact h.run pins t1 σ H D I q
  · obtain ⟨od, I2⟩ := I.lock hd mu
    exact h.run pins t1 σ _ D I2 (q od)⟩
theorem rLkk {i : Nat} {sts : List Stmt} {f : G → S → EV Fl} (h : PSs X sts (tS Z W H0 f)) : PSs X sts (tS Z W H0 fun g s => f (match g[i]? with | some (.ownD ks) => g.set i (.lkD ks) | _ => g) s) :=
  pssW (pss_lkA h) fun D σ H ⟨g, s, Sh, ok, h⟩ => by
    dsimp only at h
    split at h
    · rename_i ks q
      obtain ⟨o, e1, a, vs, rfl, h1, h2, h3, h4, r⟩ := ok.get q
      refine .inr ⟨a, _, h4, trivial, fun od => ?_⟩
      obtain ⟨k2, sm⟩ := ok.lockK od q e1 h1 h2 h3 h4 r
      exact ⟨_, s, _, k2, EvS.mono h sm⟩
    · exact .inl ⟨g, s, Sh, ok, h⟩
theorem rLkd {i : Nat} {sts : List Stmt} {f : G → S → EV Fl} (h : PSs X sts (tS Z W H0 f)) : PSs X sts (tS Z W H0 fun g s => f (match g[i]? with | some (.ownD ks) => g.set i (.dat (.dct ks)) | _ => g) s) :=
  pssW (pss_lkA h) fun D σ H ⟨g, s, Sh, ok, h⟩ => by
    dsimp only at h
    split at h
    · rename_i ks q
      obtain ⟨o, e1, a, vs, rfl, h1, h2, h3, h4, r⟩ := ok.get q
      refine .inr ⟨a, _, h4, trivial, fun od => ?_⟩
      obtain ⟨k2, sm⟩ := ok.lockD od q e1 h1 h2 h3 h4 r
      exact ⟨_, s, _, k2, EvS.mono h sm⟩
    · exact .inl ⟨g, s, Sh, ok, h⟩
/-- town.append(0) -/
theorem rTap {i : Nat} {t : TS} (h : PS X st t)
    (ht : ∀ (D : Ends) (σ : L2.St) (H : Hp), (∃ (a : Addr) (xs : List V), σ[i]? = some (some (.ref a)) ∧ H a = some (.lst xs) ∧ xs.length < sizeLine ∧ D.nx σ (upd H a (.lst (xs ++ [.int 0])))) → t D σ H) :
    PS X st (tS Z W H0 fun g s => match g[i]?, s with
      | some (.dat .town), some n => if n < SZ then some (.ok (.nx g), some (n + 1)) else none
      | _, _ => none) :=
  psW h fun D σ H ⟨g, s, Sh, ok, h⟩ => ht D σ H (by
    dsimp only at h
    split at h
    · rename_i n q
      split at h
      · rename_i hn
        obtain ⟨o, e1, v, rfl, r⟩ := ok.get q
        cases r with
        | town e =>
          obtain ⟨n', e2, h1, h2⟩ := ok.town.there e
          cases e2
          exact ⟨_, _, e1, h2, by rw [List.length_replicate]; exact szLt hn, h σ _ Sh (Same.refl _) (ok.tapped e rfl)⟩
      · exact h.elim
    · exact h.elim)
/-! ### branches and loops -/
theorem EvS.seq {o : EV Fl} {f : G → S → EV Fl} {H Sh : Hp} {D : Ends} (h : EvS Z W H0 Sh (rb o fun fl s => match fl with | .nx g => f g s | fl => some (.ok fl, s)) D) : EvS Z W H0 Sh o { D with nx := fun σ H => tS Z W H0 f D σ H } := by
  unfold EvS
  cases o with
  | none => exact h.elim
  | some p =>
    obtain ⟨r, s1⟩ := p
    cases r with
    | exn c => exact h
    | ok fl =>
      cases fl with
      | nx g => exact fun σ H Sh' sm k => ⟨g, s1, Sh', k, EvS.mono h sm⟩
      | ct g => exact h
      | bk g => exact h
      | rt d => exact h
theorem rNil : PSs X [] (tS Z W H0 fun g s => some (.ok (.nx g), s)) := pssW pss_nil fun D σ H ⟨g, s, Sh, ok, h⟩ => h σ H Sh (Same.refl _) ok
theorem rCons {sts : List Stmt} {ev : G → S → EV Fl} {f : G → S → EV Fl} (h1 : PS X st (tS Z W H0 ev)) (h2 : PSs X sts (tS Z W H0 f)) :
    PSs X (st :: sts) (tS Z W H0 fun g s => rb (ev g s) fun fl s => match fl with | .nx g => f g s | fl => some (.ok fl, s)) :=
  pssW (pss_cons h1 h2) fun D σ H ⟨g, s, Sh, ok, h⟩ => ⟨g, s, Sh, ok, EvS.seq (H := H) h⟩
theorem rIf {L : List Nat} {e : CE} {c : Expr} {a b : List Stmt} {pos : Pos} {fa fb : G → S → EV Fl} (hc : PT X c (tB Z W H0 (evT (evE en e)))) (ha : PSs X a (tS Z W H0 fa)) (hb : PSs X b (tS Z W H0 fb)) :
    PS X (.If c a b pos) (tS Z W H0 fun g s => rb (testE en L e g s) fun c s => if c then fa g s else fb g s) :=
  psW (ps_if hc ha hb) fun D σ H ⟨g, s, Sh, ok, h⟩ => by
    obtain ⟨Sh1, k1, q⟩ := EvS.test (Q := fun b H1 => if b = true then tS Z W H0 fa D σ H1 else tS Z W H0 fb D σ H1) ok h fun b s' H' Sh' sm k2 h2 => by
      cases b with
      | true => exact ⟨g, s', Sh', k2, EvS.mono h2 sm⟩
      | false => exact ⟨g, s', Sh', k2, EvS.mono h2 sm⟩
    exact ⟨_, s, Sh1, k1, q⟩
theorem rWhile {L : List Nat} {e : CE} {c : Expr} {b : List Stmt} {pos : Pos} {fb : G → S → EV Fl} (hp : PassesOwn (model X.prog X.w) X.A X.env X.xe) (hc : PT X c (tB Z W H0 (evT (evE en e)))) (hb : PSs X b (tS Z W H0 fb)) :
    PS X (.While c b [] pos) (tS Z W H0 fun g s => whO (testE en L e) fb g s) :=
  psW (ps_while hp hc hb) fun D σ H ⟨g, s, Sh, ok, h⟩ => by
    dsimp only at h
    cases q : whO (testE en L e) fb g s with
    | none =>
      rw [q] at h
      exact h.elim
    | some r =>
      obtain ⟨n, hn⟩ := whO_fuel q
      rw [q, ← hn] at h
      refine ⟨fun m σ H => ∃ (g : G) (s : S) (Sh : Hp), Ok Z H0 σ g H Sh s ∧ EvS Z W H0 Sh (whF (testE en L e) fb m g s) D, ⟨n, g, s, Sh, ok, h⟩, ?_⟩
      rintro m σ1 H1 ⟨g1, s1, Sh1, k1, h1⟩
      cases m with
      | zero => exact h1.elim
      | succ m =>
        rw [whF] at h1
        obtain ⟨Sh2, k2, q2⟩ := EvS.test (Q := fun b H2 => if b = true then ∃ N : L2.St → Hp → Prop, (∀ σ' H', N σ' H' → ∃ m', m' < m + 1 ∧ ∃ (g : G) (s : S) (Sh : Hp), Ok Z H0 σ' g H' Sh s ∧ EvS Z W H0 Sh (whF (testE en L e) fb m' g s) D) ∧ tS Z W H0 fb { D with nx := N, ct := N, bk := D.nx } σ1 H2 else D.nx σ1 H2) k1 h1 fun b s' H' Sh' sm k3 h3 => by
          cases b with
          | false =>
            rw [if_neg Bool.false_ne_true] at h3 ⊢
            exact h3 σ1 H' Sh' sm k3
          | true =>
            rw [if_pos rfl] at h3 ⊢
            refine ⟨fun σ' H' => ∃ (g : G) (s : S) (Sh : Hp), Ok Z H0 σ' g H' Sh s ∧ EvS Z W H0 Sh (whF (testE en L e) fb m g s) D, fun σ' H' h => ⟨m, Nat.lt_succ_self m, h⟩, g1, s', Sh', k3, ?_⟩
            have h3 := EvS.mono h3 sm
            unfold EvS
            cases q4 : fb g1 s' with
            | none =>
              rw [q4] at h3
              exact h3.elim
            | some p =>
              obtain ⟨r, s4⟩ := p
              rw [q4] at h3
              cases r with
              | exn c => exact h3
              | ok fl =>
                cases fl with
                | nx g4 => exact fun σ4 H4 Sh4 sm4 k4 => ⟨g4, s4, Sh4, k4, EvS.mono h3 sm4⟩
                | ct g4 => exact fun σ4 H4 Sh4 sm4 k4 => ⟨g4, s4, Sh4, k4, EvS.mono h3 sm4⟩
                | bk g4 => exact h3
                | rt d => exact h3
        exact ⟨_, s1, Sh2, k2, q2⟩
/-- a for: the walk, then turn by turn -/
theorem rForB {tg iter : Expr} {tgt : Tgt} {b : List Stmt} {pos : Pos} {fb : G → S → EV Fl} {σ : L2.St} {H1 Sh1 : Hp} {g1 : G} {s1 : S} {J : It} {ds : List FR.D} {D : Ends} (k1 : Ok Z H0 σ g1 H1 Sh1 s1) (wk : Walks Z J ds Sh1) (h : EvS Z W H0 Sh1 (forL tgt fb ds g1 s1) D) :
    ∃ W' : Nat → Nat → L2.St → Hp → Prop, (∃ m, W' 0 m σ H1) ∧ ∀ i m σ H, W' i m σ H →
      (J.stop i H ∧ D.nx σ H) ∨ (J.go i H ∧ ∃ N : L2.St → Hp → Prop, (∀ σ' H', N σ' H' → ∃ m', m' < m ∧ W' (i + 1) m' σ' H') ∧ ∀ x H', J.yld i H x H' → gSet Z.K tgt x σ H' fun σ2 H2 => tS Z W H0 fb { D with nx := N, ct := N, bk := D.nx } σ2 H2) := by
  refine ⟨fun i m σ H => m = ds.length - i ∧ i ≤ ds.length ∧ ∃ (g : G) (s : S) (Sh : Hp), Same Sh1 Sh ∧ Ok Z H0 σ g H Sh s ∧ EvS Z W H0 Sh (forL tgt fb (ds.drop i) g s) D, ⟨ds.length, by simp, Nat.zero_le _, g1, s1, Sh1, Same.refl _, k1, h⟩, ?_⟩
  rintro i m σ2 H2 ⟨rfl, hi, g2, s2, Sh2, sm2, k2, h2⟩
  obtain ⟨w1, w2⟩ := wk H2 (sm2.trans k2.sub)
  by_cases hlt : i < ds.length
  · obtain ⟨go, yl⟩ := w1 i ds[i] (List.getElem?_eq_getElem hlt)
    refine .inr ⟨go, fun σ' H' => i + 1 ≤ ds.length ∧ ∃ (g : G) (s : S) (Sh : Hp), Same Sh1 Sh ∧ Ok Z H0 σ' g H' Sh s ∧ EvS Z W H0 Sh (forL tgt fb (ds.drop (i + 1)) g s) D, fun σ' H' h3 => ⟨ds.length - (i + 1), by omega, rfl, h3⟩, fun x H3 hy => ?_⟩
    obtain ⟨rfl, rv⟩ := yl x H3 hy
    rw [List.drop_eq_getElem_cons hlt, forL] at h2
    cases q : setT g2 ds[i] tgt with
    | none =>
      rw [q] at h2
      exact h2.elim
    | some g3 =>
      rw [q] at h2
      dsimp only at h2
      refine gSet_of k2 (rv.mono sm2) q fun vs _ k3 => ⟨g3, s2, Sh2, k3, ?_⟩
      unfold EvS
      cases q4 : fb g3 s2 with
      | none =>
        rw [q4] at h2
        exact h2.elim
      | some p =>
        obtain ⟨r, s4⟩ := p
        rw [q4] at h2
        cases r with
        | exn c => exact h2
        | ok fl =>
          cases fl with
          | nx g4 => exact fun σ4 H4 Sh4 sm4 k4 => ⟨hlt, g4, s4, Sh4, sm2.trans sm4, k4, EvS.mono h2 sm4⟩
          | ct g4 => exact fun σ4 H4 Sh4 sm4 k4 => ⟨hlt, g4, s4, Sh4, sm2.trans sm4, k4, EvS.mono h2 sm4⟩
          | bk g4 => exact h2
          | rt d => exact h2
  · have ei : i = ds.length := by omega
    subst ei
    rw [List.drop_length] at h2
    exact .inl ⟨w2 _ (Nat.le_refl _), h2 σ2 H2 Sh2 (Same.refl _) k2⟩
theorem rFor {L : List Nat} {e : CE} {tg iter : Expr} {tgt : Tgt} {b : List Stmt} {pos : Pos} {fb : G → S → EV Fl} (hp : PassesOwn (model X.prog X.w) X.A X.env X.xe) (hc : X.calm = true) (hi : PI X tg iter (tI Z W H0 (evE en e))) (hg : PG X tg (gSet Z.K tgt)) (hb : PSs X b (tS Z W H0 fb))
    (hs : ∀ x, foldedSetIterable iter X.env x = pure x) : PS X (.For tg iter b [] pos) (tS Z W H0 fun g s => rb (evE en e (frz g L) s) fun x s => rb (rp (itemsD x) s) fun ds s => forL tgt fb ds (frz g L) s) :=
  psW (ps_for hp hc hi hg hb hs) fun D σ H ⟨g, s, Sh, ok, h⟩ => by
    dsimp only at h
    obtain ⟨Sh1, k1, fz⟩ := ok.frz L
    refine ⟨_, s, Sh1, k1, ?_⟩
    unfold EvI
    cases q : evE en e (frz g L) s with
    | none =>
      rw [q] at h
      exact h.elim
    | some p =>
      obtain ⟨r, s1⟩ := p
      rw [q] at h
      cases r with
      | exn c => exact fun H' Sh' x => h σ H' Sh' (k1.ent.trans x)
      | ok x =>
        rw [rb_ok] at h
        cases q1 : itemsD x with
        | none =>
          rw [q1] at h
          exact h.elim
        | some ds =>
          rw [q1, rp_some, rb_ok] at h
          exact ⟨ds, q1, fun J H1 Sh2 x2 wk => rForB (tg := tg) (iter := iter) (b := b) (pos := pos) (k1.ext x2) wk (EvS.mono h (fz.shs.trans x2.shs))⟩
end
end FR
/-! FrSnd11: the row's statements against the core syntax. -/
namespace FR
open PySem PySem.Spec PyProof.Rows L2
def asAsg : Stmt → Option (Expr × Expr × Pos)
  | .Assign [t] v p => some (t, v, p)
  | _ => none
def asExprS : Stmt → Option Expr
  | .Expr e _ => some e
  | _ => none
def asIfS : Stmt → Option (Expr × List Stmt × List Stmt)
  | .If c a b _ => some (c, a, b)
  | _ => none
def asFor : Stmt → Option (Expr × Expr × List Stmt)
  | .For t i b [] _ => some (t, i, b)
  | _ => none
def asWhile : Stmt → Option (Expr × List Stmt)
  | .While c b [] _ => some (c, b)
  | _ => none
def asRet : Stmt → Option Expr
  | .Return (some e) _ => some e
  | _ => none
def isRetN : Stmt → Bool
  | .Return none _ => true
  | _ => false
def asRaise : Stmt → Option Str
  | .Raise (some (.Call (.Name x _) [.Constant (.str _) _ _] [] _)) none _ => some x
  | _ => none
def isPass : Stmt → Bool
  | .Pass _ => true
  | _ => false
def isCont : Stmt → Bool
  | .Continue _ => true
  | _ => false
def isBrk : Stmt → Bool
  | .Break _ => true
  | _ => false
/-- try: t = v / except x as n: y = m -/
def asTry : Stmt → Option (Expr × Expr × Str × Str × Str × Str)
  | .Try [.Assign [t] v _] [.ExceptHandler (some (.Name x _)) (some n) [.Assign [.Name y _] (.Name m _) _] _] [] [] _ => some (t, v, x, n, y, m)
  | _ => none
theorem asTry_eq {st : Stmt} {t v : Expr} {x n y m : Str} (h : asTry st = some (t, v, x, n, y, m)) : ∃ p1 p2 p3 p4 p5 p6 p7, st = .Try [.Assign [t] v p1] [.ExceptHandler (some (.Name x p2)) (some n) [.Assign [.Name y p3] (.Name m p4) p5] p6] [] [] p7 := by
  unfold asTry at h
  split at h
  · cases h
    exact ⟨_, _, _, _, _, _, _, rfl⟩
  · cases h
/-- try: t = v / except x: y = c -/
def asTryC : Stmt → Option (Expr × Expr × Str × Str × Const)
  | .Try [.Assign [t] v _] [.ExceptHandler (some (.Name x _)) none [.Assign [.Name y _] (.Constant c _ _) _] _] [] [] _ => some (t, v, x, y, c)
  | _ => none
theorem asTryC_eq {st : Stmt} {t v : Expr} {x y : Str} {c : Const} (h : asTryC st = some (t, v, x, y, c)) : ∃ p1 p2 p3 p4 p5 p6 p7 i, st = .Try [.Assign [t] v p1] [.ExceptHandler (some (.Name x p2)) none [.Assign [.Name y p3] (.Constant c i p4) p5] p6] [] [] p7 := by
  unfold asTryC at h
  split at h
  · cases h
    exact ⟨_, _, _, _, _, _, _, _, rfl⟩
  · cases h
/-- x.m(args), on one line -/
def asMeth : Expr → Option (Str × Str × List Expr)
  | .Call (.Attribute (.Name x _) m a) ys [] c => if a.endLine == c.line then some (x, m, ys) else none
  | _ => none
def swNames (sc : Scope) (ts : List Expr) : List Str := ts.filterMap fun
  | .Name id pos => if sc.names.lookup id == some .local && pos.line == (ts.head?.map (·.pos.line)).getD 0 then some id else none
  | _ => none
/-- whether a, b = x, y stores the other way round: none, if the model doesn't say -/
def swSt (sc : Scope) (ts vs : List Expr) : Option (Option (List Str)) :=
  if !(ts.length == 2 || ts.length == 3) || vs.length != ts.length then some none
  else if vs.any (fun e => !notStar e) then some none
  else if (swNames sc ts).length != ts.length || (swNames sc ts).eraseDups.length != (swNames sc ts).length then some none
  else if vs.all (foldedForSure 8) then some none
  else if vs.all (constantsAlone 8) then none
  else some (some (swNames sc ts))
def allLoc (sc : Scope) (es : List Expr) : Bool := es.all fun | .Name x _ => decide (sc.names.lookup x = some .local) | _ => false
def frs0 : CE → Bool
  | .lst _ => true
  | .comp _ _ _ _ => true
  | .compR _ _ _ _ _ => true
  | .compK _ _ _ _ => true
  | .dct0 => true
  | .bif .dict (.cons _ .nil) => true
  | .bif .sorted (.cons _ .nil) => true
  | .bif .list (.cons _ .nil) => true
  | .bin .mul (.lst _) _ => true
  | _ => false
/-- xs[i], xs[j] = xs[j], xs[i] -/
def asSwap : Stmt → Option (Str × Str × Str)
  | .Assign [.Tuple [.Subscript (.Name x1 _) (.Name a1 _) _, .Subscript (.Name x2 _) (.Name b1 _) _] _ _] (.Tuple [.Subscript (.Name x3 _) (.Name b2 _) _, .Subscript (.Name x4 _) (.Name a2 _) _] _ _) _ =>
      if x1 == x2 && x1 == x3 && x1 == x4 && a1 == a2 && b1 == b2 then some (x1, a1, b1) else none
  | _ => none
theorem asSwap_eq {st : Stmt} {x a b : Str} (h : asSwap st = some (x, a, b)) : ∃ p1 p2 p3 p4 p5 p6 k1 p7 p8 p9 p10 p11 p12 p13 k2 p14 p15, st = .Assign [.Tuple [.Subscript (.Name x p1) (.Name a p2) p3, .Subscript (.Name x p4) (.Name b p5) p6] k1 p7] (.Tuple [.Subscript (.Name x p8) (.Name b p9) p10, .Subscript (.Name x p11) (.Name a p12) p13] k2 p14) p15 := by
  unfold asSwap at h
  split at h
  · split at h
    · rename_i q
      simp only [Bool.and_eq_true, beq_iff_eq] at q
      obtain ⟨⟨⟨⟨rfl, rfl⟩, rfl⟩, rfl⟩, rfl⟩ := q
      cases h
      exact ⟨_, _, _, _, _, _, _, _, _, _, _, _, _, _, _, _, _, rfl⟩
    · cases h
  · cases h
section
variable (tb : Tb) (N : List Str)
def nameB (sc : Scope) (i : Nat) (x : Str) : Bool := decide (N[i]? = some x) && visB sc x && okN x
mutual
def mtS : CS → Scope → Stmt → Bool
  | .asg _ i e, sc, st => (match asAsg st with | some (t, v, _) => nameIs N sc i t && mtE tb N e sc v | none => false)
  | .own _ i e, sc, st => (match asAsg st with | some (t, v, _) => frs0 e && nameIs N sc i t && mtE tb N e sc v | none => false)
  | .oif i t e, sc, st => (match asAsg st with
      | some (x, v, _) => nameIs N sc i x && (match asIf v, e with
          | some (c, a, b), .lst es => !t.isIte && mtE tb N t sc c && mtE tb N e sc a && (match asName b with | some y => nameB N sc i y | none => false)
          | _, _ => false)
      | none => false)
  | .tas _ is e, sc, st => (match asAsg st with
      | some (t, v, _) => (match asTup t with | some ts => namesAre N sc is ts && mtE tb N e sc v && (match asTup v with | none => true | some vs => decide (swSt sc ts vs = some none)) | none => false)
      | none => false)
  | .par _ is es, sc, st => (match asAsg st with
      | some (t, v, _) => (match asTup t, asTup v with
          | some ts, some vs => namesAre N sc is ts && allLoc sc ts && mtEs tb N es sc vs && decide (swSt sc ts vs = some (some (swNames sc ts))) && decide (is.length = vs.length) && (decide (is.length = 2) || decide (is.length = 3)) && decide is.Nodup
          | _, _ => false)
      | none => false)
  | .app _ i e, sc, st => (match asExprS st with
      | some c => (match asMeth c with | some (x, m, [y]) => decide (m = ("append" : Str)) && nameB N sc i x && notStar y && mtE tb N e sc y | _ => false)
      | none => false)
  | .tap i, sc, st => (match asExprS st with
      | some c => (match asMeth c with | some (x, m, [y]) => decide (m = ("append" : Str)) && nameB N sc i x && decide (asConst y = some (.int 0)) | _ => false)
      | none => false)
  | .ext _ i e, sc, st => (match asExprS st with
      | some c => (match asMeth c with | some (x, m, [y]) => decide (m = ("extend" : Str)) && nameB N sc i x && notStar y && mtE tb N e sc y | _ => false)
      | none => false)
  | .pop i, sc, st => (match asExprS st with
      | some c => (match asMeth c with | some (x, m, []) => decide (m = ("pop" : Str)) && nameB N sc i x | _ => false)
      | none => false)
  | .pop0 i is, sc, st => (match asAsg st with
      | some (t, v, _) => (match asTup t, asMeth v with
          | some ts, some (x, m, [y]) => namesAre N sc is ts && decide (m = ("pop" : Str)) && nameB N sc i x && decide (asConst y = some (.int 0))
          | _, _ => false)
      | none => false)
  | .sti _ i e v, sc, st => (match asAsg st with
      | some (t, u, _) => (match asIdx t with
          | some (a, z) => notSlice z && (match asName a with | some y => nameB N sc i y | none => false) && mtE tb N e sc z && mtE tb N v sc u
          | none => false)
      | none => false)
  | .popk _ i e, sc, st => (match asExprS st with
      | some c => (match asMeth c with | some (x, m, [y]) => decide (m = ("pop" : Str)) && nameB N sc i x && notStar y && mtE tb N e sc y | _ => false)
      | none => false)
  | .swp i a b, sc, st => (match asSwap st with | some (x, y, z) => nameB N sc i x && nameB N sc a y && nameB N sc b z | none => false)
  | .lkd _, _, _ => false
  | .lkk _, _, _ => false
  | .ulk _, _, _ => false
  | .ndl i tg it, sc, st => (match asAsg st with | some (t, v, _) => nameIs N sc i t && (mtE tb N (.comp tg it (.cst (.bl true)) (.lst .nil)) sc v && (match asComp v with | some (_, _, _, fs, _) => fs.isEmpty | none => false)) | none => false)
  | .apl i j e, sc, st => (match asExprS st with
      | some c => (match asMth c with
          | some (o, m, y) => decide (m = ("append" : Str)) && notStar y && mtE tb N e sc y && (match asIdx o with
              | some (a, z) => notSlice z && (match asName a, asName z with | some p, some q => nameB N sc i p && nameB N sc j q | _, _ => false)
              | none => false)
          | none => false)
      | none => false)
  | .shn _, _, _ => false
  | .forK _ tg it b, sc, st => (match asFor st with | some (t, i, x) => mtG N sc tg t && (match asKeys i with | some o => mtE tb N it sc o | none => false) && mtSs b sc x | none => false)
  | .ex _ e, sc, st => (match asExprS st with | some c => (asCall c).isSome && mtE tb N e sc c | none => false)
  | .ifs _ t a b, sc, st => (match asIfS st with | some (c, x, y) => !t.isIte && mtE tb N t sc c && mtSs a sc x && mtSs b sc y | none => false)
  | .for_ _ tg it b, sc, st => (match asFor st with | some (t, i, x) => mtG N sc tg t && notSet i && mtE tb N it sc i && mtSs b sc x | none => false)
  | .forR _ tg lo hi b, sc, st => (match asFor st with
      | some (t, i, x) => mtG N sc tg t && mtSs b sc x && (match asCall i with
          | some (r, y, ys) => decide (r = ("range" : Str)) && gloB sc r && notStar y && (match ys with | [] => lo.isZero && mtE tb N hi sc y | [z] => notStar z && mtE tb N lo sc y && mtE tb N hi sc z | _ => false)
          | none => false)
      | none => false)
  | .whl _ t b, sc, st => (match asWhile st with | some (c, x) => !t.isIte && mtE tb N t sc c && mtSs b sc x | none => false)
  | .ret _ e, sc, st => (match asRet st with | some v => mtE tb N e sc v | none => false)
  | .rtn, _, st => isRetN st
  | .rse c, sc, st => (match asRaise st with | some x => decide (tb.cn c = some x) && gloB sc x && okN x | none => false)
  | .tr L j e c (.cst l k), sc, st => (match asTryC st with
      | some (t, v, x, y, kc) => L.isEmpty && notComp v && nameIs N sc j t && mtE tb N e sc v && decide (tb.cn c = some x) && gloB sc x && okN x && decide (N[l]? = some y) && decide (sc.names.lookup y = some .local) && decide (kc = k.k)
      | none => false)
  | .tr L j e c (.exc i l), sc, st => (match asTry st with
      | some (t, v, x, n, y, m) => L.isEmpty && notComp v && nameIs N sc j t && mtE tb N e sc v && decide (tb.cn c = some x) && gloB sc x && okN x && decide (N[i]? = some n) && decide (sc.names.lookup n = some .local) && okN n && decide (N[l]? = some y) && decide (sc.names.lookup y = some .local) && decide (m = n)
      | none => false)
  | .pas, _, st => isPass st
  | .cnt, _, st => isCont st
  | .brk, _, st => isBrk st
  | .bad, _, _ => true
def mtSs : CSs → Scope → List Stmt → Bool
  | .nil, _, ss => ss.isEmpty
  | .cons c cs, sc, ss => (match c with
      | .lkd _ => mtSs cs sc ss
      | .lkk _ => mtSs cs sc ss
      | .shn _ => mtSs cs sc ss
      | c => (match ss with | [] => false | s :: r => mtS c sc s && mtSs cs sc r))
end
/-- a def's own body: here a locked dict may be unlocked again -/
def mtSs0 : CSs → Scope → List Stmt → Bool
  | .nil, _, ss => ss.isEmpty
  | .cons c cs, sc, ss => (match c with
      | .lkd _ => mtSs0 cs sc ss
      | .lkk _ => mtSs0 cs sc ss
      | .ulk _ => mtSs0 cs sc ss
      | .shn _ => mtSs0 cs sc ss
      | c => (match ss with | [] => false | s :: r => mtS tb N c sc s && mtSs0 cs sc r))
end
theorem asAsg_eq {st : Stmt} {t v : Expr} {p : Pos} (h : asAsg st = some (t, v, p)) : st = .Assign [t] v p := by
  unfold asAsg at h
  split at h
  · cases h
    rfl
  · cases h
theorem asExprS_eq {st : Stmt} {e : Expr} (h : asExprS st = some e) : ∃ p, st = .Expr e p := by
  unfold asExprS at h
  split at h
  · cases h
    exact ⟨_, rfl⟩
  · cases h
theorem asIfS_eq {st : Stmt} {c : Expr} {a b : List Stmt} (h : asIfS st = some (c, a, b)) : ∃ p, st = .If c a b p := by
  unfold asIfS at h
  split at h
  · cases h
    exact ⟨_, rfl⟩
  · cases h
theorem asFor_eq {st : Stmt} {t i : Expr} {b : List Stmt} (h : asFor st = some (t, i, b)) : ∃ p, st = .For t i b [] p := by
  unfold asFor at h
  split at h
  · cases h
    exact ⟨_, rfl⟩
  · cases h
theorem asWhile_eq {st : Stmt} {c : Expr} {b : List Stmt} (h : asWhile st = some (c, b)) : ∃ p, st = .While c b [] p := by
  unfold asWhile at h
  split at h
  · cases h
    exact ⟨_, rfl⟩
  · cases h
theorem asRet_eq {st : Stmt} {e : Expr} (h : asRet st = some e) : ∃ p, st = .Return (some e) p := by
  unfold asRet at h
  split at h
  · cases h
    exact ⟨_, rfl⟩
  · cases h
theorem isRetN_eq {st : Stmt} (h : isRetN st = true) : ∃ p, st = .Return none p := by
  unfold isRetN at h
  split at h
  · exact ⟨_, rfl⟩
  · cases h
theorem asRaise_eq {st : Stmt} {x : Str} (h : asRaise st = some x) : ∃ p m k p2 p3 p4, st = .Raise (some (.Call (.Name x p) [.Constant (.str m) k p2] [] p3)) none p4 := by
  unfold asRaise at h
  split at h
  · cases h
    exact ⟨_, _, _, _, _, _, rfl⟩
  · cases h
theorem isPass_eq {st : Stmt} (h : isPass st = true) : ∃ p, st = .Pass p := by
  unfold isPass at h
  split at h
  · exact ⟨_, rfl⟩
  · cases h
theorem isCont_eq {st : Stmt} (h : isCont st = true) : ∃ p, st = .Continue p := by
  unfold isCont at h
  split at h
  · exact ⟨_, rfl⟩
  · cases h
theorem isBrk_eq {st : Stmt} (h : isBrk st = true) : ∃ p, st = .Break p := by
  unfold isBrk at h
  split at h
  · exact ⟨_, rfl⟩
  · cases h
theorem asMeth_eq {e : Expr} {x m : Str} {ys : List Expr} (h : asMeth e = some (x, m, ys)) : ∃ p a c, e = .Call (.Attribute (.Name x p) m a) ys [] c ∧ (a.endLine == c.line) = true := by
  unfold asMeth at h
  split at h
  · split at h
    · rename_i hl
      cases h
      exact ⟨_, _, _, rfl, hl⟩
    · cases h
  · cases h
theorem sw_not {v : Expr} {t : Option Expr} {l : Nat} {env : Env} (h : notComp v = true) : swapsWith v t l env = pure false := by
  cases v <;> first | rfl | cases h
theorem sw_tup {v : Expr} {es : List Expr} {k : Nat} {p : Pos} {l : Nat} {env : Env} : swapsWith v (some (.Tuple es k p)) l env = pure false := by
  cases v <;> rfl
theorem sw_lc {el : Expr} {gs : List Comprehension} {scope : Scope} {pos px : Pos} {x : Str} {l : Nat} {env : Env} : ∃ b, swapsWith (.ListComp el gs scope pos) (some (.Name x px)) l env = pure b ∧ (b = true → env.kindOf x = some .local) := by
  refine ⟨_, rfl, fun h => ?_⟩
  simp only [Bool.and_eq_true, beq_iff_eq] at h
  exact h.1.1.2
theorem stars_any (vs : List Expr) : (vs.any fun | .Starred _ _ => true | _ => false) = vs.any fun e => !notStar e := by
  congr 1
  funext e
  cases e <;> rfl
theorem fm_congr {α β : Type} {f g : α → Option β} : ∀ {l : List α}, (∀ x ∈ l, f x = g x) → l.filterMap f = l.filterMap g
  | [], _ => rfl
  | x :: l, h => by
    rw [List.filterMap_cons, List.filterMap_cons, h x List.mem_cons_self, fm_congr fun y hy => h y (List.mem_cons_of_mem _ hy)]
theorem swStores {sc : Scope} {X : Cx} {ts vs : List Expr} {k k2 : Nat} {p p2 : Pos} {r : Option (List Str)} (fk : X.env.scope.kind = .function) (hn : ∀ t ∈ ts, ∃ x p, t = .Name x p ∧ (X.env.kindOf x == some .local) = (sc.names.lookup x == some .local)) (h : swSt sc ts vs = some r) :
    swappedStores [.Tuple ts k p] (.Tuple vs k2 p2) X.env = pure r := by
  have hb : X.env.blockKind = .function := by
    unfold Env.blockKind
    rw [fk]
    rfl
  have hN : (ts.filterMap fun
    | .Name id pos => if X.env.kindOf id == some .local && pos.line == (ts.head?.map (·.pos.line)).getD 0 then some id else none
    | _ => none) = swNames sc ts := by
    unfold swNames
    refine fm_congr fun t ht => ?_
    obtain ⟨x, p, rfl, e⟩ := hn t ht
    dsimp only
    rw [e]
  unfold swSt at h
  have key : ∀ (names : List Str) (st : Bool), names = swNames sc ts → st = (vs.any fun e => !notStar e) →
      (if (!(ts.length == 2 || ts.length == 3) || vs.length != ts.length || ScopeKind.function != ScopeKind.function) = true then (pure none : Sem (Option (List Str)))
      else if st = true then pure none
      else if (names.length != ts.length || names.eraseDups.length != names.length) = true then pure none
      else if vs.all (foldedForSure 8) = true then pure none
      else if vs.all (constantsAlone 8) = true then (do unsupported "assign.tuple-of-constant-expressions:order-of-the-stores"; pure (some names))
      else pure (some names)) = pure r := by
    intro names st e1 e2
    subst e1 e2
    have e3 : (!(ts.length == 2 || ts.length == 3) || vs.length != ts.length || ScopeKind.function != ScopeKind.function) = (!(ts.length == 2 || ts.length == 3) || vs.length != ts.length) := by
      rw [show (ScopeKind.function != ScopeKind.function) = false from by decide, Bool.or_false]
    rw [e3]
    split at h
    · rename_i q
      cases h
      rw [if_pos q]
    · rename_i q
      rw [if_neg q]
      split at h
      · rename_i q
        cases h
        rw [if_pos q]
      · rename_i q
        rw [if_neg q]
        split at h
        · rename_i q
          cases h
          rw [if_pos q]
        · rename_i q
          rw [if_neg q]
          split at h
          · rename_i q
            cases h
            rw [if_pos q]
          · rename_i q
            rw [if_neg q]
            split at h
            · cases h
            · rename_i q
              rw [if_neg q]
              cases h
              rfl
  unfold swappedStores
  dsimp only [pure_bind]
  rw [hb]
  exact key _ _ hN (stars_any vs)
end FR
/-! FrSndT: an error caught and kept beyond its except suite. -/
namespace FR
open PySem PySem.Spec PyProof.Rows L2
theorem exV_ok {P : Program} {w : World} {H : Hp} {h : Heap} {a : Addr} {cls : Value} {oe : Obj} {vs : Array Value} (e : h.get? a = some oe) (z : Zc cls none oe) (d : oe.data = .fields vs) : ObjOk P w H h a (ExV cls a) :=
  ⟨⟨oe, vs, e, z, d⟩, ⟨oe, e⟩, fun _ _ ⟨o, v, q, r⟩ k => ⟨o, v, k o q, r⟩⟩
section
variable {X : Cx} {pins : List (Addr × Obj)} {s : Shared} {σ : L2.St} {H : Hp}
/-- an object that came meanwhile is tracked from now on -/
theorem inv_lay {a : Addr} {o : HO} (I : Inv X pins σ H s) (hn : H a = none) (n0 : X.s_0.heap.get? a = none) (nL : a ≠ X.env.locals) (nC : ∀ x c, X.env.cells.lookup x = some c → c ≠ a) (np : ∀ p ∈ X.pn ++ pins, p.1 ≠ a)
    (new : ObjOk X.prog X.w (upd H a o) s.heap a o) : Inv X pins σ (upd H a o) s where
  ok := I.ok
  os := I.os
  bare := I.bare
  base := ⟨I.base.keep, I.base.slot, fun b u q n x => by
      rw [upd_ne (fun z => by rw [z, n0] at q; cases q)]
      exact I.base.free b u q n x, I.base.there, fun b xs q => by
      have z := I.base.tups b xs q
      rw [upd_ne (ne_of_none z hn)]
      exact z, fun b u v q => by
      have z := I.base.frzs b u v q
      rw [upd_ne (ne_of_none z hn)]
      exact z, fun b ps q => by
      obtain ⟨m, z⟩ := I.base.tbls b ps q
      exact ⟨m, by rw [upd_ne (ne_of_none z hn)]; exact z⟩⟩
  loc := I.loc
  cell := I.cell
  free := by
    rw [upd_ne (Ne.symm nL)]
    exact I.free
  freeC := fun x c e => by
    rw [upd_ne (nC x c e)]
    exact I.freeC x c e
  pin := fun p hp => by
    obtain ⟨p1, p2, p3⟩ := I.pin p hp
    exact ⟨p1, by rw [upd_ne (np p hp)]; exact p2, p3⟩
  hok := fun b u e => by
    by_cases hb : b = a
    · subst hb
      rw [upd_same] at e
      cases e
      exact new
    · rw [upd_ne hb] at e
      exact (I.hok b u e).stay (fun _ _ _ q => q) (fun c q => by rw [upd_ne (ne_of_none q hn)]; exact q) fun c xs q => by rw [upd_ne (ne_of_none q hn)]; exact q
  len := I.len
end
/-- where a caught error lies: at none of our places, new since the entry -/
structure NewAt (X : Cx) (pins : List (Addr × Obj)) (a : Addr) : Prop where
  loc : a ≠ X.env.locals
  frm : a ∉ X.fs
  old : X.s_0.heap.get? a = none
  pin : ∀ p ∈ X.pn ++ pins, p.1 ≠ a
theorem newAt {X : Cx} {pins : List (Addr × Obj)} {σ : L2.St} {H : Hp} {t : Shared} {a : Addr} {B g : Heap} {Z : Obj → Prop} (hs : X.stack = X.env :: X.outer) (hf : X.env.frame = some X.env.locals) (hx : X.ex = []) (J : Inv X pins σ H t)
    (nb : ∀ b o, t.heap.get? b = some o → b ∉ frs X.stack → B.get? b = some o) (fl : HandSPX.FlyingZ B (X.env :: X.outer) a Z g) : NewAt X pins a := by
  obtain ⟨oz, wz, q1, _, q2⟩ := fl.there
  have out : a ∉ frs (X.env :: X.outer) := by
    intro m
    obtain ⟨_, ou, e, no⟩ := fl.2.2.1.mem m
    cases q1.symm.trans e
    exact no wz q2
  have gone : t.heap.get? a = none := Option.eq_none_iff_forall_ne_some.mpr fun o e => by
    have z := (nb a o e (hs ▸ out)).symm.trans fl.2.1
    cases z
  refine ⟨?_, ?_, Option.eq_none_iff_forall_ne_some.mpr ?_, ?_⟩
  · rintro rfl
    exact out (List.mem_filterMap.mpr ⟨_, .head _, hf⟩)
  · intro m
    obtain ⟨en, m1, m2⟩ := List.mem_filterMap.mp m
    exact out (List.mem_filterMap.mpr ⟨en, .tail _ m1, m2⟩)
  · intro o e
    obtain ⟨_, z⟩ := J.base.there a o e (hx ▸ List.not_mem_nil)
    cases gone.symm.trans z
  · rintro p m rfl
    cases gone.symm.trans (J.pin p m).1
/-- the class's name, asked in the suite -/
theorem ask_cls {Y : Cx} {q : List (Addr × Obj)} {σ : L2.St} {H : Hp} {t : Shared} {x : Str} {c : Value} {np : Pos} {X : Cx} (I : Inv Y q σ H t) (hc : Names X x c) (e1 : Gl X x → Gl Y x) (e2 : Y.mg = X.mg) {Q E : Value → Shared → Prop} (h : Q c t) : wpAny (model Y.prog Y.w) Y.A (eval (.Name x np) Y.env) Q E t := by
  rcases hc with ⟨g, nd, c1 | ⟨c1, c2, c3⟩⟩
  · exact ld_glob I (e1 g) (e2 ▸ c1) h nd
  · exact ld_blt I (e1 g) (e2 ▸ c1) c2 h c3 nd
/-- the error goes on, no clause of ours being its -/
theorem go_on {X : Cx} {a : Addr} {B : Heap} {t : Shared} {Z : Obj → Prop} {Q : Flow → Shared → Prop} (hf : X.env.frame = some X.env.locals) (fl : HandSPX.FlyingZ B (X.env :: X.outer) a Z t.heap)
    (out : ∀ g, HandSPX.HeldZ B (X.env :: X.outer) a Z X.env.locals g → t.heap.UpToSlots g → X.xe (.ref a) { t with heap := g }) : wpAny (model X.prog X.w) X.A (handleBy (.ref a) X.env []) Q X.xe t := by
  apply wpAny_handleBy_nil
  have fl' := fl
  obtain ⟨_, _, _, ob, fs, tb, _, _, g1, _, g2, g3, _⟩ := fl'
  have up : wpAny (model X.prog X.w) X.A (setFlight (.ref a) X.env.frame) (fun _ u => wpAny (model X.prog X.w) X.A (throw (.ref a) : Sem Flow) Q X.xe u) X.xe t := by
    rw [hf]
    exact HandSPX.setFlight_upZ fl fun g hg ug => wpAny_throw (out g hg ug)
  have nn : ¬ ((Value.ref tb == Value.none) = true) := by simp
  unfold PySem.passOn
  refine wpAny_bind (wpAny_field g1 g2 g3 ?_)
  rw [if_neg nn]
  first
    | exact wpAny_bind up
    | exact wpAny_bind (wpAny_pure (wpAny_bind up))
/-- what 'except x as n: y = n' wishes: n's slot i, y's slot k -/
def wVal (K : PySem.W.Frag) (c : Value) (i k : Nat) (Wout : WX) (D : Ends) : WX := fun cls d σ H =>
  ∃ b, PySem.W.exmOne K cls c = some b ∧ (b = true → d = none ∧ ∀ a, H a = none → D.nx (((σ.set i (some (.ref a))).set k (some (.ref a))).set i none) (upd H a (ExV cls a))) ∧ (b = false → Wout cls d σ H)
section
variable {X : Cx} {x n y : Str} {c : Value} {i k : Nat} {body : List Stmt} {np py pn' pa pos pos' : Pos} {tb : WX → TS} {Wout : WX}
/-- n is set, y = n runs, n goes: y holds the error -/
theorem keep_err {pins : List (Addr × Obj)} {σ : L2.St} {H : Hp} {t : Shared} {a : Addr} {ob : Obj} {fs : Array Value} {cls : Value} {D : Ends} (hN : X.N.Nodup) (hi : X.N[i]? = some n) (hln : X.env.kindOf n = some .local) (hk : X.N[k]? = some y) (hly : X.env.kindOf y = some .local)
    (hd1 : (n == ("__debug__" : Str)) = false) (hd2 : (n == ("__classdict__" : Str)) = false) (J : Inv X pins σ H t) (no : H a = none) (nw : NewAt X pins a) (g1 : t.heap.get? a = some ob) (g2 : Zc cls none ob) (g3 : ob.data = .fields fs)
    (h : D.nx (((σ.set i (some (.ref a))).set k (some (.ref a))).set i none) (upd H a (ExV cls a))) {E : Value → Shared → Prop} {Q : Shared → Prop} (fin : ∀ s7, SP X pins D .next s7 → Q s7) :
    ∀ s5, Inv (X.suite a ((a, ob) :: (X.pn ++ pins))) [] (σ.set i (some (.ref a))) H s5 → wpAny (model X.prog X.w) (X.A.mark (some (.ref a))) (execs [.Assign [.Name y py] (.Name n pn') pa] X.env) (fun f s6 => f = .next ∧ wpAny (model X.prog X.w) X.A (do bindName X.env n .none; unbindBehindTheSuite X.env n pos') (fun _ s7 => Q s7) X.xe s6) E s5 := by
  intro s5 S5
  have run : PSs (X.suite a ((a, ob) :: (X.pn ++ pins))) [.Assign [.Name y py] (.Name n pn') pa] (tAsg (tVar i) (gName k)) := pss_one (ps_set hN hk (.inl hly) (pe_var hi (.inl hln) hd1 hd2) rfl (.inr hly))
  have li : i < σ.length := J.len ▸ (List.getElem?_eq_some_iff.mp hi).1
  refine wpAny_mono (run.run [] s5 _ H { nx := fun σ6 H6 => σ6 = (σ.set i (some (.ref a))).set k (some (.ref a)) ∧ H6 = H, rt := fun _ _ => False, bk := fun _ _ => False, ct := fun _ _ => False } S5 ⟨_, List.getElem?_set_self li, rfl, rfl⟩) (fun f s6 r => ?_) fun _ _ z => z.elim
  cases f with
  | next =>
    obtain ⟨_, _, S6, rfl, rfl⟩ := r
    refine ⟨rfl, gone_ok (X := X.suite a ((a, ob) :: (X.pn ++ pins))) S6 hN hi hln fun s7 S7 => fin s7 ?_⟩
    have J7 := S7.unsuite J.ok
    have at7 := (S7.pin (a, ob) (List.mem_append_left _ (.head _))).1
    refine ⟨_, _, inv_lay J7 no nw.old nw.loc (fun v cl e z => ?_) nw.pin (exV_ok at7 g2 g3), h⟩
    obtain ⟨_, oc, r1, r2⟩ := J7.cell v cl e
    subst z
    cases at7.symm.trans r1
    cases g3.symm.trans r2
  | brk =>
    obtain ⟨_, _, _, z⟩ := r
    exact z.elim
  | cont =>
    obtain ⟨_, _, _, z⟩ := r
    exact z.elim
  | ret u =>
    obtain ⟨_, _, _, _, _, z⟩ := r
    exact z.elim
/-- what is done with an error of the body -/
abbrev onErr (X : Cx) (cl : List ExceptHandler) (P : Flow → Shared → Prop) : Value → Shared → Prop := fun e t => wpAny (model X.prog X.w) X.A (noteFrame e X.env)
  (fun _ u => wpAny (model X.prog X.w) X.A (setFlight e none) (fun _ v => wpAny (model X.prog X.w) X.A (handleBy e X.env cl) P X.xe v) X.xe u) X.xe t
theorem ps_try_val (hs : X.stack = X.env :: X.outer) (hf : X.env.frame = some X.env.locals) (hx : X.ex = []) (hN : X.N.Nodup) (hi : X.N[i]? = some n) (hln : X.env.kindOf n = some .local) (hk : X.N[k]? = some y) (hly : X.env.kindOf y = some .local)
    (hd1 : (n == ("__debug__" : Str)) = false) (hd2 : (n == ("__classdict__" : Str)) = false) (hc : Names X x c) (tk : Takes X Wout)
    (hb : ∀ (V : WX) (pl : List (Addr × Obj)) (xe : Value → Shared → Prop), Takes (X.tr pl xe) V → PassesOwn (model X.prog X.w) X.A X.env xe → PSs (X.tr pl xe) body (tb V)) :
    PS X (.Try body [.ExceptHandler (some (.Name x np)) (some n) [.Assign [.Name y py] (.Name n pn') pa] pos'] [] [] pos) (fun D σ H => tb (wVal X.K c i k Wout D) D σ H) := by
  constructor
  intro pins s0 σ0 H0 D I0 h0
  have fr : X.A.frames = some (X.env :: X.outer) := I0.ok.frames.trans (congrArg some hs)
  apply wpAny_Try_except
  have bodyRun := (hb (wVal X.K c i k Wout D) (X.pn ++ pins) (onErr X [.ExceptHandler (some (.Name x np)) (some n) [.Assign [.Name y py] (.Name n pn') pa] pos'] (SP X pins D)) (fun u t1 air => ?caught) PassesOwn.looking).run [] s0 σ0 H0 D (I0.toTry _) h0
  · refine wpAny_mono bodyRun (fun f t1 r => ?_) fun _ _ z => z
    cases f with
    | next => exact wpAny_execs_nil (r.imp fun _ ⟨H2, J2, q⟩ => ⟨H2, J2.ofTry I0.ok, q⟩)
    | brk => exact r.imp fun _ ⟨H2, J2, q⟩ => ⟨H2, J2.ofTry I0.ok, q⟩
    | cont => exact r.imp fun _ ⟨H2, J2, q⟩ => ⟨H2, J2.ofTry I0.ok, q⟩
    | ret u => exact r.imp fun _ ⟨σ2, H2, J2, q⟩ => ⟨σ2, H2, J2.ofTry I0.ok, q⟩
  case caught =>
    obtain ⟨a, B, tI, pl, σ1, H1, cls, d, rfl, JT, nb, up, sky, no, os, ag, b, mt, yes, nope⟩ := air
    have J1 : Inv X pins σ1 H1 tI := JT.ofTry I0.ok
    refine Sky.land Zc.steady fr hf (show Sky B (X.env :: X.outer) a (Zc cls d) X.env.locals t1.heap from hs ▸ sky) fun g3 f3 u3 => ?_
    have K3 : Inv X pins σ1 H1 { t1 with heap := g3 } := J1.landed nb f3.1 (up.trans u3) os ag
    have nw := newAt hs hf hx J1 nb f3
    obtain ⟨o3, w3, p1, p2, p3⟩ := f3.there
    have inS := K3.suite p1 p3 no nw.loc nw.frm
    have typ : PySem.W.Looks (model X.prog X.w) g3 (typeOf (.ref a)) cls := fun _ _ _ _ kp q => wpAny_typeOf_ref (kp _ _ p1) (p2.1 ▸ q)
    refine wpAny_handleBy_cons (codeAny_handlers_test (ask_cls (X := X) inS hc id rfl ((PySem.W.exm_one K3.kIn typ mt).here ?_))) nofun
    cases b with
    | false => exact go_on hf f3 fun g4 hg ug => tk _ _ ⟨a, B, tI, pins, σ1, H1, cls, d, rfl, J1, nb, (up.trans u3).trans ug, .inr (.inr (hs ▸ hg)), no, os, ag, nope rfl⟩
    | true =>
      obtain ⟨d0, yes1⟩ := yes rfl
      subst d0
      apply codeAny_handlers_suite_as
      refine HandSPX.lands_againZ f3 fun g4 f4 u4 => ?_
      have K4 : Inv X pins σ1 H1 { t1 with heap := g4 } := J1.landed nb f4.1 ((up.trans u3).trans u4) os ag
      obtain ⟨o4, w4, r1, r2, r3⟩ := f4.there
      refine store_ok (X := X.suite a ((a, o4) :: (X.pn ++ pins))) (v := .ref a) (K4.suite r1 r3 no nw.loc nw.frm) hN hi (.inl hln) rfl (fun s5 S5 => ?_) (.inr hln)
      refine wpAny_mono (keep_err (pos' := pos') (Q := SP X pins D .next) hN hi hln hk hly hd1 hd2 K4 no nw r1 r2 r3 (yes1 a no) (fun _ q => q) s5 S5) (fun f s6 q => ?_) fun _ _ z => z
      obtain ⟨rfl, q⟩ := q
      exact q
end
end FR
/-! FrSndM: lists of our own lists. -/
namespace FR
open PySem PySem.Spec PyProof.Rows L2
def Lkd (bs : List Addr) (H H2 : Hp) : Prop := (∀ a, a ∉ bs → H2 a = H a) ∧ ∀ b ∈ bs, ∃ od u, H b = some u ∧ H2 b = some (.frz od u)
def LkP (P : L2.St → Hp → Prop) : L2.St → Hp → Prop := fun σ H => ∃ bs : List Addr, bs.Nodup ∧ (∀ b ∈ bs, ∃ u, H b = some u ∧ Mut (some u)) ∧ ∀ H2, Lkd bs H H2 → P σ H2
theorem ne_mem {b c : Addr} {bs : List Addr} (h : b ∉ bs) (k : c ∈ bs) : c ≠ b := fun z => h (by rw [← z]; exact k)
section
variable {X : Cx} {pins : List (Addr × Obj)} {σ : L2.St} {s : Shared}
theorem lockL : ∀ (bs : List Addr) {H : Hp}, bs.Nodup → (∀ b ∈ bs, ∃ u, H b = some u ∧ Mut (some u)) → Inv X pins σ H s → ∃ H2, Lkd bs H H2 ∧ Inv X pins σ H2 s
  | [], H, _, _, I => ⟨H, ⟨fun _ _ => rfl, fun b h => nomatch h⟩, I⟩
  | b :: bs, H, nd, hm, I => by
    obtain ⟨u, hu, mu⟩ := hm b List.mem_cons_self
    obtain ⟨nb, nd⟩ := List.nodup_cons.mp nd
    obtain ⟨od, I2⟩ := I.lock hu mu
    obtain ⟨H2, ⟨l1, l2⟩, I3⟩ := lockL bs (H := upd H b (.frz od u)) nd (fun c hc => by
      obtain ⟨w, h1, h2⟩ := hm c (List.mem_cons_of_mem _ hc)
      exact ⟨w, by rw [upd_ne (ne_mem nb hc)]; exact h1, h2⟩) I2
    refine ⟨H2, ⟨fun a ha => ?_, fun c hc => ?_⟩, I3⟩
    · rw [List.mem_cons, not_or] at ha
      rw [l1 a ha.2, upd_ne ha.1]
    · rcases List.mem_cons.mp hc with rfl | hc
      · exact ⟨od, u, hu, by rw [l1 _ nb, upd_same]⟩
      · obtain ⟨od2, w, h1, h2⟩ := l2 c hc
        rw [upd_ne (ne_mem nb hc)] at h1
        exact ⟨od2, w, h1, h2⟩
theorem psLk {st : Stmt} {t : TS} (h : PS X st t) : PS X st (fun D σ H => t { D with nx := LkP D.nx } σ H) := ⟨fun pins s σ H D I q =>
  thn (h.run pins s σ H _ I q) fun f s' hf => by
    cases f with
    | next =>
      obtain ⟨σ', H', I', bs, nd, hm, q'⟩ := hf
      obtain ⟨H2, l, I2⟩ := lockL bs nd hm I'
      exact ⟨σ', H2, I2, q' H2 l⟩
    | brk => exact hf
    | cont => exact hf
    | ret u => exact hf⟩
theorem psUl {st : Stmt} {t : TS} (h : PS X st t) : PS X st (fun D σ H => ∃ d od u, H d = some (.frz od u) ∧ (∀ o' u', X.H_0 d ≠ some (.frz o' u')) ∧ t D σ (upd H d u)) := ⟨fun pins s σ H D I ⟨d, od, u, hd, hn, q⟩ =>
  h.run pins s σ _ D (I.unlock hd hn) q⟩
def Unl (bs : List Addr) (H H2 : Hp) : Prop := (∀ a, a ∉ bs → H2 a = H a) ∧ ∀ b ∈ bs, ∃ od u, H b = some (.frz od u) ∧ H2 b = some u
theorem unlockL : ∀ (bs : List Addr) {H H2 : Hp}, bs.Nodup → Unl bs H H2 → (∀ b ∈ bs, ∀ o' u', X.H_0 b ≠ some (.frz o' u')) → Inv X pins σ H s → Inv X pins σ H2 s
  | [], H, H2, _, ⟨l1, _⟩, _, I => by
    have : H2 = H := funext fun a => l1 a (fun h => nomatch h)
    rw [this]
    exact I
  | b :: bs, H, H2, nd, ⟨l1, l2⟩, hn, I => by
    obtain ⟨nb, nd⟩ := List.nodup_cons.mp nd
    obtain ⟨od, u, h1, h2⟩ := l2 b List.mem_cons_self
    refine unlockL bs (H := upd H b u) nd ⟨fun a ha => ?_, fun c hc => ?_⟩ (fun c hc => hn c (List.mem_cons_of_mem _ hc)) (I.unlock h1 (hn b List.mem_cons_self))
    · by_cases e : a = b
      · rw [e, h2, upd_same]
      · rw [upd_ne e, l1 a (by rw [List.mem_cons, not_or]; exact ⟨e, ha⟩)]
    · obtain ⟨od2, w, q1, q2⟩ := l2 c (List.mem_cons_of_mem _ hc)
      exact ⟨od2, w, by rw [upd_ne (ne_mem nb hc)]; exact q1, q2⟩
theorem pss_ulL {sts : List Stmt} {t : TS} (h : PSs X sts t) : PSs X sts (fun D σ H => t D σ H ∨ ∃ bs H2, bs.Nodup ∧ Unl bs H H2 ∧ (∀ b ∈ bs, ∀ o' u', X.H_0 b ≠ some (.frz o' u')) ∧ t D σ H2) := ⟨fun pins s σ H D I q => by
  rcases q with q | ⟨bs, H2, nd, u, hn, q⟩
  · exact h.run pins s σ H D I q
  · exact h.run pins s σ H2 D (unlockL bs nd u hn I) q⟩
end

section
variable {Z : Gd} {H0 : Ent} {H Sh : Hp} {σ : L2.St} {g : G} {s : S}
theorem noN_at {g : G} (h : noN g = true) {j : Nat} {x : Sl} (e : g[j]? = some x) : x.isN = false := by
  have := List.all_eq_true.mp h x (List.mem_of_getElem? e)
  simpa using this
theorem NIn.mem : ∀ {dss : List (List D)} {bs : List Addr}, NIn Z H Sh H0 dss bs → ∀ b ∈ bs, Sh b = none ∧ some b ≠ Z.T ∧ H0.H b = none ∧ ∃ od vs, H b = some (.frz od (.lst vs))
  | _ :: _, _ :: _, ⟨⟨h1, h2, h3, _, od, vs, h5, _⟩, h7⟩, b, hb => by
    rcases List.mem_cons.mp hb with rfl | hb
    · exact ⟨h1, h2, h3, od, vs, h5⟩
    · exact h7.mem b hb
  | [], [], _, b, hb => nomatch hb
theorem NIn.nodup : ∀ {dss : List (List D)} {bs : List Addr}, NIn Z H Sh H0 dss bs → bs.Nodup
  | _ :: _, _ :: _, ⟨⟨_, _, _, h4, _⟩, h7⟩ => List.nodup_cons.mpr ⟨h4, h7.nodup⟩
  | [], [], _ => List.nodup_nil
theorem NIn.get : ∀ {dss : List (List D)} {bs : List Addr} {k : Nat} {ds : List D}, NIn Z H Sh H0 dss bs → dss[k]? = some ds → ∃ b od vs, bs[k]? = some b ∧ H b = some (.frz od (.lst vs)) ∧ RepL Z Sh ds vs
  | _ :: _, b :: _, 0, ds, ⟨⟨_, _, _, _, od, vs, h5, h6⟩, _⟩, e => by
    cases e
    exact ⟨b, od, vs, rfl, h5, h6⟩
  | _ :: _, _ :: _, k + 1, ds, ⟨_, h7⟩, e => by
    obtain ⟨b, od, vs, q⟩ := NIn.get (k := k) h7 e
    exact ⟨b, od, vs, q⟩
  | [], [], k, ds, _, e => by cases e
/-- one of them changed -/
theorem NIn.set {b : Addr} {od : Obj} {vs : List V} {es : List D} (hh : RepL Z Sh es vs) : ∀ {dss : List (List D)} {bs : List Addr} {k : Nat}, NIn Z H Sh H0 dss bs → bs[k]? = some b → NIn Z (upd H b (.frz od (.lst vs))) Sh H0 (dss.set k es) bs
  | _ :: dss, c :: bs, 0, ⟨⟨h1, h2, h3, h4, od', vs', h5, h6⟩, h7⟩, e => by
    cases e
    exact ⟨⟨h1, h2, h3, h4, od, vs, upd_same, hh⟩, by
      exact nin_out h7 fun c hc => ne_mem h4 hc⟩
  | _ :: dss, c :: bs, k + 1, ⟨⟨h1, h2, h3, h4, od', vs', h5, h6⟩, h7⟩, e => by
    have hb : b ∈ bs := List.mem_of_getElem? (by simpa using e)
    exact ⟨⟨h1, h2, h3, h4, od', vs', by rw [upd_ne (ne_mem h4 hb).symm]; exact h5, h6⟩, NIn.set hh h7 (by simpa using e)⟩
  | [], [], k, _, e => by cases e
where nin_out : ∀ {dss : List (List D)} {bs : List Addr}, NIn Z H Sh H0 dss bs → (∀ c ∈ bs, c ≠ b) → NIn Z (upd H b (.frz od (.lst vs))) Sh H0 dss bs
  | [], [], _, _ => trivial
  | _ :: _, c :: bs, ⟨⟨h1, h2, h3, h4, od', vs', h5, h6⟩, h7⟩, n => ⟨⟨h1, h2, h3, h4, od', vs', by rw [upd_ne (n c List.mem_cons_self)]; exact h5, h6⟩, nin_out h7 fun d hd => n d (List.mem_cons_of_mem _ hd)⟩
/-- the slot of our own lists is let alone; one of them may be told otherwise -/
theorem Ok.unN (k : Ok Z H0 σ g H Sh s) {i : Nat} {b : Addr} {o : HO} {od : Obj} {u : HO} (hN : noN (g.set i .un) = true) (h1 : Sh b = none) (h2 : some b ≠ Z.T) (h3 : H0.H b = none) (h4 : H b = some (.frz od u)) :
    Ok Z H0 σ (g.set i .un) (upd H b o) Sh s where
  ent := k.ent.upd1 h1 h2 h3
  len := by rw [List.length_set]; exact k.len
  slot := fun j y p e1 e2 => by
    have hy := noN_at hN e1
    by_cases hj : j = i
    · subst hj
      have hl : j < g.length := by
        have := (List.getElem?_eq_some_iff.mp e1).1
        rwa [List.length_set] at this
      rw [List.getElem?_set_self hl] at e1
      cases e1
      trivial
    · rw [List.getElem?_set_ne (Ne.symm hj)] at e1
      have q := k.slot j y p e1 e2
      cases y with
      | un => trivial
      | dat d => exact q
      | own ds =>
        obtain ⟨c, vs, e5, q1, q2, q3, q4, q5⟩ := q
        exact ⟨c, vs, e5, q1, q2, q3, by rw [upd_ne fun z => by rw [z, h4] at q4; cases q4]; exact q4, q5⟩
      | ownD ds =>
        obtain ⟨c, vs, e5, q1, q2, q3, q4, q5⟩ := q
        exact ⟨c, vs, e5, q1, q2, q3, by rw [upd_ne fun z => by rw [z, h4] at q4; cases q4]; exact q4, q5⟩
      | lkD ds => exact q
      | ownN _ => cases hy
  dist := fun j l y z p e1 e2 y1 z1 e3 e4 => by
    have key : ∀ {j : Nat} {y : Sl}, (g.set i .un)[j]? = some y → isOwn y = true → g[j]? = some y := fun {j y} e h => by
      by_cases hj : j = i
      · subst hj
        have hl : j < g.length := by
          have := (List.getElem?_eq_some_iff.mp e).1
          rwa [List.length_set] at this
        rw [List.getElem?_set_self hl] at e
        cases e
        cases h
      · rw [List.getElem?_set_ne (Ne.symm hj)] at e
        exact e
    exact k.dist j l y z p (key e1 y1) (key e2 z1) y1 z1 e3 e4
/-- our own lists again -/
theorem Ok.putN {i : Nat} {a b : Addr} {o : HO} {dss : List (List D)} (k : Ok Z H0 σ (g.set i .un) H Sh s) (hN : noN (g.set i .un) = true) (es : σ[i]? = some (some (.ref a)))
    (na : ∀ (j : Nat) (y : Sl), j ≠ i → g[j]? = some y → isOwn y = true → σ[j]? ≠ some (some (.ref a))) (nb : ∀ (j : Nat) (y : Sl), j ≠ i → g[j]? = some y → isOwn y = true → σ[j]? ≠ some (some (.ref b)))
    (h1 : Sh b = none) (h2 : some b ≠ Z.T) (h3 : H0.H b = none) (hs : SlOk Z (upd H b o) Sh H0 (.ownN dss) (some (.ref a))) : Ok Z H0 σ (g.set i (.ownN dss)) (upd H b o) Sh s where
  ent := k.ent.upd1 h1 h2 h3
  len := by have := k.len; rw [List.length_set] at this ⊢; exact this
  slot := fun j y p e1 e2 => by
    by_cases hj : j = i
    · subst hj
      have hl : j < g.length := by
        have := (List.getElem?_eq_some_iff.mp e1).1
        rwa [List.length_set] at this
      rw [List.getElem?_set_self hl] at e1
      cases e1
      rw [es] at e2
      cases e2
      exact hs
    · rw [List.getElem?_set_ne (Ne.symm hj)] at e1
      have e1' : (g.set i .un)[j]? = some y := by rw [List.getElem?_set_ne (Ne.symm hj)]; exact e1
      have hy := noN_at hN e1'
      have q := k.slot j y p e1' e2
      have nd : ∀ c, p = some (.ref c) → isOwn y = true → c ≠ b := fun c ec hy z => by
        subst z ec
        exact nb j y hj e1 hy e2
      cases y with
      | un => trivial
      | dat d => exact q
      | own ds =>
        obtain ⟨c, vs, e5, q1, q2, q3, q4, q5⟩ := q
        exact ⟨c, vs, e5, q1, q2, q3, by rw [upd_ne (nd c e5 rfl)]; exact q4, q5⟩
      | ownD ds =>
        obtain ⟨c, vs, e5, q1, q2, q3, q4, q5⟩ := q
        exact ⟨c, vs, e5, q1, q2, q3, by rw [upd_ne (nd c e5 rfl)]; exact q4, q5⟩
      | lkD ds => exact q
      | ownN _ => cases hy
  dist := fun j l y z p e1 e2 y1 z1 e3 e4 => by
    by_cases hj : j = i
    · by_cases hl : l = i
      · rw [hj, hl]
      · exfalso
        rw [List.getElem?_set_ne (Ne.symm hl)] at e2
        rw [hj, es] at e3
        cases e3
        exact na l z hl e2 z1 e4
    · rw [List.getElem?_set_ne (Ne.symm hj)] at e1
      by_cases hl : l = i
      · exfalso
        rw [hl, es] at e4
        cases e4
        exact na j y hj e1 y1 e3
      · rw [List.getElem?_set_ne (Ne.symm hl)] at e2
        exact k.dist j l y z p (by rw [List.getElem?_set_ne (Ne.symm hj)]; exact e1) (by rw [List.getElem?_set_ne (Ne.symm hl)]; exact e2) y1 z1 e3 e4
/-- new objects are locked -/
theorem Ok.lkL (k : Ok Z H0 σ g H Sh s) {bs : List Addr} {H2 : Hp} (hN : noN g = true) (l : Lkd bs H H2) (hb : ∀ b ∈ bs, Sh b = none ∧ some b ≠ Z.T ∧ H0.H b = none ∧ ∀ (j : Nat) (y : Sl), g[j]? = some y → isOwn y = true → σ[j]? ≠ some (some (.ref b))) : Ok Z H0 σ g H2 Sh s where
  ent := by
    have out : ∀ {a : Addr}, (Sh a ≠ none ∨ H0.H a ≠ none ∨ some a = Z.T) → H2 a = H a := fun {a} h => l.1 a fun ha => by
      obtain ⟨h1, h2, h3, _⟩ := hb a ha
      rcases h with h | h | h
      · exact h h1
      · exact h h3
      · exact h2 h
    refine ⟨fun a o hT q => ?_, k.ent.shs, fun a o q => ?_, ?_, k.ent.new⟩
    · rw [out (.inr (.inl (by rw [q]; simp)))]
      exact k.ent.frame a o hT q
    · rw [out (.inl (by rw [q]; simp))]
      exact k.sub a o q
    · have t := k.town
      unfold TownOk at t ⊢
      split at t
      · trivial
      · rename_i a n eT
        rw [out (.inr (.inr eT.symm))]
        exact t
      · exact t
  len := k.len
  slot := fun j y p e1 e2 => by
    have hy := noN_at hN e1
    have q := k.slot j y p e1 e2
    have nd : ∀ c, p = some (.ref c) → isOwn y = true → H2 c = H c := fun c ec hy => l.1 c fun hc => (hb c hc).2.2.2 j y e1 hy (by rw [e2, ec])
    cases y with
    | un => trivial
    | dat d => exact q
    | own ds =>
      obtain ⟨c, vs, e5, q1, q2, q3, q4, q5⟩ := q
      exact ⟨c, vs, e5, q1, q2, q3, by rw [nd c e5 rfl]; exact q4, q5⟩
    | ownD ds =>
      obtain ⟨c, vs, e5, q1, q2, q3, q4, q5⟩ := q
      exact ⟨c, vs, e5, q1, q2, q3, by rw [nd c e5 rfl]; exact q4, q5⟩
    | lkD ds => exact q
    | ownN _ => cases hy
  dist := k.dist
end
section
variable {Z : Gd} {W : WX} {H0 : Ent} {X : Cx} {st : Stmt} {en : En}
theorem nin_new {H Sh : Hp} : ∀ (ds : List FR.D) (bs : List Addr), bs.length = ds.length → bs.Nodup → (∀ b ∈ bs, Sh b = none ∧ some b ≠ Z.T ∧ H0.H b = none ∧ ∃ od, H b = some (.frz od (.lst []))) → NIn Z H Sh H0 (ds.map fun _ => []) bs
  | [], [], _, _, _ => trivial
  | [], _ :: _, h, _, _ => by cases h
  | _ :: _, [], h, _, _ => by cases h
  | _ :: ds, b :: bs, h, nd, f => by
    obtain ⟨nb, nd⟩ := List.nodup_cons.mp nd
    obtain ⟨h1, h2, h3, od, h4⟩ := f b List.mem_cons_self
    exact ⟨⟨h1, h2, h3, nb, od, [], h4, .nil⟩, nin_new ds bs (by simpa using h) nd fun c hc => f c (List.mem_cons_of_mem _ hc)⟩
theorem tYes_of {σ : L2.St} {H : Hp} {A B : Hp → Prop} (h : A H) : tYes σ H (fun b H => if b = true then A H else B H) := by
  unfold tYes
  simpa using h
theorem town_ne {H Sh : Hp} {s : S} {b : Addr} (t : TownOk Z H Sh s) (h : H b = none) : some b ≠ Z.T := fun z => by
  obtain ⟨_, _, _, h2⟩ := t.there z.symm
  rw [h] at h2
  cases h2
theorem ndl_lc {tgt : Tgt} {ei : G → S → EV FR.D} {i : Nat} {σ : L2.St} {H Sh : Hp} {g : G} {s : S} {D : Ends} (ok : Ok Z H0 σ g H Sh s)
    (h : EvS Z W H0 Sh (rb (ei g s) fun d s => rb (rp (ndlG g i d tgt) s) fun g s => some (.ok (.nx g), s)) D) :
    tLc (tI Z W H0 ei) (gSet Z.K tgt) tYes (tLst tNil) (tsl tgt) σ H (fun v H1 => LkP D.nx (σ.set i (some v)) H1) := by
  refine ⟨g, s, Sh, ok, ?_⟩
  cases q0 : ei g s with
  | none =>
    rw [q0] at h
    exact h.elim
  | some p =>
    obtain ⟨r, s1⟩ := p
    rw [q0] at h
    cases r with
    | exn c => exact fun H' Sh' e => h σ H' Sh' (ok.ent.trans e)
    | ok x =>
      rw [rb_ok] at h
      cases q1 : ndlG g i x tgt with
      | none =>
        rw [q1] at h
        exact h.elim
      | some g2 =>
        rw [q1, rp_some, rb_ok] at h
        unfold ndlG at q1
        obtain ⟨ds, hd, q1⟩ := Option.bind_eq_some_iff.mp q1
        split at q1
        case isFalse => cases q1
        rename_i hc
        obtain ⟨hsz, hN, hset⟩ := hc
        cases q1
        refine ⟨ds, hd, fun J H1 Sh1 e1 wk p hp => ?_⟩
        have ok1 := ok.ext e1
        have okT := ok1.town
        have hSp := same_none e1.sub hp
        refine ⟨fun j m H2 => m = ds.length - j ∧ j ≤ ds.length ∧ ∃ bs : List Addr, bs.length = j ∧ bs.Nodup ∧ Ext Z H1 Sh1 H2 Sh1 s1 ∧ H2 p = some (.lst (bs.map V.ref)) ∧ ∀ b ∈ bs, H1 b = none ∧ b ≠ p ∧ H2 b = some (.lst []),
          ⟨ds.length, by simp, Nat.zero_le _, [], rfl, List.nodup_nil, (Ext.refl e1.sub e1.town).putD okT hp hSp, upd_same, fun b hb => nomatch hb⟩, ?_⟩
        rintro j m H2 ⟨rfl, hi', bs, hl, nd, x2, hD, hB⟩
        obtain ⟨w1, w2⟩ := wk H2 (x2.shs.trans x2.sub)
        by_cases hlt : j < ds.length
        · obtain ⟨go, yl⟩ := w1 j ds[j] (List.getElem?_eq_getElem hlt)
          refine .inr ⟨go, fun H3 => j + 1 ≤ ds.length ∧ ∃ bs : List Addr, bs.length = j + 1 ∧ bs.Nodup ∧ Ext Z H1 Sh1 H3 Sh1 s1 ∧ H3 p = some (.lst (bs.map V.ref)) ∧ ∀ b ∈ bs, H1 b = none ∧ b ≠ p ∧ H3 b = some (.lst []),
            fun H3 h3 => ⟨ds.length - (j + 1), by omega, rfl, h3⟩, fun v H3 hy => ?_⟩
          obtain ⟨rfl, rv⟩ := yl v H3 hy
          have ok2 : Ok Z H0 σ g H3 Sh1 s1 := ok1.ext x2
          obtain ⟨g1, q3⟩ := Option.isSome_iff_exists.mp (List.all_eq_true.mp hset _ (List.getElem_mem hlt))
          refine gSet_wiped ok2 rv q3 fun vs hvs ok3 => ⟨wipe_setV, ?_⟩
          refine tYes_of ?_
          refine ⟨Nat.zero_le _, fun b hb => ?_⟩
          have hbp : b ≠ p := fun z => by
            rw [z, hD] at hb
            cases hb
          have hbs : b ∉ bs := fun z => by
            rw [(hB b z).2.2] at hb
            cases hb
          have hb1 : H1 b = none := x2.nofree okT hb
          refine ⟨bs.map V.ref, by rw [upd_ne hbp.symm]; exact hD, by rw [List.length_map]; exact szLt (by omega), hlt, bs ++ [b], by rw [List.length_append, hl]; rfl, ?_, (x2.trans (Ext.allocH x2.sub x2.town hb _)).putD okT hp hSp, by rw [upd_same, List.map_append]; rfl, fun c hc => ?_⟩
          · rw [List.nodup_append]
            exact ⟨nd, by simp, fun x hx y hy z => by
              rw [List.mem_singleton] at hy
              exact hbs (by rw [← hy, ← z]; exact hx)⟩
          · rcases List.mem_append.mp hc with hc | hc
            · obtain ⟨c1, c2, c3⟩ := hB c hc
              exact ⟨c1, c2, by rw [upd_ne c2, upd_ne (ne_mem hbs hc)]; exact c3⟩
            · rw [List.mem_singleton] at hc
              subst hc
              exact ⟨hb1, hbp, by rw [upd_ne hbp, upd_same]⟩
        · refine .inl ⟨w2 _ (by omega), bs, nd, fun b hb => ⟨_, (hB b hb).2.2, trivial⟩, fun H3 l => ?_⟩
          have nT : ∀ {b : Addr}, H1 b = none → some b ≠ Z.T := fun h => town_ne okT h
          have n0 : ∀ {b : Addr}, H1 b = none → H0.H b = none := fun {b} h => by
            rcases ok1.ent.gone h with z | z
            · exact z
            · exact absurd z (nT h)
          have okF : Ok Z H0 σ g H3 Sh1 s1 := (ok1.ext x2).lkL hN l fun b hb => ⟨same_none e1.sub (hB b hb).1, nT (hB b hb).1, n0 (hB b hb).1, ok1.free (hB b hb).1⟩
          have hp3 : H3 p = some (.lst (bs.map V.ref)) := by
            rw [l.1 p fun z => (hB p z).2.1 rfl]
            exact hD
          refine h _ H3 Sh1 e1.shs (okF.setG (x := .ownN _) ⟨p, bs, rfl, hSp, nT hp, n0 hp, hp3, nin_new ds bs (by omega) nd fun b hb => ⟨same_none e1.sub (hB b hb).1, nT (hB b hb).1, n0 (hB b hb).1, ?_⟩⟩ (ok1.free hp))
          obtain ⟨od, u, h1, h2⟩ := l.2 b hb
          rw [(hB b hb).2.2] at h1
          cases h1
          exact ⟨od, h2⟩
theorem lkd1 {b : Addr} {H H2 : Hp} {u : HO} (hb : H b = some u) (l : Lkd [b] H H2) : ∃ od, H2 = upd H b (.frz od u) := by
  obtain ⟨od, w, h1, h2⟩ := l.2 b List.mem_cons_self
  rw [hb] at h1
  cases h1
  refine ⟨od, funext fun a => ?_⟩
  by_cases e : a = b
  · rw [e, h2, upd_same]
  · rw [upd_ne e, l.1 a (by simpa using e)]
theorem upd_upd {H : Hp} {a : Addr} {x y : HO} : upd (upd H a x) a y = upd H a y := funext fun b => by
  by_cases e : b = a
  · rw [e, upd_same, upd_same]
  · rw [upd_ne e, upd_ne e, upd_ne e]
theorem rApl {i j : Nat} {e : CE} {t : TS} (hX : ∀ a o u, X.H_0 a = some (.frz o u) → H0.H a ≠ none) (h : PS X st t)
    (ht : ∀ D σ H, (∃ a b bs k xs, σ[i]? = some (some (.ref a)) ∧ σ[j]? = some (some (.int k)) ∧ H a = some (.lst bs) ∧ 0 ≤ k ∧ bs[k.toNat]? = some (.ref b) ∧ H b = some (.lst xs) ∧
      tV Z W H0 (evE en e) σ H fun y H1 => H1 b = some (.lst xs) ∧ (xs.length < SZ → xs.length < sizeLine) ∧ xs.length < SZ ∧ D.nx σ (upd H1 b (.lst (xs ++ [y])))) → t D σ H) :
    PS X st (tS Z W H0 fun g s => match aplB g i j with
      | some (dss, k) => rb (evE en e (g.set i .un) s) fun d s => rb (rp (aplF dss k d) s) fun dss s => some (.ok (.nx (g.set i (.ownN dss))), s)
      | none => none) :=
  psW (psUl (psLk h)) fun D σ H ⟨g, s, Sh, ok, h⟩ => by
    dsimp only at h
    cases q : aplB g i j with
    | none =>
      rw [q] at h
      exact h.elim
    | some p =>
      obtain ⟨dss, k⟩ := p
      rw [q] at h
      dsimp only at h
      unfold aplB at q
      split at q
      case h_2 => cases q
      rename_i dss' z gi rj
      split at q
      case isFalse => cases q
      rename_i hc
      cases q
      obtain ⟨h0, hk, hN⟩ := hc
      obtain ⟨o, es, a, bs, rfl, a1, a2, a3, a4, nin⟩ := ok.get gi
      obtain ⟨vj, ej, rj2⟩ := ok.rd rj
      cases rj2
      obtain ⟨b, od, vs, hb, hH, rl⟩ := nin.get (List.getElem?_eq_getElem hk)
      obtain ⟨b1, b2, b3, _⟩ := nin.mem b (List.mem_of_getElem? hb)
      have hba : b ≠ a := fun z => by
        rw [z, a4] at hH
        cases hH
      have okU := ok.unN (o := .lst vs) hN b1 b2 b3 hH
      refine ⟨b, od, _, hH, fun o' u' z => hX _ _ _ z b3, ht _ σ _ ⟨a, b, bs.map V.ref, z, vs, es, ej, by rw [upd_ne hba.symm]; exact a4, h0, by rw [List.getElem?_map, hb]; rfl, upd_same, _, s, Sh, okU, ?_⟩⟩
      refine EvS.bind okU h fun d s' v H' Sh' x r h2 => ?_
      have hb' : H' b = some (.lst vs) := x.frame b _ b2 upd_same
      cases q2 : aplF dss z.toNat d with
      | none =>
        rw [q2] at h2
        exact h2.elim
      | some dss2 =>
        rw [q2, rp_some, rb_ok] at h2
        unfold aplF at q2
        obtain ⟨ds, e3, q2⟩ := Option.bind_eq_some_iff.mp q2
        have ed : ds = dss[z.toNat] := by
          rw [List.getElem?_eq_getElem hk] at e3
          cases e3
          rfl
        split at q2
        case isFalse => cases q2
        rename_i hlen
        cases q2
        have hl : vs.length < SZ := by
          rw [← rl.length, ← ed]
          exact hlen
        refine ⟨hb', szLt, hl, [b], by simp, fun c hc => ?_, fun H4 l => ?_⟩
        · rw [List.mem_singleton] at hc
          subst hc
          exact ⟨_, upd_same, trivial⟩
        · obtain ⟨od2, rfl⟩ := lkd1 upd_same l
          rw [upd_upd]
          have sb : Sh' b = none := by
            cases q5 : Sh' b with
            | none => rfl
            | some o =>
              rcases x.new b o q5 with z | z
              · rw [b1] at z
                cases z
              · rw [upd_same] at z
                cases z
          have sa : Sh' a = none := by
            cases q5 : Sh' a with
            | none => rfl
            | some o =>
              rcases x.new a o q5 with z | z
              · rw [a1] at z
                cases z
              · rw [upd_ne hba.symm, a4] at z
                cases z
          have ha' : H' a = some (.lst (bs.map V.ref)) := x.frame a _ a2 (by rw [upd_ne hba.symm]; exact a4)
          refine h2 σ _ Sh' x.shs ((okU.ext x).putN hN es (fun l y hl e1 y1 e2 => hl (ok.dist l i y _ _ e1 gi y1 rfl e2 es)) (fun l y hl e1 y1 e2 => ?_) sb b2 b3 ⟨a, bs, rfl, sa, a2, a3, by rw [upd_ne hba.symm]; exact ha', ?_⟩)
          · obtain ⟨o1, w1, w2⟩ := ok.atOwn e1 y1 e2
            exact lsd_ne w1 w2 hH rfl
          · -- the others as they were
            have n1 : NIn Z (upd H' b (.frz od (.lst vs))) Sh' H0 dss bs := nin.mv (fun c odc vc w1 w2 w3 w4 => by
              refine ⟨?_, w3, ?_⟩
              · by_cases e : c = b
                · rw [e]
                  exact sb
                · cases q5 : Sh' c with
                  | none => rfl
                  | some o =>
                    rcases x.new c o q5 with z | z
                    · rw [w1] at z
                      cases z
                    · rw [upd_ne e, w4] at z
                      cases z
              · by_cases e : c = b
                · rw [e] at w4 ⊢
                  rw [upd_same, ← hH, w4]
                · rw [upd_ne e]
                  exact x.frame c _ w2 (by rw [upd_ne e]; exact w4)) fun ds vs r => r.mono x.shs
            have n2 := n1.set (b := b) (od := od2) (vs := vs ++ [v]) (es := ds ++ [d]) (by
              rw [ed]
              exact (rl.mono x.shs).snoc r) hb
            rw [upd_upd] at n2
            exact n2
/-- our own lists shared from now on -/
theorem Ok.shareN {σ : L2.St} {g : G} {H Sh : Hp} {s : S} (k : Ok Z H0 σ g H Sh s) {i : Nat} {dss : List (List FR.D)} (e : g[i]? = some (.ownN dss)) (hN : noN (g.set i .un) = true) :
    ∃ bs H2 Sh2, bs.Nodup ∧ Unl bs H H2 ∧ (∀ b ∈ bs, H0.H b = none) ∧ Ok Z H0 σ (g.set i (.dat (.lst (dss.map FR.D.lst)))) H2 Sh2 s ∧ Same Sh Sh2 := by
  obtain ⟨o, es, a, bs, rfl, a1, a2, a3, a4, nin⟩ := k.get e
  have hl : i < g.length := (List.getElem?_eq_some_iff.mp e).1
  let H2 : Hp := fun c => if c ∈ bs then (match H c with | some (.frz _ u) => some u | x => x) else H c
  let Sh2 : Hp := fun c => if c ∈ bs ∨ c = a then H2 c else Sh c
  have out : ∀ {c : Addr}, c ∉ bs → H2 c = H c := fun h => if_neg h
  have inn : ∀ {c : Addr} {od : Obj} {vs : List V}, c ∈ bs → H c = some (.frz od (.lst vs)) → H2 c = some (.lst vs) := fun {c od vs} h e => by
    show (if c ∈ bs then _ else _) = _
    rw [if_pos h, e]
  have hab : a ∉ bs := fun z => by
    obtain ⟨_, _, _, od, vs, w⟩ := nin.mem a z
    rw [a4] at w
    cases w
  have shb : ∀ {c : Addr}, (c ∈ bs ∨ c = a) → Sh2 c = H2 c ∧ Sh c = none ∧ some c ≠ Z.T ∧ H0.H c = none := fun {c} h => ⟨if_pos h, by
    rcases h with h | rfl
    · obtain ⟨w1, w2, w3, _⟩ := nin.mem c h
      exact ⟨w1, w2, w3⟩
    · exact ⟨a1, a2, a3⟩⟩
  have sho : ∀ {c : Addr}, ¬(c ∈ bs ∨ c = a) → Sh2 c = Sh c := fun h => if_neg h
  have same : Same Sh Sh2 := fun c o q => by
    by_cases h : c ∈ bs ∨ c = a
    · rw [(shb h).2.1] at q
      cases q
    · rw [sho h]
      exact q
  have rl : ∀ {dss : List (List FR.D)} {cs : List Addr}, (∀ c ∈ cs, c ∈ bs) → NIn Z H Sh H0 dss cs → RepL Z Sh2 (dss.map FR.D.lst) (cs.map V.ref) := fun {dss} => by
    induction dss with
    | nil =>
      intro cs hc n
      cases cs with
      | nil => exact .nil
      | cons _ _ => exact n.elim
    | cons ds dss ih =>
      intro cs hc n
      cases cs with
      | nil => exact n.elim
      | cons c cs =>
        obtain ⟨⟨_, _, _, _, od, vs, h5, h6⟩, h7⟩ := n
        have hm := hc c List.mem_cons_self
        exact .cons (.lst (by rw [(shb (.inl hm)).1]; exact inn hm h5) (h6.mono same)) (ih (fun d hd => hc d (List.mem_cons_of_mem _ hd)) h7)
  refine ⟨bs, H2, Sh2, nin.nodup, ⟨fun c hc => out hc, fun b hb => ?_⟩, fun b hb => (nin.mem b hb).2.2.1, ⟨⟨fun c o hT q => ?_, k.ent.shs.trans same, fun c o q => ?_, ?_, fun c o q => ?_⟩, by rw [List.length_set]; exact k.len, fun j y p e1 e2 => ?_, fun j l y z p e1 e2 y1 z1 e3 e4 => ?_⟩, same⟩
  · obtain ⟨_, _, _, od, vs, w⟩ := nin.mem b hb
    exact ⟨od, _, w, inn hb w⟩
  · rw [out fun z => by rw [(nin.mem c z).2.2.1] at q; cases q]
    exact k.ent.frame c o hT q
  · by_cases h : c ∈ bs ∨ c = a
    · rw [(shb h).1] at q
      exact q
    · rw [sho h] at q
      rw [out fun z => h (.inl z)]
      exact k.sub c o q
  · have t := k.town
    unfold TownOk at t ⊢
    split at t
    · trivial
    · rename_i b n eT
      have h : ¬(b ∈ bs ∨ b = a) := fun z => (shb z).2.2.1 eT.symm
      rw [sho h, out fun z => h (.inl z)]
      exact t
    · exact t
  · by_cases h : c ∈ bs ∨ c = a
    · exact .inr (shb h).2.2.2
    · rw [sho h] at q
      exact k.ent.new c o q
  · by_cases hj : j = i
    · subst hj
      rw [List.getElem?_set_self hl] at e1
      cases e1
      rw [es] at e2
      cases e2
      exact ⟨_, rfl, .lst (by rw [(shb (.inr rfl)).1, out hab]; exact a4) (rl (fun c h => h) nin)⟩
    · rw [List.getElem?_set_ne (Ne.symm hj)] at e1
      have hy := noN_at hN (j := j) (x := y) (by rw [List.getElem?_set_ne (Ne.symm hj)]; exact e1)
      have q := k.slot j y p e1 e2
      have nd : ∀ c, p = some (.ref c) → isOwn y = true → ¬(c ∈ bs ∨ c = a) := fun c ec hy z => by
        subst ec
        rcases z with z | rfl
        · obtain ⟨o1, w1, w2⟩ := k.atOwn e1 hy e2
          obtain ⟨_, _, _, od, vs, w⟩ := nin.mem c z
          exact lsd_ne w1 w2 w rfl
        · exact hj (k.dist j i y _ _ e1 e hy rfl e2 es)
      cases y with
      | un => trivial
      | dat d2 =>
        obtain ⟨v, e5, r5⟩ := q
        exact ⟨v, e5, r5.mono same⟩
      | own ds =>
        obtain ⟨b, vs, e5, q1, q2, q3, q4, q5⟩ := q
        have n := nd b e5 rfl
        exact ⟨b, vs, e5, by rw [sho n]; exact q1, q2, q3, by rw [out fun z => n (.inl z)]; exact q4, q5.mono same⟩
      | ownD ds =>
        obtain ⟨b, vs, e5, q1, q2, q3, q4, q5⟩ := q
        have n := nd b e5 rfl
        exact ⟨b, vs, e5, by rw [sho n]; exact q1, q2, q3, by rw [out fun z => n (.inl z)]; exact q4, q5.mono same⟩
      | lkD ds =>
        obtain ⟨b, od, vs, e5, q1, q2, q3, q4, q5⟩ := q
        exact ⟨b, od, vs, e5, same _ _ q1, q2, q3, q4, q5.mono same⟩
      | ownN _ => cases hy
  · have na : ∀ {b : Nat} {x : Sl}, (g.set i (Sl.dat (.lst (dss.map FR.D.lst))))[b]? = some x → isOwn x = true → b ≠ i := fun {b x} e h z => by
      subst z
      rw [List.getElem?_set_self hl] at e
      cases e
      cases h
    have n1 := na e1 y1
    have n2 := na e2 z1
    rw [List.getElem?_set_ne (Ne.symm n1)] at e1
    rw [List.getElem?_set_ne (Ne.symm n2)] at e2
    exact k.dist j l y z p e1 e2 y1 z1 e3 e4
theorem rShn {i : Nat} {sts : List Stmt} {f : G → S → EV Fl} (hX : ∀ a o u, X.H_0 a = some (.frz o u) → H0.H a ≠ none) (h : PSs X sts (tS Z W H0 f)) : PSs X sts (tS Z W H0 fun g s => f (shnG g i) s) :=
  pssW (pss_ulL h) fun D σ H ⟨g, s, Sh, ok, h⟩ => by
    dsimp only at h
    unfold shnG at h
    split at h
    · rename_i dss q
      split at h
      · rename_i hN
        obtain ⟨bs, H2, Sh2, nd, u, hb, k2, sm⟩ := ok.shareN q hN
        exact .inr ⟨bs, H2, nd, u, fun b hm o' u' z => hX _ _ _ z (hb b hm), _, s, Sh2, k2, EvS.mono h sm⟩
      · exact .inl ⟨g, s, Sh, ok, h⟩
    · exact .inl ⟨g, s, Sh, ok, h⟩
end
end FR
/-! FrSnd12: the theorem for statements, for defs. -/
namespace FR
open PySem PySem.Spec PyProof.Rows L2
section
variable {tb : Tb} {k : Nat} {Z : Gd} {H0 : Ent} {N : List Str}
/-- a def's body: the context -/
structure Bd (tb : Tb) (k : Nat) (Z : Gd) (H0 : Ent) (N : List Str) (sc : Scope) (X : Cx) (W : WX) : Prop where
  gr : Gr tb k Z X
  so : ScOk sc X
  tk : Takes X W
  po : PassesOwn (model X.prog X.w) X.A X.env X.xe
  hN : X.N = N
  fk : X.env.scope.kind = .function
  ex : X.ex = []
  hs : X.stack = X.env :: X.outer
  hf : X.env.frame = some X.env.locals
  hX : ∀ a o u, X.H_0 a = some (.frz o u) → H0.H a ≠ none
theorem isL_lst {en : En} {es : CEs} : isL (evE en (.lst es)) := isL_bind (o := evEs en es) (f := fun _ ds s => if ds.length ≤ SZ then some (.ok (.lst ds), s) else none) fun g ds s d s' e => by
  split at e
  · cases e
    exact ⟨_, rfl⟩
  · cases e
theorem isDc_0 {en : En} : isDc (evE en .dct0) := fun g s d s' e => by
  cases e
  exact ⟨_, rfl⟩
theorem dict_ev {en : En} {a : CE} {g : G} {s : S} : evE en (.bif .dict (.cons a .nil)) g s = rb (evE en a g s) fun d s => rp (dictD d s) s := by
  show rb (rb (evE en a g s) fun d s => rb (some (.ok [], s)) fun ds s => some (.ok (d :: ds), s)) (fun ds s => rp (bifD .dict ds s) s) = _
  rw [rb_rb]
  rfl
theorem sorted_ev {en : En} {a : CE} {g : G} {s : S} : evE en (.bif .sorted (.cons a .nil)) g s = rb (evE en a g s) fun d s => rp (sortedD d s) s := by
  show rb (rb (evE en a g s) fun d s => rb (some (.ok [], s)) fun ds s => some (.ok (d :: ds), s)) (fun ds s => rp (bifD .sorted ds s) s) = _
  rw [rb_rb]
  rfl
theorem list_ev {en : En} {a : CE} {g : G} {s : S} : evE en (.bif .list (.cons a .nil)) g s = rb (evE en a g s) fun d s => rp (listD d s) s := by
  show rb (rb (evE en a g s) fun d s => rb (some (.ok [], s)) fun ds s => some (.ok (d :: ds), s)) (fun ds s => rp (bifD .list ds s) s) = _
  rw [rb_rb]
  rfl
theorem mul_ev {en : En} {es : CEs} {b : CE} {g : G} {s : S} : evE en (.bin .mul (.lst es) b) g s = rb (evE en (.lst es) g s) fun x s => rb (evE en b g s) fun y s => rp (mulL x y) s := by
  show rb (evE en (.lst es) g s) (fun x s => rb (evE en b g s) fun y s => rp (mulD x y) s) = _
  cases q : evE en (.lst es) g s with
  | none => rfl
  | some p =>
    obtain ⟨r, s1⟩ := p
    cases r with
    | exn c => rfl
    | ok d =>
      obtain ⟨ds, rfl⟩ := isL_lst g s d s1 q
      rw [rb_ok, rb_ok]
      congr 1
      funext y s
      cases y <;> rfl
theorem isL_mul {en : En} {es : CEs} {b : CE} : isL (evE en (.bin .mul (.lst es) b)) := fun g s d s' e => by
  rw [mul_ev] at e
  cases q : evE en (.lst es) g s with
  | none => rw [q] at e; cases e
  | some p =>
    obtain ⟨r, s1⟩ := p
    rw [q] at e
    cases r with
    | exn c => cases e
    | ok x =>
      rw [rb_ok] at e
      cases q2 : evE en b g s1 with
      | none => rw [q2] at e; cases e
      | some p =>
        obtain ⟨r, s2⟩ := p
        rw [q2] at e
        cases r with
        | exn c => cases e
        | ok y =>
          rw [rb_ok] at e
          cases q3 : mulL x y with
          | none => rw [q3] at e; cases e
          | some z =>
            rw [q3] at e
            cases e
            unfold mulL at q3
            split at q3
            · split at q3
              · cases q3
                exact ⟨_, rfl⟩
              · cases q3
            · cases q3
theorem isL_of1 {f : D → S → Option D} (hf : ∀ d s e, f d s = some e → ∃ ds, e = .lst ds) {ev : G → S → EV D} {ea : G → S → EV D} (he : ∀ g s, ev g s = rb (ea g s) fun d s => rp (f d s) s) : isL ev := fun g s d s' e => by
  rw [he] at e
  cases q : ea g s with
  | none =>
    rw [q] at e
    cases e
  | some p =>
    obtain ⟨r, s1⟩ := p
    rw [q] at e
    cases r with
    | exn c => cases e
    | ok x =>
      rw [rb_ok] at e
      cases q2 : f x s1 with
      | none =>
        rw [q2] at e
        cases e
      | some y =>
        rw [q2] at e
        cases e
        exact hf _ _ _ q2
theorem sortedD_l (d : D) (s : S) (e : D) (h : sortedD d s = some e) : ∃ ds, e = .lst ds := by
  unfold sortedD at h
  split at h
  · unfold sortedL at h
    split at h
    · split at h
      · cases h
        exact ⟨_, rfl⟩
      · cases h
    · split at h
      · split at h
        · cases h
          exact ⟨_, rfl⟩
        · cases h
      · cases h
  · obtain ⟨ks, _, _, rfl⟩ := keySort_eq h
    exact ⟨_, rfl⟩
  · cases h
theorem listD_l (d : D) (s : S) (e : D) (h : listD d s = some e) : ∃ ds, e = .lst ds := by
  unfold listD at h
  split at h
  · cases h
    exact ⟨_, rfl⟩
  · cases h
    exact ⟨_, rfl⟩
  · split at h
    · cases h
      exact ⟨_, rfl⟩
    · cases h
  · cases h
theorem isDc_d {en : En} {a : CE} : isDc (evE en (.bif .dict (.cons a .nil))) := fun g s d s' e => by
  rw [dict_ev] at e
  cases q : evE en a g s with
  | none =>
    rw [q] at e
    cases e
  | some p =>
    obtain ⟨r, s1⟩ := p
    rw [q] at e
    cases r with
    | exn c => cases e
    | ok x =>
      rw [rb_ok] at e
      cases q2 : dictD x s1 with
      | none =>
        rw [q2] at e
        cases e
      | some y =>
        rw [q2] at e
        cases e
        unfold dictD at q2
        split at q2
        · obtain ⟨ps, _, e3⟩ := Option.bind_eq_some_iff.mp q2
          split at e3
          · cases e3
            exact ⟨_, rfl⟩
          · cases e3
        · cases q2
          exact ⟨_, rfl⟩
        · cases q2
theorem nameIs_eq {sc : Scope} {i : Nat} {t : Expr} (h : nameIs N sc i t = true) : ∃ x p, t = .Name x p ∧ N[i]? = some x ∧ locB sc x = true := by
  unfold nameIs at h
  split at h
  · rw [Bool.and_eq_true, decide_eq_true_eq] at h
    exact ⟨_, _, rfl, h.1, h.2⟩
  · cases h
/-- name = an expression: what the rule of the statement asks -/
theorem asgT {X : Cx} {W : WX} {sc : Scope} {i : Nat} {t v : Expr} {p : Pos} {te : TE} (b : Bd tb k Z H0 N sc X W) (ht : nameIs N sc i t = true) (hv : notComp v = true) (h : PE X v te) : PS X (.Assign [t] v p) (tAsg te (gName i)) := by
  obtain ⟨x, px, rfl, h1, h2⟩ := nameIs_eq ht
  obtain ⟨h3, h4⟩ := b.so.lc h2
  exact ps_set b.gr.nd (by rw [b.hN]; exact h1) h3 h (sw_not hv) h4
theorem asgC {X : Cx} {W : WX} {sc : Scope} {i : Nat} {t v : Expr} {p : Pos} {ev : G → S → EV D} (b : Bd tb k Z H0 N sc X W) (ht : nameIs N sc i t = true) (h : CompOk Z W H0 X v ev) :
    ∃ te, PS X (.Assign [t] v p) (tAsg te (gName i)) ∧ ∀ σ H Q, tF Z W H0 ev σ H Q → te σ H Q := by
  obtain ⟨x, px, rfl, h1, h2⟩ := nameIs_eq ht
  obtain ⟨h3, h4⟩ := b.so.lc h2
  obtain ⟨el, t, j, fs, scope, pos, own, wi, g, tt, te, rfl, q1, q2, q3, q4, q5, q6, q7⟩ := h
  obtain ⟨sw, e1, e2⟩ := sw_lc (el := el) (gs := [⟨t, j, fs, 0⟩]) (scope := scope) (pos := pos) (px := px) (x := x) (l := p.line) (env := X.env)
  cases sw with
  | true => exact ⟨_, ps_setLc b.gr.calm b.gr.nd (by rw [b.hN]; exact h1) (e2 rfl) e1 q1 q2 q3 q4 q5 q6, q7⟩
  | false => exact ⟨_, ps_set b.gr.nd (by rw [b.hN]; exact h1) h3 (pe_lc b.gr.calm b.gr.nd q1 q2 q3 q4 q5 q6) e1 h4, q7⟩
theorem compOk_of {c : CE} {X : Cx} {W : WX} {sc : Scope} {v : Expr} (b : Bd tb k Z H0 N sc X W) (h : mtE tb N c sc v = true) (hc : notComp v = false) : ∃ ev, CompOk Z W H0 X v ev ∧ isL ev ∧ ∀ g s, evE (enOf tb k) c g s = ev g s := by
  have nc : ∀ {c : CE}, mtE tb N c sc v = true → (asComp v).isSome = true ∨ True := fun _ => .inr trivial
  cases c with
  | comp tg it ifs elt => exact ⟨_, fCompS (snd it) (snd ifs) (snd elt) b.gr b.so b.tk b.hN h, isL_comp, comp_eq⟩
  | compR tg lo hi ifs elt => exact ⟨_, fCompR (snd lo) (snd hi) (snd ifs) (snd elt) b.gr b.so b.tk b.hN h, isL_comp, compR_eq⟩
  | compK tg it ifs elt => exact ⟨_, fCompK (snd it) (snd ifs) (snd elt) b.gr b.so b.tk b.hN h, isL_comp, compK_eq⟩
  | _ =>
    exfalso
    cases v <;> first | (cases hc; done) | (simp [mtE, asConst, asName, asBin, asUn, asCmp1, asCmp2, asBoolOp, asIf, asTup, asLst, asIdx, asSlc, asRev, asBck, asTwo, asCall, asMth, asCall2, asDict1, asGet2] at h; done) | (simp only [mtE] at h; rw [hc] at h; cases h; done)
theorem rNdl {X : Cx} {W : WX} {sc : Scope} {i : Nat} {tg : Tgt} {it : CE} {t v : Expr} {p : Pos} (b : Bd tb k Z H0 N sc X W) (ht : nameIs N sc i t = true) (h : (mtE tb N (.comp tg it (.cst (.bl true)) (.lst .nil)) sc v && (match asComp v with | some (_, _, _, fs, _) => fs.isEmpty | none => false)) = true) :
    PS X (.Assign [t] v p) (tS Z W H0 fun g s => rb (evE (enOf tb k) it g s) fun d s => rb (rp (ndlG g i d tg) s) fun g s => some (.ok (.nx g), s)) := by
  obtain ⟨x, px, rfl, h1, h2⟩ := nameIs_eq ht
  obtain ⟨h3, h4⟩ := b.so.lc h2
  have hfs := (Bool.and_eq_true_iff.mp h).2
  replace h := (Bool.and_eq_true_iff.mp h).1
  simp only [mtE] at h
  cases q : asComp v with
  | none =>
    rw [q] at h
    cases h
  | some pq =>
    obtain ⟨el, tt, j, fs, scope⟩ := pq
    rw [q] at h hfs
    obtain ⟨pos, rfl⟩ := asComp_eq q
    simp only [Bool.and_eq_true] at h
    obtain ⟨⟨⟨⟨⟨g1, g2⟩, g3⟩, g4⟩, g5⟩, g6⟩ := h
    have hN := b.hN
    subst hN
    have hfs : fs = [] := by simpa using hfs
    subst hfs
    obtain ⟨es, ee, g5⟩ : ∃ xs, asLst el = some xs ∧ xs = [] := by
      cases q5 : asLst el with
      | none => rw [q5] at g5; cases g5
      | some xs =>
        rw [q5] at g5
        exact ⟨xs, rfl, by simpa [mtEs] using g5⟩
    subst g5
    obtain ⟨pe, rfl⟩ := asLst_eq ee
    have hi := sIter (tg := tt) b.gr.hk (snd (H0 := H0) it X sc j W b.gr b.so b.tk rfl g2).1
    obtain ⟨sw, e1, e2⟩ := sw_lc (el := .List [] pe) (gs := [⟨tt, j, [], 0⟩]) (scope := scope) (pos := pos) (px := px) (x := x) (l := p.line) (env := X.env)
    have w1 := blkOk_sc b.so (blkOk_by g4)
    have w2 : ∀ (s : Shared) (H : Hp) (C : Addr) (cl : List (Str × Addr)) (fp : List Addr), PG (X.blk s H scope (compEnvC scope cl C X.env) fp) tt (gSet Z.K tg) := fun s H C cl fp => sTgt (X := X.blk s H scope (compEnvC scope cl C X.env) fp) b.gr.hk b.gr.calm b.gr.nd (scOk_blk scope) rfl g1
    have w3 : ∀ (s : Shared) (H : Hp) (C : Addr) (cl : List (Str × Addr)) (fp : List Addr), PTs (X.blk s H scope (compEnvC scope cl C X.env) fp) [] tYes := fun s H C cl fp => pts_nil
    have w4 : ∀ (s : Shared) (H : Hp) (C : Addr) (cl : List (Str × Addr)) (fp : List Addr), PE (X.blk s H scope (compEnvC scope cl C X.env) fp) (.List [] pe) (tLst tNil) := fun s H C cl fp => pe_lst pa_nil
    have hP : PS X (.Assign [.Name x px] (.ListComp (.List [] pe) [⟨tt, j, [], 0⟩] scope pos) p) (tAsg (tLc (tI Z W H0 (evE (enOf tb k) it)) (gSet Z.K tg) tYes (tLst tNil) ((ownOf X.N tg).map (·.2))) (gName i)) := by
      cases sw with
      | true => exact ps_setLc b.gr.calm b.gr.nd h1 (e2 rfl) e1 hi w1 w2 w3 w4 (fold0 g3 _)
      | false => exact ps_set b.gr.nd h1 h3 (pe_lc b.gr.calm b.gr.nd hi w1 w2 w3 w4 (fold0 g3 _)) e1 h4
    refine psW (psLk hP) fun D σ H ⟨g, s, Sh, ok, h⟩ => ?_
    have := ndl_lc (i := i) ok h
    rw [← own_eq (N := X.N) tg] at this
    exact this
theorem names_loc {X : Cx} {sc : Scope} (so : ScOk sc X) : ∀ {is : List Nat} {ts : List Expr}, namesAre N sc is ts = true → ∀ t ∈ ts, ∃ x p, t = .Name x p ∧ (X.env.kindOf x == some .local) = (sc.names.lookup x == some .local)
  | [], [], _, t, ht => nomatch ht
  | i :: is, e :: es, h, t, ht => by
    unfold namesAre at h
    rw [Bool.and_eq_true] at h
    rcases List.mem_cons.mp ht with rfl | ht
    · obtain ⟨x, p, rfl, _, h2⟩ := nameIs_eq h.1
      refine ⟨x, p, rfl, ?_⟩
      unfold locB at h2
      split at h2
      · rename_i q
        show (X.env.scope.names.lookup x == _) = _
        rw [so.loc x q, q]
      · rename_i q
        show (X.env.scope.names.lookup x == _) = _
        rw [(so.cell x q).1, q]
      · cases h2
    · exact names_loc so h.2 t ht
theorem swTup {X : Cx} {ts : List Expr} {kt : Nat} {pt : Pos} {v : Expr} (hv : asTup v = none) : swappedStores [.Tuple ts kt pt] v X.env = pure none := by
  cases v <;> first | rfl | cases hv
/-- x.m(..) of our own list -/
theorem methE {X : Cx} {W : WX} {sc : Scope} {i : Nat} {x : Str} {p : Pos} (b : Bd tb k Z H0 N sc X W) (h : nameB N sc i x = true) : PE X (.Name x p) (tVar i) := by
  unfold nameB at h
  simp only [Bool.and_eq_true, decide_eq_true_eq] at h
  exact pv_of b.so (by rw [b.hN]; exact h.1.1) h.1.2 h.2
theorem few1 {e : Expr} (h : notStar e = true) (env : Env) (c : Pos) : ((backTo c (starEach [e] env)).all (fun x => !x.1) && (backToKw c (keywordEach [] env)).all (fun x => x.1.isSome) && decide ([e].length + ([] : List Keyword).length + (if ([] : List Keyword).isEmpty then 0 else 1) < 30)) = true := by
  rw [star1 h]
  rfl
theorem tyList {K : PySem.W.Frag} {H : Hp} {a : Addr} {xs : List V} (h : H a = some (.lst xs)) : tyV K "list" (.ref a) H := .inl ⟨rfl, _, SqL.of h⟩
theorem swNames2 {sc : Scope} {x y : Str} {px py : Pos} (h : (swNames sc [.Name x px, .Name y py]).length = [Expr.Name x px, .Name y py].length) : swNames sc [.Name x px, .Name y py] = [x, y] := by
  unfold swNames at h ⊢
  simp only [List.filterMap_cons, List.filterMap_nil] at h ⊢
  split at h <;> split at h <;> simp_all
theorem swNames3 {sc : Scope} {x y z : Str} {px py pz : Pos} (h : (swNames sc [.Name x px, .Name y py, .Name z pz]).length = [Expr.Name x px, .Name y py, .Name z pz].length) : swNames sc [.Name x px, .Name y py, .Name z pz] = [x, y, z] := by
  unfold swNames at h ⊢
  simp only [List.filterMap_cons, List.filterMap_nil] at h ⊢
  split at h <;> split at h <;> split at h <;> simp_all
theorem RepL.init {h : Hp} : ∀ {ds : List D} {vs : List V}, RepL Z h ds vs → RepL Z h ds.dropLast vs.dropLast
  | _, _, .nil => .nil
  | _, _, .cons x .nil => .nil
  | _, _, .cons x (.cons y z) => .cons x (RepL.init (.cons y z))
theorem rForR {X : Cx} {W : WX} {en : En} {L : List Nat} {elo ehi : CE} {tg iter : Expr} {tgt : Tgt} {b : List Stmt} {pos : Pos} {fb : G → S → EV Fl} (hp : PassesOwn (model X.prog X.w) X.A X.env X.xe) (hc : X.calm = true) (hi : PI X tg iter (tI Z W H0 (evRng (evE en elo) (evE en ehi)))) (hg : PG X tg (gSet Z.K tgt)) (hb : PSs X b (tS Z W H0 fb))
    (hs : ∀ x, foldedSetIterable iter X.env x = pure x) : PS X (.For tg iter b [] pos) (tS Z W H0 fun g s => rb (evE en elo (frz g L) s) fun x s => rb (evE en ehi (frz g L) s) fun y s => rb (rp (rngD x y) s) fun ds s => forL tgt fb ds (frz g L) s) :=
  psW (ps_for hp hc hi hg hb hs) fun D σ H ⟨g, s, Sh, ok, h⟩ => by
    dsimp only at h
    obtain ⟨Sh1, k1, fz⟩ := ok.frz L
    refine ⟨_, s, Sh1, k1, ?_⟩
    unfold EvI evRng
    cases q : evE en elo (frz g L) s with
    | none =>
      rw [q] at h
      exact h.elim
    | some p =>
      obtain ⟨r, s1⟩ := p
      rw [q] at h
      cases r with
      | exn c => exact fun H' Sh' x => h σ H' Sh' (k1.ent.trans x)
      | ok x =>
        rw [rb_ok] at h ⊢
        cases q1 : evE en ehi (frz g L) s1 with
        | none =>
          rw [q1] at h
          exact h.elim
        | some p =>
          obtain ⟨r, s2⟩ := p
          rw [q1] at h
          cases r with
          | exn c => exact fun H' Sh' x => h σ H' Sh' (k1.ent.trans x)
          | ok y =>
            rw [rb_ok] at h ⊢
            cases q2 : rngD x y with
            | none =>
              rw [q2] at h
              exact h.elim
            | some ds =>
              rw [q2, rp_some, rb_ok] at h
              exact ⟨ds, rfl, fun J H1 Sh2 x2 wk => rForB (tg := tg) (iter := iter) (b := b) (pos := pos) (k1.ext x2) wk (EvS.mono h (fz.shs.trans x2.shs))⟩
theorem rForK {X : Cx} {W : WX} {en : En} {L : List Nat} {it : CE} {tg iter : Expr} {tgt : Tgt} {b : List Stmt} {pos : Pos} {fb : G → S → EV Fl} (hp : PassesOwn (model X.prog X.w) X.A X.env X.xe) (hc : X.calm = true) (hi : PI X tg iter (tI Z W H0 (evKeys (evE en it)))) (hg : PG X tg (gSet Z.K tgt)) (hb : PSs X b (tS Z W H0 fb))
    (hs : ∀ x, foldedSetIterable iter X.env x = pure x) : PS X (.For tg iter b [] pos) (tS Z W H0 fun g s => rb (evE en it (frz g L) s) fun x s => rb (rp (keysD x) s) fun ds s => forL tgt fb ds (frz g L) s) :=
  psW (ps_for hp hc hi hg hb hs) fun D σ H ⟨g, s, Sh, ok, h⟩ => by
    dsimp only at h
    obtain ⟨Sh1, k1, fz⟩ := ok.frz L
    refine ⟨_, s, Sh1, k1, ?_⟩
    unfold EvI evKeys
    cases q : evE en it (frz g L) s with
    | none =>
      rw [q] at h
      exact h.elim
    | some p =>
      obtain ⟨r, s1⟩ := p
      rw [q] at h
      cases r with
      | exn c => exact fun H' Sh' x => h σ H' Sh' (k1.ent.trans x)
      | ok x =>
        rw [rb_ok] at h ⊢
        cases q2 : keysD x with
        | none =>
          rw [q2] at h
          exact h.elim
        | some ds =>
          rw [q2, rp_some, rb_ok] at h
          exact ⟨ds, rfl, fun J H1 Sh2 x2 wk => rForB (tg := tg) (iter := iter) (b := b) (pos := pos) (k1.ext x2) wk (EvS.mono h (fz.shs.trans x2.shs))⟩
theorem asg_sub {o z : Expr} {pos : Pos} {env : Env} (h : notSlice z = true) (w : Value) : assign (.Subscript o z pos) env w = (do
    let ov ← holding [w] (eval o env)
    let iv ← holding [w, ov] (eval z env)
    standAt pos
    holding [w, ov, iv] (setItem ov iv w)
    release [w, ov, iv] []) := by
  cases z <;> first | rfl | cases h
theorem sw_subs {a1 a2 b1 b2 vs1 vs2 : Expr} {q1 q2 : Pos} {k1 k2 : Nat} {p1 p2 : Pos} {env : Env} (h1 : notStar vs1 = true := by rfl) (h2 : notStar vs2 = true := by rfl) : swappedStores [.Tuple [.Subscript a1 b1 q1, .Subscript a2 b2 q2] k1 p1] (.Tuple [vs1, vs2] k2 p2) env = pure none := by
  unfold swappedStores
  simp
theorem sw_sub {v o i : Expr} {p : Pos} {l : Nat} {env : Env} : swapsWithSole [.Subscript o i p] v l env = pure false := by
  cases v <;> rfl
/-- a slot forgotten -/
theorem Ok.forget {H Sh : Hp} {σ : L2.St} {g : G} {s : S} (k : Ok Z H0 σ g H Sh s) (i : Nat) (o : Option V) : Ok Z H0 (σ.set i o) (g.set i .un) H Sh s where
  ent := k.ent
  len := by rw [List.length_set, List.length_set, k.len]
  slot := fun j x u e1 e2 => by
    by_cases e : j = i
    · subst e
      have hl : j < g.length := by
        have := (List.getElem?_eq_some_iff.mp e1).1
        rwa [List.length_set] at this
      rw [List.getElem?_set_self hl] at e1
      cases e1
      trivial
    · rw [List.getElem?_set_ne (Ne.symm e)] at e1 e2
      exact k.slot j x u e1 e2
  dist := fun j l x y u e1 e2 o1 o2 e3 e4 => by
    have ne : ∀ {j : Nat} {x : Sl}, (g.set i Sl.un)[j]? = some x → isOwn x = true → j ≠ i := fun {j x} e h z => by
      subst z
      have hl : j < g.length := by
        have := (List.getElem?_eq_some_iff.mp e).1
        rwa [List.length_set] at this
      rw [List.getElem?_set_self hl] at e
      cases e
      cases h
    have n1 := ne e1 o1
    have n2 := ne e2 o2
    rw [List.getElem?_set_ne (Ne.symm n1)] at e1 e3
    rw [List.getElem?_set_ne (Ne.symm n2)] at e2 e4
    exact k.dist j l x y u e1 e2 o1 o2 e3 e4
theorem Bd.try_ {X : Cx} {sc : Scope} {W V : WX} {pl : List (Addr × Obj)} {xe : Value → Shared → Prop} (b : Bd tb k Z H0 N sc X W) (tk : Takes (X.tr pl xe) V) (po : PassesOwn (model X.prog X.w) X.A X.env xe) : Bd tb k Z H0 N sc (X.tr pl xe) V where
  gr := ⟨b.gr.hk, b.gr.hw, b.gr.room, b.gr.hu, b.gr.blt, b.gr.glo, b.gr.fn, b.gr.exc, b.gr.exm, b.gr.exi, b.gr.calm, b.gr.nd, b.gr.fnF, b.gr.fnO⟩
  so := ⟨b.so.loc, b.so.cell, b.so.free, b.so.glob⟩
  tk := tk
  po := po
  hN := b.hN
  fk := b.fk
  ex := b.ex
  hs := b.hs
  hf := b.hf
  hX := b.hX
/-- try .. except x as n: y = n -/
theorem rTry {X : Cx} {sc : Scope} {W : WX} {st : Stmt} {j i l c : Nat} {e : CE} (b : Bd tb k Z H0 N sc X W) (h : PS X st fun D σ H => tAsg (tV Z (wVal X.K (.ref (Z.cA c)) i l W D) H0 (evE (enOf tb k) e)) (gName j) D σ H) : PS X st (tS Z W H0 (evS (enOf tb k) (.tr [] j e c (.exc i l)))) :=
  psW h fun D σ H ⟨g, s, Sh, ok, h⟩ => by
    refine ⟨g, s, Sh, ok, ?_⟩
    have h : EvS Z W H0 Sh (trK tb.sub c (.exc i l) g (exE (enOf tb k) [] e g s fun d g s => some (.ok (.nx (g.set j (.dat d))), s))) D := h
    unfold FR.exE at h
    rw [show FR.frz g [] = g from rfl] at h
    unfold EvX
    cases q : evE (enOf tb k) e g s with
    | none =>
      rw [q] at h
      exact h.elim
    | some p =>
      obtain ⟨r, s1⟩ := p
      rw [q] at h
      cases r with
      | ok d =>
        intro v H' Sh' x r
        have h2 : EvS Z W H0 Sh (some (.ok (.nx ((if d.lf = true then g else g).set j (.dat d))), s1)) D := h
        rw [show (if d.lf = true then g else g) = g from by split <;> rfl] at h2
        exact h2 _ H' Sh' x.shs ((ok.ext x).set r j)
      | exn c' =>
        intro H' Sh' x
        have h2 : EvS Z W H0 Sh (trK tb.sub c (.exc i l) g (some (.exn c', s1))) D := h
        unfold trK at h2
        dsimp only at h2
        cases q2 : tb.sub c' c with
        | none =>
          rw [q2] at h2
          exact h2.elim
        | some bb =>
          rw [q2] at h2
          refine ⟨bb, b.gr.exm c c' bb q2, fun hb => ?_, fun hb => ?_⟩
          · subst hb
            refine ⟨rfl, fun a ha => ?_⟩
            have k1 := (ok.ext x).ext (Ext.alloc x.sub x.town ha (ExV (.ref (Z.cA c')) a))
            have k2 := ((k1.forget i (some (.ref a))).set (d := .exc c') (v := .ref a) (.exc c' upd_same) l).forget i none
            exact h2 _ _ _ (x.shs.trans (same_fresh (same_none x.sub ha))) k2
          · subst hb
            exact h2 σ H' Sh' (ok.ent.trans x)
def cstV : Cst → V
  | .non => .non
  | .bl b => .bl b
  | .int i => .int i
  | .str x => .str x
theorem rep_cst {Sh : Hp} (c : Cst) : Rep Z Sh c.d (cstV c) := by
  cases c with
  | non => exact .non
  | bl b => exact .bl b
  | int i => exact .int i
  | str x => exact .str x
theorem pe_cstK {X : Cx} (c : Cst) {i : Nat} {p : Pos} : PE X (.Constant c.k i p) (tC (cstV c)) := by
  cases c with
  | non => exact pe_non
  | bl b => exact pe_bl
  | int i => exact pe_int
  | str x => exact pe_str
/-- try .. except x: y = c -/
theorem rTryC {X : Cx} {sc : Scope} {W : WX} {st : Stmt} {j l c : Nat} {kc : Cst} {e : CE} (b : Bd tb k Z H0 N sc X W) (h : PS X st fun D σ H => tAsg (tV Z (wOnly X.K (.ref (Z.cA c)) (fun _ _ _ => tAsg (tC (cstV kc)) (gName l)) W D) H0 (evE (enOf tb k) e)) (gName j) D σ H) : PS X st (tS Z W H0 (evS (enOf tb k) (.tr [] j e c (.cst l kc)))) :=
  psW h fun D σ H ⟨g, s, Sh, ok, h⟩ => by
    refine ⟨g, s, Sh, ok, ?_⟩
    have h : EvS Z W H0 Sh (trK tb.sub c (.cst l kc) g (exE (enOf tb k) [] e g s fun d g s => some (.ok (.nx (g.set j (.dat d))), s))) D := h
    unfold FR.exE at h
    rw [show FR.frz g [] = g from rfl] at h
    unfold EvX
    cases q : evE (enOf tb k) e g s with
    | none =>
      rw [q] at h
      exact h.elim
    | some p =>
      obtain ⟨r, s1⟩ := p
      rw [q] at h
      cases r with
      | ok d =>
        intro v H' Sh' x r
        have h2 : EvS Z W H0 Sh (some (.ok (.nx ((if d.lf = true then g else g).set j (.dat d))), s1)) D := h
        rw [show (if d.lf = true then g else g) = g from by split <;> rfl] at h2
        exact h2 _ H' Sh' x.shs ((ok.ext x).set r j)
      | exn c' =>
        intro H' Sh' x
        have h2 : EvS Z W H0 Sh (trK tb.sub c (.cst l kc) g (some (.exn c', s1))) D := h
        unfold trK at h2
        dsimp only at h2
        cases q2 : tb.sub c' c with
        | none =>
          rw [q2] at h2
          exact h2.elim
        | some bb =>
          rw [q2] at h2
          refine ⟨bb, b.gr.exm c c' bb q2, fun hb => ?_, fun hb => ?_⟩
          · subst hb
            intro a ha
            exact h2 _ _ _ x.shs ((ok.ext x).set (rep_cst kc) l)
          · subst hb
            exact h2 σ H' Sh' (ok.ent.trans x)
mutual
theorem sndS : ∀ (c : CS) (X : Cx) (sc : Scope) (st : Stmt) (W : WX), Bd tb k Z H0 N sc X W → mtS tb N c sc st = true → PS X st (tS Z W H0 (evS (enOf tb k) c))
  | .asg L i e, X, sc, st, W, b, h => by
    simp only [mtS] at h
    cases q : asAsg st with
    | none => rw [q] at h; cases h
    | some pq =>
      obtain ⟨t, v, p⟩ := pq
      rw [q] at h
      rw [asAsg_eq q]
      simp only [Bool.and_eq_true] at h
      cases hc : notComp v with
      | true => exact rAsg (asgT b h.1 hc (snd e X sc v W b.gr b.so b.tk b.hN h.2).1) fun D σ H h => h
      | false =>
        obtain ⟨ev, c1, c2, c3⟩ := compOk_of (H0 := H0) b h.2 hc
        obtain ⟨te, h1, h2⟩ := asgC (p := p) b h.1 c1
        refine rAsg h1 fun D σ H h => h2 σ H _ (tF_of c2 ?_)
        have e2 : evE (enOf tb k) e = ev := by
          funext g s
          exact c3 g s
        rw [← e2]
        exact h
  | .own L i e, X, sc, st, W, b, h => by
    simp only [mtS] at h
    cases q : asAsg st with
    | none => rw [q] at h; cases h
    | some pq =>
      obtain ⟨t, v, p⟩ := pq
      rw [q] at h
      rw [asAsg_eq q]
      simp only [Bool.and_eq_true] at h
      obtain ⟨⟨h0, h1⟩, h2⟩ := h
      cases hc : notComp v with
      | false =>
        obtain ⟨ev, c1, c2, c3⟩ := compOk_of (H0 := H0) b h2 hc
        obtain ⟨te, h3, h4⟩ := asgC (p := p) b h1 c1
        have e2 : evE (enOf tb k) e = ev := by
          funext g s
          exact c3 g s
        refine rOwn h3 (by rw [e2]; exact c2) fun D σ H h => h4 σ H _ ?_
        rw [← e2]
        exact h
      | true =>
        cases e with
        | lst es =>
          simp only [mtE] at h2
          cases q2 : asLst v with
          | none => rw [q2] at h2; cases h2
          | some xs =>
            rw [q2] at h2
            obtain ⟨pos, rfl⟩ := asLst_eq q2
            exact rOwn (asgT b h1 hc (fLst (sndL es X sc xs W b.gr b.so b.tk b.hN h2))) isL_lst fun D σ H h => h
        | comp tg it ifs elt =>
          exfalso
          simp only [mtE] at h2
          cases q2 : asComp v with
          | none => rw [q2] at h2; cases h2
          | some xs =>
            obtain ⟨a1, a2, a3, a4, a5⟩ := xs
            obtain ⟨pos, rfl⟩ := asComp_eq q2
            cases hc
        | compR tg lo hi ifs elt =>
          exfalso
          simp only [mtE] at h2
          cases q2 : asComp v with
          | none => rw [q2] at h2; cases h2
          | some xs =>
            obtain ⟨a1, a2, a3, a4, a5⟩ := xs
            obtain ⟨pos, rfl⟩ := asComp_eq q2
            cases hc
        | compK tg it ifs elt =>
          exfalso
          simp only [mtE] at h2
          cases q2 : asComp v with
          | none => rw [q2] at h2; cases h2
          | some xs =>
            obtain ⟨a1, a2, a3, a4, a5⟩ := xs
            obtain ⟨pos, rfl⟩ := asComp_eq q2
            cases hc
        | dct0 =>
          simp only [mtE] at h2
          split at h2
          · exact rOwnD (en := enOf tb k) (asgT b h1 hc fDct0) isDc_0 fun D σ H h => h
          · cases h2
        | bin o a1 b1 =>
          cases o with
          | mul =>
            cases a1 with
            | lst es =>
              simp only [mtE] at h2
              cases q2 : asBin v with
              | none => rw [q2] at h2; cases h2
              | some pq =>
                obtain ⟨l, o, r⟩ := pq
                rw [q2] at h2
                obtain ⟨pos, rfl⟩ := asBin_eq q2
                simp only [Bool.and_eq_true, decide_eq_true_eq] at h2
                obtain ⟨⟨rfl, h3⟩, h4⟩ := h2
                have h3' : mtE tb N (.lst es) sc l = true := by
                  simp only [mtE]
                  exact h3
                refine rOwn (asgT b h1 hc (fRep (snd (.lst es) X sc l W b.gr b.so b.tk b.hN h3').1 (snd b1 X sc r W b.gr b.so b.tk b.hN h4).1)) isL_mul fun D σ H ⟨g, s, Sh, ok, h⟩ => ⟨g, s, Sh, ok, by rw [mul_ev] at h; exact h⟩
            | _ => cases h0
          | _ => cases h0
        | «bif» f es =>
          cases f with
          | dict =>
            cases es with
            | nil => cases h0
            | cons a as =>
              cases as with
              | cons _ _ => cases h0
              | nil =>
                simp only [mtE] at h2
                cases q2 : asCall v with
                | none => rw [q2] at h2; cases h2
                | some pq =>
                  obtain ⟨x, y, ys⟩ := pq
                  rw [q2] at h2
                  obtain ⟨p1, p2, rfl⟩ := asCall_eq q2
                  simp only [Bool.and_eq_true, decide_eq_true_eq, mtEs] at h2
                  obtain ⟨⟨e0, h3⟩, ⟨h4, h5⟩, h6⟩ := h2
                  cases e0
                  cases ys with
                  | cons _ _ => cases h6
                  | nil => exact rOwnD (asgT b h1 hc (fDict b.gr (b.so.gl h3) h4 (snd a X sc y W b.gr b.so b.tk b.hN h5).1)) isDc_d fun D σ H ⟨g, s, Sh, ok, h⟩ => ⟨g, s, Sh, ok, by rw [dict_ev] at h; exact h⟩
          | sorted =>
            cases es with
            | nil => cases h0
            | cons a as =>
              cases as with
              | cons _ _ => cases h0
              | nil =>
                simp only [mtE] at h2
                cases q2 : asCall v with
                | none => rw [q2] at h2; cases h2
                | some pq =>
                  obtain ⟨x, y, ys⟩ := pq
                  rw [q2] at h2
                  obtain ⟨p1, p2, rfl⟩ := asCall_eq q2
                  simp only [Bool.and_eq_true, decide_eq_true_eq, mtEs] at h2
                  obtain ⟨⟨e0, h3⟩, ⟨h4, h5⟩, h6⟩ := h2
                  cases e0
                  cases ys with
                  | cons _ _ => cases h6
                  | nil => exact rOwn (asgT b h1 hc (fSorted b.gr (b.so.gl h3) h4 (snd a X sc y W b.gr b.so b.tk b.hN h5).1)) (isL_of1 sortedD_l fun g s => sorted_ev) fun D σ H ⟨g, s, Sh, ok, h⟩ => ⟨g, s, Sh, ok, by rw [sorted_ev] at h; exact h⟩
          | list =>
            cases es with
            | nil => cases h0
            | cons a as =>
              cases as with
              | cons _ _ => cases h0
              | nil =>
                simp only [mtE] at h2
                cases q2 : asCall v with
                | none => rw [q2] at h2; cases h2
                | some pq =>
                  obtain ⟨x, y, ys⟩ := pq
                  rw [q2] at h2
                  obtain ⟨p1, p2, rfl⟩ := asCall_eq q2
                  simp only [Bool.and_eq_true, decide_eq_true_eq, mtEs] at h2
                  obtain ⟨⟨e0, h3⟩, ⟨h4, h5⟩, h6⟩ := h2
                  cases e0
                  cases ys with
                  | cons _ _ => cases h6
                  | nil => exact rOwn (asgT b h1 hc (fList b.gr (b.so.gl h3) h4 (snd a X sc y W b.gr b.so b.tk b.hN h5).1)) (isL_of1 listD_l fun g s => list_ev) fun D σ H ⟨g, s, Sh, ok, h⟩ => ⟨g, s, Sh, ok, by rw [list_ev] at h; exact h⟩
          | _ => cases h0
        | _ => cases h0
  | .oif i t e, X, sc, st, W, b, h => by
    simp only [mtS] at h
    cases q : asAsg st with
    | none => rw [q] at h; cases h
    | some pq =>
      obtain ⟨x, v, p⟩ := pq
      rw [q] at h
      rw [asAsg_eq q]
      simp only [Bool.and_eq_true] at h
      obtain ⟨h0, h1⟩ := h
      cases q2 : asIf v with
      | none => rw [q2] at h1; cases h1
      | some pq =>
        obtain ⟨c, a, z⟩ := pq
        rw [q2] at h1
        obtain ⟨pos, rfl⟩ := asIf_eq q2
        cases e with
        | lst es =>
          simp only [Bool.and_eq_true, Bool.not_eq_true'] at h1
          obtain ⟨⟨⟨h2, h3⟩, h4⟩, h5⟩ := h1
          cases q3 : asName z with
          | none => rw [q3] at h5; cases h5
          | some y =>
            rw [q3] at h5
            obtain ⟨py, rfl⟩ := asName_eq q3
            simp only [mtE] at h4
            cases q4 : asLst a with
            | none => rw [q4] at h4; cases h4
            | some xs =>
              rw [q4] at h4
              obtain ⟨pl, rfl⟩ := asLst_eq q4
              exact rOif (c := c) (asgT b h0 rfl (pe_ifExp ((snd t X sc c W b.gr b.so b.tk b.hN h3).2 h2) (fLst (sndL es X sc xs W b.gr b.so b.tk b.hN h4)) (methE b h5))) isL_lst fun D σ H h => h
        | _ => cases h1
  | .tas L is e, X, sc, st, W, b, h => by
    simp only [mtS] at h
    cases q : asAsg st with
    | none => rw [q] at h; cases h
    | some pq =>
      obtain ⟨t, v, p⟩ := pq
      rw [q] at h
      dsimp only at h
      rw [asAsg_eq q]
      cases q1 : asTup t with
      | none => rw [q1] at h; cases h
      | some ts =>
        rw [q1] at h
        obtain ⟨kt, pt, rfl⟩ := asTup_eq q1
        simp only [Bool.and_eq_true] at h
        obtain ⟨⟨h1, h2⟩, h3⟩ := h
        have hw : swappedStores [.Tuple ts kt pt] v X.env = pure none := by
          cases q2 : asTup v with
          | none => exact swTup q2
          | some vs =>
            rw [q2] at h3
            obtain ⟨k2, p2, rfl⟩ := asTup_eq q2
            exact swStores b.fk (names_loc b.so h1) (of_decide_eq_true h3)
        exact rTas (ps_asg (snd e X sc v W b.gr b.so b.tk b.hN h2).1 (sTgt (tg := .tp is) b.gr.hk b.gr.calm b.gr.nd b.so b.hN h1) (show swapsWithSole [.Tuple ts kt pt] v p.line X.env = pure false from sw_tup (v := v) (es := ts) (k := kt) (p := pt) (l := p.line) (env := X.env)) hw rfl) fun D σ H h => h
  | .par L is es, X, sc, st, W, b, h => by
    simp only [mtS] at h
    cases q : asAsg st with
    | none => rw [q] at h; cases h
    | some pq =>
      obtain ⟨t, v, p⟩ := pq
      rw [q] at h
      dsimp only at h
      rw [asAsg_eq q]
      cases q1 : asTup t with
      | none => rw [q1] at h; cases h
      | some ts =>
        cases q2 : asTup v with
        | none => rw [q1, q2] at h; cases h
        | some vs =>
          rw [q1, q2] at h
          obtain ⟨kt, pt, rfl⟩ := asTup_eq q1
          obtain ⟨k2, p2, rfl⟩ := asTup_eq q2
          simp only [Bool.and_eq_true, decide_eq_true_eq, Bool.or_eq_true] at h
          obtain ⟨⟨⟨⟨⟨⟨h1, h2⟩, h3⟩, h4⟩, h5⟩, h6⟩, h7⟩ := h
          have hw := swStores (k := kt) (k2 := k2) (p := pt) (p2 := p2) b.fk (names_loc b.so h1) h4
          have hA := sndL es X sc vs W b.gr b.so b.tk b.hN h3 (H0 := H0)
          have hT := names_len h1
          rcases h6 with h6 | h6
          · obtain ⟨i, j, rfl⟩ : ∃ i j, is = [i, j] := by
              match is, h6 with
              | [i, j], _ => exact ⟨i, j, rfl⟩
            obtain ⟨e1, e2, rfl⟩ : ∃ e1 e2, ts = [e1, e2] := by
              match ts, hT with
              | [a, b], _ => exact ⟨a, b, rfl⟩
            obtain ⟨v1, v2, rfl⟩ : ∃ e1 e2, vs = [e1, e2] := by
              match vs, h5 with
              | [a, b], _ => exact ⟨a, b, rfl⟩
            simp only [namesAre, Bool.and_eq_true] at h1
            obtain ⟨x, px, rfl, n1, l1⟩ := nameIs_eq h1.1
            obtain ⟨y, py, rfl, n2, l2⟩ := nameIs_eq h1.2.1
            simp only [allLoc, List.all_cons, List.all_nil, Bool.and_true, Bool.and_eq_true, decide_eq_true_eq] at h2
            have hnm : swNames sc [.Name x px, .Name y py] = [x, y] := by
              have hs := h4
              unfold swSt at hs
              split at hs
              · cases hs
              · split at hs
                · cases hs
                · split at hs
                  · cases hs
                  · rename_i q3
                    simp only [Bool.or_eq_true, not_or, bne_iff_ne, ne_eq, Decidable.not_not] at q3
                    exact swNames2 q3.1
            rw [hnm] at hw
            have hij : i ≠ j := by
              intro z
              subst z
              simp at h7
            refine rPar (ps_par b.gr.calm b.gr.nd (by rw [b.hN]; exact n1) (by rw [b.hN]; exact n2) hij (b.so.loc x h2.1) (b.so.loc y h2.2) hA hw) fun D σ H h => ?_
            obtain ⟨g, s, Sh, ok, q⟩ := h
            refine ⟨g, s, Sh, ok, EvX.imp q fun us H1 hq => ?_⟩
            obtain ⟨hl, nx⟩ := hq
            match us, hl, nx with
            | [u, w], _, nx => exact ⟨u, w, rfl, nx⟩
          · obtain ⟨i, j, l, rfl⟩ : ∃ i j l, is = [i, j, l] := by
              match is, h6 with
              | [i, j, l], _ => exact ⟨i, j, l, rfl⟩
            obtain ⟨e1, e2, e3, rfl⟩ : ∃ e1 e2 e3, ts = [e1, e2, e3] := by
              match ts, hT with
              | [a, b, c], _ => exact ⟨a, b, c, rfl⟩
            obtain ⟨v1, v2, v3, rfl⟩ : ∃ e1 e2 e3, vs = [e1, e2, e3] := by
              match vs, h5 with
              | [a, b, c], _ => exact ⟨a, b, c, rfl⟩
            simp only [namesAre, Bool.and_eq_true] at h1
            obtain ⟨x, px, rfl, n1, l1⟩ := nameIs_eq h1.1
            obtain ⟨y, py, rfl, n2, l2⟩ := nameIs_eq h1.2.1
            obtain ⟨z, pz, rfl, n3, l3⟩ := nameIs_eq h1.2.2.1
            simp only [allLoc, List.all_cons, List.all_nil, Bool.and_true, Bool.and_eq_true, decide_eq_true_eq] at h2
            have hnm : swNames sc [.Name x px, .Name y py, .Name z pz] = [x, y, z] := by
              have hs := h4
              unfold swSt at hs
              split at hs
              · cases hs
              · split at hs
                · cases hs
                · split at hs
                  · cases hs
                  · rename_i q3
                    simp only [Bool.or_eq_true, not_or, bne_iff_ne, ne_eq, Decidable.not_not] at q3
                    exact swNames3 q3.1
            rw [hnm] at hw
            have hnd : i ≠ j ∧ i ≠ l ∧ j ≠ l := by
              simp only [List.nodup_cons, List.mem_cons, List.not_mem_nil, or_false, not_or] at h7
              exact ⟨h7.1.1, h7.1.2, h7.2.1⟩
            refine rPar (ps_par3 b.gr.calm b.gr.nd (by rw [b.hN]; exact n1) (by rw [b.hN]; exact n2) (by rw [b.hN]; exact n3) hnd.1 hnd.2.1 hnd.2.2 (b.so.loc x h2.1) (b.so.loc y h2.2.1) (b.so.loc z h2.2.2) hA hw) fun D σ H h => ?_
            obtain ⟨g, s, Sh, ok, q⟩ := h
            refine ⟨g, s, Sh, ok, EvX.imp q fun us H1 hq => ?_⟩
            obtain ⟨hl, nx⟩ := hq
            match us, hl, nx with
            | [u, w, r], _, nx => exact ⟨u, w, r, rfl, nx⟩
  | .app L i e, X, sc, st, W, b, h => by
    simp only [mtS] at h
    cases q : asExprS st with
    | none => rw [q] at h; cases h
    | some c =>
      rw [q] at h
      dsimp only at h
      obtain ⟨p, rfl⟩ := asExprS_eq q
      cases q1 : asMeth c with
      | none => rw [q1] at h; cases h
      | some pq =>
        obtain ⟨x, m, ys⟩ := pq
        rw [q1] at h
        obtain ⟨px, pa, pc, rfl, hl⟩ := asMeth_eq q1
        cases ys with
        | nil => cases h
        | cons y ys =>
          cases ys with
          | cons _ _ => cases h
          | nil =>
            simp only [Bool.and_eq_true, decide_eq_true_eq] at h
            obtain ⟨⟨⟨rfl, h1⟩, h2⟩, h3⟩ := h
            refine rMut (ps_expr (pe_bm PySem.F.plainAttrs_list PySem.F.slot_list_append PySem.F.type_list_append mt_append (methE b h1) (pa_cons (snd (H0 := H0) e X sc y W b.gr b.so b.tk b.hN h3).1 pa_nil (star1 h2 _)) rfl (few1 h2 _ _) hl (star1 h2 _) rfl) rfl) fun D σ H ⟨a, xs, e1, e2, g, s, Sh, ok, q⟩ => ?_
            refine ⟨_, e1, tyList e2, g, s, Sh, ok, ?_⟩
            refine EvX.imp q fun y H1 hq => ?_
            obtain ⟨d, Sh', ds, es, xs2, sub, r, hf, rl, hH, nx⟩ := hq
            unfold appF at hf
            split at hf
            · rename_i hn
              cases hf
              refine ⟨_, _, _, rfl, rfl, hH, ?_, nx _ (rl.snoc r)⟩
              rw [← rl.length]
              exact szLt hn
            · cases hf
  | .tap i, X, sc, st, W, b, h => by
    simp only [mtS] at h
    cases q : asExprS st with
    | none => rw [q] at h; cases h
    | some c =>
      rw [q] at h
      dsimp only at h
      obtain ⟨p, rfl⟩ := asExprS_eq q
      cases q1 : asMeth c with
      | none => rw [q1] at h; cases h
      | some pq =>
        obtain ⟨x, m, ys⟩ := pq
        rw [q1] at h
        obtain ⟨px, pa, pc, rfl, hl⟩ := asMeth_eq q1
        cases ys with
        | nil => cases h
        | cons y ys =>
          cases ys with
          | cons _ _ => cases h
          | nil =>
            simp only [Bool.and_eq_true, decide_eq_true_eq] at h
            obtain ⟨⟨rfl, h1⟩, h2⟩ := h
            obtain ⟨j, p5, rfl⟩ := asConst_eq h2
            refine rTap (ps_expr (pe_bm PySem.F.plainAttrs_list PySem.F.slot_list_append PySem.F.type_list_append mt_append (methE b h1) (pa_cons pe_int pa_nil) rfl (few1 rfl _ _) hl rfl rfl) rfl) fun D σ H ⟨a, xs, e1, e2, hn, nx⟩ => ?_
            exact ⟨_, e1, tyList e2, _, _, _, rfl, rfl, e2, hn, nx⟩
  | .ext L i e, X, sc, st, W, b, h => by
    simp only [mtS] at h
    cases q : asExprS st with
    | none => rw [q] at h; cases h
    | some c =>
      rw [q] at h
      dsimp only at h
      obtain ⟨p, rfl⟩ := asExprS_eq q
      cases q1 : asMeth c with
      | none => rw [q1] at h; cases h
      | some pq =>
        obtain ⟨x, m, ys⟩ := pq
        rw [q1] at h
        obtain ⟨px, pa, pc, rfl, hl⟩ := asMeth_eq q1
        cases ys with
        | nil => cases h
        | cons y ys =>
          cases ys with
          | cons _ _ => cases h
          | nil =>
            simp only [Bool.and_eq_true, decide_eq_true_eq] at h
            obtain ⟨⟨⟨rfl, h1⟩, h2⟩, h3⟩ := h
            refine rMut (ps_expr (pe_bm PySem.F.plainAttrs_list PySem.F.slot_list_extend PySem.F.type_list_extend mt_extend (methE b h1) (pa_cons (snd (H0 := H0) e X sc y W b.gr b.so b.tk b.hN h3).1 pa_nil (star1 h2 _)) rfl (few1 h2 _ _) hl (star1 h2 _) rfl) rfl) fun D σ H ⟨a, xs, e1, e2, g, s, Sh, ok, q⟩ => ?_
            refine ⟨_, e1, tyList e2, g, s, Sh, ok, ?_⟩
            refine EvX.imp q fun y H1 hq => ?_
            obtain ⟨d, Sh', ds, es, xs2, sub, r, hf, rl, hH, nx⟩ := hq
            unfold extF at hf
            split at hf
            · split at hf
              · rename_i hn
                cases hf
                cases r with
                | lst x1 y1 =>
                  refine ⟨_, _, _, _, rfl, rfl, hH, sub _ _ x1, ?_, nx _ (rl.app y1)⟩
                  rw [← rl.length, ← y1.length]
                  exact Nat.le_of_lt (szLt hn)
              · cases hf
            · cases hf
  | .pop i, X, sc, st, W, b, h => by
    simp only [mtS] at h
    cases q : asExprS st with
    | none => rw [q] at h; cases h
    | some c =>
      rw [q] at h
      dsimp only at h
      obtain ⟨p, rfl⟩ := asExprS_eq q
      cases q1 : asMeth c with
      | none => rw [q1] at h; cases h
      | some pq =>
        obtain ⟨x, m, ys⟩ := pq
        rw [q1] at h
        obtain ⟨px, pa, pc, rfl, hl⟩ := asMeth_eq q1
        cases ys with
        | cons _ _ => cases h
        | nil =>
          simp only [Bool.and_eq_true, decide_eq_true_eq] at h
          obtain ⟨rfl, h1⟩ := h
          refine rMut0 (ps_expr (pe_bm0 PySem.F.plainAttrs_list PySem.F.slot_list_pop PySem.F.type_list_pop mt_pop (methE b h1) rfl hl) rfl) fun D σ H ⟨a, xs, ds, es, Sh, e1, e2, hf, r, nx⟩ => ?_
          cases r with
          | nil => cases hf
          | cons r1 r2 =>
            cases hf
            refine ⟨_, e1, tyList e2, _, _, _, rfl, rfl, e2, List.getElem?_eq_getElem (by simp), ?_⟩
            exact nx _ ((RepL.cons r1 r2).init)
  | .pop0 i is, X, sc, st, W, b, h => by
    simp only [mtS] at h
    cases q : asAsg st with
    | none => rw [q] at h; cases h
    | some pq =>
      obtain ⟨t, v, p⟩ := pq
      rw [q] at h
      rw [asAsg_eq q]
      dsimp only at h
      cases q1 : asTup t with
      | none => rw [q1] at h; cases h
      | some ts =>
        cases q2 : asMeth v with
        | none => rw [q1, q2] at h; cases h
        | some pq =>
          obtain ⟨x, m, ys⟩ := pq
          rw [q1, q2] at h
          cases ys with
          | nil => cases h
          | cons y ys =>
            cases ys with
            | cons _ _ => cases h
            | nil =>
              simp only [Bool.and_eq_true, decide_eq_true_eq] at h
              obtain ⟨⟨⟨h1, rfl⟩, h2⟩, h3⟩ := h
              obtain ⟨j, p5, rfl⟩ := asConst_eq h3
              obtain ⟨px, pa, pc, rfl, hl⟩ := asMeth_eq q2
              obtain ⟨kt, pt, rfl⟩ := asTup_eq q1
              have hg : mtG N sc (.tp is) (.Tuple ts kt pt) = true := h1
              refine rPop0 (ps_asg (pe_bm PySem.F.plainAttrs_list PySem.F.slot_list_pop PySem.F.type_list_pop mt_popAt (methE b h2) (pa_cons pe_int pa_nil) rfl (few1 rfl _ _) hl rfl rfl) (sTgt b.gr.hk b.gr.calm b.gr.nd b.so b.hN hg) rfl (swTup rfl)) fun D σ H ⟨a, x, xs, e1, e2, hq⟩ => ?_
              exact ⟨_, e1, tyList e2, a, x :: xs, 0, 0, x, rfl, rfl, e2, by decide, by decide, by simp [seqIndex?], rfl, hq⟩
  | .sti L i e v, X, sc, st, W, b, h => by
    simp only [mtS] at h
    cases q : asAsg st with
    | none => rw [q] at h; cases h
    | some pq =>
      obtain ⟨t, u, p⟩ := pq
      rw [q] at h
      rw [asAsg_eq q]
      dsimp only at h
      cases q1 : asIdx t with
      | none => rw [q1] at h; cases h
      | some pq =>
        obtain ⟨a, z⟩ := pq
        rw [q1] at h
        obtain ⟨pos, rfl⟩ := asIdx_eq q1
        simp only [Bool.and_eq_true] at h
        obtain ⟨⟨⟨h0, h1⟩, h2⟩, h3⟩ := h
        cases q2 : asName a with
        | none => rw [q2] at h1; cases h1
        | some y =>
          rw [q2] at h1
          obtain ⟨p2, rfl⟩ := asName_eq q2
          refine rSti (ps_asg (snd (H0 := H0) v X sc u W b.gr b.so b.tk b.hN h3).1 (pg_sub (methE b h1) (snd (H0 := H0) e X sc z W b.gr b.so b.tk b.hN h2).1 (PSet.or set_list (PSet.or (set_dict (by have := b.gr.hu; omega)) (b.gr.hw ▸ set_none))) (asg_sub h0)) sw_sub rfl rfl) fun D σ H ⟨a, e1, hq⟩ => ?_
          obtain ⟨g, s, Sh, ok, q3⟩ := hq
          exact ⟨g, s, Sh, ok, EvX.imp q3 fun x H1 hq => ⟨_, e1, hq⟩⟩
  | .popk L i e, X, sc, st, W, b, h => by
    simp only [mtS] at h
    cases q : asExprS st with
    | none => rw [q] at h; cases h
    | some c =>
      rw [q] at h
      dsimp only at h
      obtain ⟨p, rfl⟩ := asExprS_eq q
      cases q1 : asMeth c with
      | none => rw [q1] at h; cases h
      | some pq =>
        obtain ⟨x, m, ys⟩ := pq
        rw [q1] at h
        obtain ⟨px, pa, pc, rfl, hl⟩ := asMeth_eq q1
        cases ys with
        | nil => cases h
        | cons y ys =>
          cases ys with
          | cons _ _ => cases h
          | nil =>
            simp only [Bool.and_eq_true, decide_eq_true_eq] at h
            obtain ⟨⟨⟨rfl, h1⟩, h2⟩, h3⟩ := h
            refine rPopk (ps_expr (pe_dpop1 (methE b h1) (snd (H0 := H0) e X sc y W b.gr b.so b.tk b.hN h3).1 ⟨rfl, few1 h2 _ _, hl, by rw [star1 h2]; rfl⟩) rfl) fun D σ H ⟨a, e1, e2, hq⟩ => ?_
            exact ⟨_, e1, a, rfl, e2, hq⟩
  | .swp i ja jb, X, sc, st, W, b, h => by
    simp only [mtS] at h
    cases q : asSwap st with
    | none => rw [q] at h; cases h
    | some pq =>
      obtain ⟨x, y, z⟩ := pq
      rw [q] at h
      simp only [Bool.and_eq_true] at h
      obtain ⟨⟨h0, h1⟩, h2⟩ := h
      obtain ⟨p1, p2, p3, p4, p5, p6, k1, p7, p8, p9, p10, p11, p12, p13, k2, p14, p15, rfl⟩ := asSwap_eq q
      refine rSwp (ps_asg (pe_tup (pa_cons (pe_ix ix_list (methE b h0) (methE b h2) (fun _ _ => rfl)) (pa_cons (pe_ix ix_list (methE b h0) (methE b h1) (fun _ _ => rfl)) pa_nil))) (pg_tup b.gr.calm (pgs_cons (pg_sub (methE b h0) (methE b h1) set_list) (pgs_cons (pg_sub (methE b h0) (methE b h2) set_list) pgs_nil))) rfl sw_subs) fun D σ H ⟨a, p, q, xs, m, n, u, w, e1, ea, eb, q4, hm, hn, hu, hw, nx⟩ => ?_
      have at_ : ∀ {j : Int} {l : Nat} {v : V}, ixN xs.length j = some l → xs[l]? = some v → L2.atI xs j = some v := fun {j l v} h1 h2 => by
        unfold L2.atI
        rw [h1]
        exact h2
      refine ⟨_, e1, _, eb, a, xs, q, u, rfl, rfl, SqL.of q4, at_ hn hu, _, e1, _, ea, a, xs, p, w, rfl, rfl, SqL.of q4, at_ hm hw, by show (2 : Nat) ≤ sizeLine; decide, fun T hT => ⟨T, _, rfl, SqT.of upd_same, rfl, ?_⟩⟩
      have q5 : L2.upd H T (.tup [u, w]) a = some (.lst xs) := by
        rw [upd_ne (ne_of_none q4 hT)]
        exact q4
      refine ⟨u, [w], rfl, _, e1, _, ea, a, xs, p, m, rfl, rfl, q5, hm, w, [], rfl, _, e1, _, eb, a, xs.set m u, q, n, rfl, rfl, upd_same, by rw [List.length_set]; exact hn, ?_⟩
      rw [upd_upd2]
      exact ⟨rfl, nx T hT⟩
  | .lkd _, X, sc, st, W, b, h => by simp [mtS] at h
  | .lkk _, X, sc, st, W, b, h => by simp [mtS] at h
  | .shn _, X, sc, st, W, b, h => by simp [mtS] at h
  | .ndl i tg it, X, sc, st, W, b, h => by
    simp only [mtS] at h
    cases q : asAsg st with
    | none => rw [q] at h; cases h
    | some p0 =>
      obtain ⟨t, v, p⟩ := p0
      rw [q] at h
      rw [asAsg_eq q]
      dsimp only at h
      rw [Bool.and_eq_true] at h
      exact rNdl b h.1 h.2
  | .apl i j e, X, sc, st, W, b, h => by
    simp only [mtS] at h
    cases q : asExprS st with
    | none => rw [q] at h; cases h
    | some c =>
      rw [q] at h
      dsimp only at h
      obtain ⟨p, rfl⟩ := asExprS_eq q
      cases q1 : asMth c with
      | none => rw [q1] at h; cases h
      | some pq =>
        obtain ⟨o, m, y⟩ := pq
        rw [q1] at h
        dsimp only at h
        obtain ⟨pa, pc, rfl, hl⟩ := asMth_eq q1
        simp only [Bool.and_eq_true, decide_eq_true_eq] at h
        obtain ⟨⟨⟨rfl, h2⟩, h3⟩, h4⟩ := h
        cases q2 : asIdx o with
        | none => rw [q2] at h4; cases h4
        | some pq =>
          obtain ⟨oa, oz⟩ := pq
          rw [q2] at h4
          obtain ⟨px, rfl⟩ := asIdx_eq q2
          rw [Bool.and_eq_true] at h4
          obtain ⟨h5, h4⟩ := h4
          cases q3 : asName oa with
          | none => rw [q3] at h4; cases h4
          | some na =>
            cases q4 : asName oz with
            | none => rw [q3, q4] at h4; cases h4
            | some nz =>
              rw [q3, q4] at h4
              dsimp only at h4
              rw [Bool.and_eq_true] at h4
              obtain ⟨p3, rfl⟩ := asName_eq q3
              obtain ⟨p4, rfl⟩ := asName_eq q4
              refine rApl b.hX (ps_expr (pe_bm PySem.F.plainAttrs_list PySem.F.slot_list_append PySem.F.type_list_append mt_append (pe_ix ix_list (methE b h4.1) (methE b h4.2) (plainIx h5)) (pa_cons (snd (H0 := H0) e X sc y W b.gr b.so b.tk b.hN h3).1 pa_nil (star1 h2 _)) rfl (few1 h2 _ _) hl (star1 h2 _) rfl) rfl) fun D σ H ⟨a, bb, bs, kk, xs, e1, e2, e3, e4, e5, e6, q⟩ => ?_
              have hlt : kk < (bs.length : Int) := by
                have := (List.getElem?_eq_some_iff.mp e5).1
                omega
              refine ⟨_, e1, _, e2, a, bs, kk, .ref bb, rfl, rfl, SqL.of e3, ?_, tyList e6, ?_⟩
              · unfold L2.atI L2.ixN
                rw [if_pos e4, if_pos hlt]
                exact e5
              · obtain ⟨g, s, Sh, ok, q⟩ := q
                exact ⟨g, s, Sh, ok, EvX.imp q fun y H1 ⟨w1, w2, w3, w4⟩ => ⟨_, _, _, rfl, rfl, w1, w2 w3, w4⟩⟩
  | .ulk _, X, sc, st, W, b, h => by simp [mtS] at h
  | .forK L tg it bd, X, sc, st, W, b, h => by
    simp only [mtS] at h
    cases q : asFor st with
    | none => rw [q] at h; cases h
    | some pq =>
      obtain ⟨t, i, x⟩ := pq
      rw [q] at h
      dsimp only at h
      obtain ⟨p, rfl⟩ := asFor_eq q
      simp only [Bool.and_eq_true] at h
      obtain ⟨⟨h0, h1⟩, h2⟩ := h
      cases q2 : asKeys i with
      | none => rw [q2] at h1; cases h1
      | some o =>
        rw [q2] at h1
        obtain ⟨pa, pc, rfl, hl, hb⟩ := asKeys_eq q2
        exact rForK b.po b.gr.calm (sKeys b.gr.hw (snd it X sc o W b.gr b.so b.tk b.hN h1).1 (plain_base hb) hl) (sTgt b.gr.hk b.gr.calm b.gr.nd b.so b.hN h0) (sndSs bd X sc x W b h2) (fold0 rfl _)
  | .ex L e, X, sc, st, W, b, h => by
    simp only [mtS] at h
    cases q : asExprS st with
    | none => rw [q] at h; cases h
    | some c =>
      rw [q] at h
      obtain ⟨p, rfl⟩ := asExprS_eq q
      simp only [Bool.and_eq_true] at h
      obtain ⟨pq, q1⟩ := Option.isSome_iff_exists.mp h.1
      obtain ⟨x, y, ys⟩ := pq
      obtain ⟨p1, p2, rfl⟩ := asCall_eq q1
      exact rEx (ps_expr (snd e X sc _ W b.gr b.so b.tk b.hN h.2).1 rfl) fun D σ H h => h
  | .ifs L t a c, X, sc, st, W, b, h => by
    simp only [mtS] at h
    cases q : asIfS st with
    | none => rw [q] at h; cases h
    | some pq =>
      obtain ⟨e, x, y⟩ := pq
      rw [q] at h
      obtain ⟨p, rfl⟩ := asIfS_eq q
      simp only [Bool.and_eq_true, Bool.not_eq_true'] at h
      obtain ⟨⟨⟨h0, h1⟩, h2⟩, h3⟩ := h
      exact rIf ((snd t X sc e W b.gr b.so b.tk b.hN h1).2 h0) (sndSs a X sc x W b h2) (sndSs c X sc y W b h3)
  | .for_ L tg it bd, X, sc, st, W, b, h => by
    simp only [mtS] at h
    cases q : asFor st with
    | none => rw [q] at h; cases h
    | some pq =>
      obtain ⟨t, i, x⟩ := pq
      rw [q] at h
      obtain ⟨p, rfl⟩ := asFor_eq q
      simp only [Bool.and_eq_true] at h
      obtain ⟨⟨⟨h0, h1⟩, h2⟩, h3⟩ := h
      exact rFor b.po b.gr.calm (sIter b.gr.hk (snd it X sc i W b.gr b.so b.tk b.hN h2).1) (sTgt b.gr.hk b.gr.calm b.gr.nd b.so b.hN h0) (sndSs bd X sc x W b h3) (fold0 h1 _)
  | .forR L tg lo hi bd, X, sc, st, W, b, h => by
    simp only [mtS] at h
    cases q : asFor st with
    | none => rw [q] at h; cases h
    | some pq =>
      obtain ⟨t, i, x⟩ := pq
      rw [q] at h
      dsimp only at h
      obtain ⟨p, rfl⟩ := asFor_eq q
      simp only [Bool.and_eq_true] at h
      obtain ⟨⟨h0, h1⟩, h2⟩ := h
      cases q2 : asCall i with
      | none => rw [q2] at h2; cases h2
      | some pq =>
        obtain ⟨r, y, ys⟩ := pq
        rw [q2] at h2
        obtain ⟨p1, p2, rfl⟩ := asCall_eq q2
        simp only [Bool.and_eq_true, decide_eq_true_eq] at h2
        obtain ⟨⟨⟨rfl, h3⟩, h4⟩, h5⟩ := h2
        have hi : PI X t (.Call (.Name "range" p1) (y :: ys) [] p2) (tI Z W H0 (evRng (evE (enOf tb k) lo) (evE (enOf tb k) hi))) := by
          split at h5
          · simp only [Bool.and_eq_true] at h5
            cases isZero_eq h5.1
            exact sRng1 (b.so.gl h3) (b.gr.blt _ (by decide)) h4 (snd hi X sc y W b.gr b.so b.tk b.hN h5.2).1
          · rename_i z
            simp only [Bool.and_eq_true] at h5
            exact sRng2 (b.so.gl h3) (b.gr.blt _ (by decide)) h4 h5.1.1 (snd lo X sc y W b.gr b.so b.tk b.hN h5.1.2).1 (snd hi X sc z W b.gr b.so b.tk b.hN h5.2).1
          · cases h5
        exact rForR b.po b.gr.calm hi (sTgt b.gr.hk b.gr.calm b.gr.nd b.so b.hN h0) (sndSs bd X sc x W b h1) (fold0 rfl _)
  | .whl L t bd, X, sc, st, W, b, h => by
    simp only [mtS] at h
    cases q : asWhile st with
    | none => rw [q] at h; cases h
    | some pq =>
      obtain ⟨e, x⟩ := pq
      rw [q] at h
      obtain ⟨p, rfl⟩ := asWhile_eq q
      simp only [Bool.and_eq_true, Bool.not_eq_true'] at h
      obtain ⟨⟨h0, h1⟩, h2⟩ := h
      exact rWhile b.po ((snd t X sc e W b.gr b.so b.tk b.hN h1).2 h0) (sndSs bd X sc x W b h2)
  | .ret L e, X, sc, st, W, b, h => by
    simp only [mtS] at h
    cases q : asRet st with
    | none => rw [q] at h; cases h
    | some v =>
      rw [q] at h
      obtain ⟨p, rfl⟩ := asRet_eq q
      exact rRet (ps_ret (snd e X sc v W b.gr b.so b.tk b.hN h).1) fun D σ H h => h
  | .rtn, X, sc, st, W, b, h => by
    simp only [mtS] at h
    obtain ⟨p, rfl⟩ := isRetN_eq h
    exact psW ps_retN fun D σ H ⟨g, s, Sh, ok, h⟩ => h .non H Sh ok.ent .non
  | .rse c, X, sc, st, W, b, h => by
    simp only [mtS] at h
    cases q : asRaise st with
    | none => rw [q] at h; cases h
    | some x =>
      rw [q] at h
      obtain ⟨p, m, j, p2, p3, p4, rfl⟩ := asRaise_eq q
      simp only [Bool.and_eq_true, decide_eq_true_eq] at h
      obtain ⟨⟨h0, h1⟩, h2⟩ := h
      obtain ⟨e1, e2, e3, e4, e5⟩ := b.gr.exc c x h0
      exact psW (ps_raise b.gr.calm b.tk (pmk_own PySem.F.excBase_ValueError e2 e1 e3 (raises_own e4 e5) (b.so.gl h1) (okN_of h2).1)) fun D σ H ⟨g, s, Sh, ok, h⟩ => h σ H Sh ok.ent
  | .tr L j e c hd, X, sc, st, W, b, h => by
    cases hd with
    | cst l kc =>
      simp only [mtS] at h
      cases q : asTryC st with
      | none => rw [q] at h; cases h
      | some pq =>
        obtain ⟨t, v, x, y, kk⟩ := pq
        rw [q] at h
        simp only [Bool.and_eq_true, decide_eq_true_eq] at h
        obtain ⟨⟨⟨⟨⟨⟨⟨⟨⟨h0, h1⟩, h2⟩, h3⟩, h4⟩, h5⟩, h6⟩, h7⟩, h8⟩, rfl⟩ := h
        have hL : L = [] := by
          cases L with
          | nil => rfl
          | cons _ _ => cases h0
        subst hL
        obtain ⟨p1, p2, p3, p4, p5, p6, p7, i, rfl⟩ := asTryC_eq q
        refine rTryC b (ps_try_only b.hs b.hf ⟨b.so.gl h5, (okN_of h6).1, .inl (b.gr.exc c x h4).1⟩ b.tk (tb := fun V => tAsg (tV Z V H0 (evE (enOf tb k) e)) (gName j)) (fun V pl xe tk po => ?_) fun a oe cls d pn hz hv => ?_)
        · have b' := b.try_ tk po
          exact pss_one (asgT b' h2 h1 (snd e _ sc v V b'.gr b'.so b'.tk b'.hN h3).1)
        · exact pss_one (ps_set (X := X.suite a ((a, oe) :: pn)) b.gr.nd (by rw [← h7]; exact congrArg (·[l]?) b.hN) (.inl (b.so.loc _ h8)) (pe_cstK kc) rfl (.inr (b.so.loc _ h8)))
    | exc i l =>
      simp only [mtS] at h
      cases q : asTry st with
      | none => rw [q] at h; cases h
      | some pq =>
        obtain ⟨t, v, x, n, y, m⟩ := pq
        rw [q] at h
        simp only [Bool.and_eq_true, decide_eq_true_eq] at h
        obtain ⟨⟨⟨⟨⟨⟨⟨⟨⟨⟨⟨⟨h0, h1⟩, h2⟩, h3⟩, h4⟩, h5⟩, h6⟩, h7⟩, h8⟩, h9⟩, h10⟩, h11⟩, rfl⟩ := h
        have hL : L = [] := by
          cases L with
          | nil => rfl
          | cons _ _ => cases h0
        subst hL
        obtain ⟨p1, p2, p3, p4, p5, p6, p7, rfl⟩ := asTry_eq q
        refine rTry b (ps_try_val b.hs b.hf b.ex b.gr.nd (by rw [b.hN]; exact h7) (b.so.loc _ h8) (by rw [b.hN]; exact h10) (b.so.loc _ h11) (okN_of h9).1 (okN_of h9).2.1 ⟨b.so.gl h5, (okN_of h6).1, .inl (b.gr.exc c x h4).1⟩ b.tk (tb := fun V => tAsg (tV Z V H0 (evE (enOf tb k) e)) (gName j)) fun V pl xe tk po => ?_)
        have b' := b.try_ tk po
        exact pss_one (asgT b' h2 h1 (snd e _ sc v V b'.gr b'.so b'.tk b'.hN h3).1)
  | .pas, X, sc, st, W, b, h => by
    simp only [mtS] at h
    obtain ⟨p, rfl⟩ := isPass_eq h
    exact psW ps_pass fun D σ H ⟨g, s, Sh, ok, h⟩ => h σ H Sh (Same.refl _) ok
  | .cnt, X, sc, st, W, b, h => by
    simp only [mtS] at h
    obtain ⟨p, rfl⟩ := isCont_eq h
    exact psW ps_continue fun D σ H ⟨g, s, Sh, ok, h⟩ => h σ H Sh (Same.refl _) ok
  | .brk, X, sc, st, W, b, h => by
    simp only [mtS] at h
    obtain ⟨p, rfl⟩ := isBrk_eq h
    exact psW ps_break fun D σ H ⟨g, s, Sh, ok, h⟩ => h σ H Sh (Same.refl _) ok
  | .bad, X, sc, st, W, b, h => ⟨fun _ _ _ _ _ _ ⟨_, _, _, _, h⟩ => (show False from h).elim⟩
theorem sndSs : ∀ (c : CSs) (X : Cx) (sc : Scope) (st : List Stmt) (W : WX), Bd tb k Z H0 N sc X W → mtSs tb N c sc st = true → PSs X st (tS Z W H0 (evSs (enOf tb k) c))
  | .nil, X, sc, st, W, b, h => by
    cases st with
    | nil => exact rNil
    | cons _ _ => simp [mtSs] at h
  | .cons c cs, X, sc, st, W, b, h => by
    by_cases hk : ∃ i, c = .lkd i
    · obtain ⟨i, rfl⟩ := hk
      simp only [mtSs] at h
      exact rLkd (i := i) (sndSs cs X sc st W b h)
    · by_cases hk2 : ∃ i, c = .lkk i
      · obtain ⟨i, rfl⟩ := hk2
        simp only [mtSs] at h
        exact rLkk (i := i) (sndSs cs X sc st W b h)
      · by_cases hk3 : ∃ i, c = .shn i
        · obtain ⟨i, rfl⟩ := hk3
          simp only [mtSs] at h
          exact rShn (i := i) b.hX (sndSs cs X sc st W b h)
        · cases st with
          | nil =>
            exfalso
            cases c <;> first | exact hk ⟨_, rfl⟩ | exact hk2 ⟨_, rfl⟩ | exact hk3 ⟨_, rfl⟩ | (simp only [mtSs] at h; cases h)
          | cons s r =>
            have h' : (mtS tb N c sc s && mtSs tb N cs sc r) = true := by
              cases c <;> first | exact absurd ⟨_, rfl⟩ hk | exact absurd ⟨_, rfl⟩ hk2 | exact absurd ⟨_, rfl⟩ hk3 | (simp only [mtSs] at h; exact h)
            rw [Bool.and_eq_true] at h'
            exact rCons (sndS c X sc s W b h'.1) (sndSs cs X sc r W b h'.2)
end
end
end FR
/-! FrSnd13: defs, the law. -/
namespace FR
open PySem PySem.Spec PyProof.Rows L2
section
variable {tb : Tb} {P : Program} {w : World} {K : PySem.W.Frag} {mg : Str → Option Value} {base : Heap} {cA fA : Nat → Addr}
/-- what the top has left: for each def of the table its object, its text matched; the names -/
structure Top (tb : Tb) (K : PySem.W.Frag) (mg : Str → Option Value) (cA fA : Nat → Addr) : Prop where
  fn : ∀ f fd, tb.fs f = some fd → mg fd.name = some (.ref (fA f)) ∧ ∃ (st : Stmt) (fdt : FuncData), FunD K fd.name fd.name (defArgs st) (defBody st) (defScope st) [] [] (fA f) fdt ∧ FnScope fd.N fd.ps (defScope st) ∧ Binds K fdt fd.ps [] ∧ mtSs tb fd.N fd.body (defScope st) (defBody st) = true
  blt : ∀ x ∈ bltNames, mg x = none
  glo : ∀ i x, tb.gn i = some x → ∃ u v, mg x = some u ∧ RelV v u ∧ ∀ T w Sh, Rep ⟨K, T, cA, fA, w⟩ Sh (tb.gl i) v
  exm : ∀ c c' b, tb.sub c' c = some b → PySem.W.exmOne K (.ref (cA c')) (.ref (cA c)) = some b
  exi : ∀ c c' b, tb.sub c' c = some b → ExcC K (cA c') ∧ PySem.W.kitOne K (.ref (cA c')) (.ref (cA c)) = some b ∧ PySem.W.kitOne K (.ref (cA c')) (.type "ValueError") = some true
  exc : ∀ c x, tb.cn c = some x → mg x = some (.ref (cA c)) ∧ PySem.W.excIn K (cA c) He.veBase "ValueError.__new__" = true ∧ PySem.W.keepIn K (.ref (cA c)) = true ∧ PySem.W.subIn K (.ref (cA c)) (.type "BaseException") = some true ∧ PySem.W.typeIn K (.ref (cA c)) = some (.type "type")
theorem scOk_def {CX : CXT} {N : List Str} {qual : Str} {scope : Scope} {f : Addr} {cd : Value} {A : Around} {outer : List Env} {s : Shared} {H : Hp} {E : XK} : ScOk scope (cxOf CX P w K mg base N qual scope f cd A outer s H E) :=
  ⟨fun _ e => e, fun _ e => ⟨e, rfl⟩, fun _ e => .inl e, fun _ e => e⟩
theorem start_get {N : List Str} {vs : List V} {i : Nat} {o : Option V} (hl : vs.length ≤ N.length) (h : (L2.start N vs)[i]? = some o) : (∃ v, vs[i]? = some v ∧ o = some v) ∨ (vs.length ≤ i ∧ o = none) := by
  unfold L2.start at h
  by_cases hi : i < vs.length
  · rw [List.getElem?_append_left (by rw [List.length_map]; exact hi), List.getElem?_map] at h
    obtain ⟨v, e1, e2⟩ := Option.map_eq_some_iff.mp h
    exact .inl ⟨v, e1, e2.symm⟩
  · rw [List.getElem?_append_right (by rw [List.length_map]; omega), List.length_map] at h
    obtain ⟨_, h2⟩ := List.getElem?_eq_some_iff.mp h
    rw [List.getElem_replicate] at h2
    exact .inr ⟨by omega, h2.symm⟩
theorem startG_get {n : Nat} {ds : List D} {i : Nat} {x : Sl} (h : (startG n ds)[i]? = some x) : (∃ d, ds[i]? = some d ∧ x = .dat d) ∨ x = .un := by
  unfold startG at h
  by_cases hi : i < ds.length
  · rw [List.getElem?_append_left (by rw [List.length_map]; exact hi), List.getElem?_map] at h
    obtain ⟨v, e1, e2⟩ := Option.map_eq_some_iff.mp h
    exact .inl ⟨v, e1, e2.symm⟩
  · rw [List.getElem?_append_right (by rw [List.length_map]; omega), List.length_map] at h
    obtain ⟨_, h2⟩ := List.getElem?_eq_some_iff.mp h
    rw [List.getElem_replicate] at h2
    exact .inr h2.symm
/-- the slots at a def's entry -/
theorem ok_start {Z : Gd} {N : List Str} {vs : List V} {ds : List D} {H Sh : Hp} {s : S} (sub : Same Sh H) (t : TownOk Z H Sh s) (r : RepL Z Sh ds vs) (hl : vs.length ≤ N.length) : Ok Z ⟨H, Sh⟩ (L2.start N vs) (startG N.length ds) H Sh s where
  ent := Ext.refl sub t
  len := by
    unfold L2.start startG
    rw [List.length_append, List.length_append, List.length_map, List.length_map, List.length_replicate, List.length_replicate, r.length]
  slot := fun i x o e1 e2 => by
    rcases startG_get e1 with ⟨d, h1, rfl⟩ | rfl
    · obtain ⟨v, h2, r2⟩ := r.get h1
      rcases start_get hl e2 with ⟨v', h3, rfl⟩ | ⟨h3, _⟩
      · rw [h2] at h3
        cases h3
        exact ⟨v, rfl, r2⟩
      · have := (List.getElem?_eq_some_iff.mp h2).1
        omega
    · trivial
  dist := fun i j x y o e1 e2 h1 => by
    rcases startG_get e1 with ⟨d, _, rfl⟩ | rfl
    · cases h1
    · cases h1
theorem nLen {N ps : List Str} {sc : Scope} (S : FnScope N ps sc) : ps.length ≤ N.length := by
  have h := congrArg List.length S.pre
  rw [List.length_take] at h
  omega
/-- the end of a body, as the def's caller wants it -/
theorem evS_run {Z : Gd} {E : XK} {H Sh : Hp} {o : EV Fl} {Q : VK} (h : EvX Z (fun c d _ H' => E c d H') (Rep Z) (runB o) [] H Sh Q) : EvS Z (fun cls d _ H' => E cls d H') ⟨H, Sh⟩ Sh o { nx := fun _ H' => Q .non H', rt := Q } := by
  unfold EvS
  cases o with
  | none => exact h.elim
  | some p =>
    obtain ⟨r, s⟩ := p
    cases r with
    | exn c => exact fun _ H' Sh' e => h H' Sh' e
    | ok fl =>
      cases fl with
      | nx g => exact fun σ H' Sh' _ k => h .non H' Sh' k.ent .non
      | rt d => exact fun v H' Sh' e r => h v H' Sh' e r
      | ct g => exact h.elim
      | bk g => exact h.elim
/-! ### a def's own body, where a locked dict may be unlocked -/
def EvS0 (Z : Gd) (W : WX) (H0 : Ent) (o : EV Fl) (D : Ends) : Prop := match o with
  | some (.ok (.nx g), s) => ∀ (σ : L2.St) (H' Sh' : Hp), Ok Z H0 σ g H' Sh' s → D.nx σ H'
  | some (.ok (.rt d), s) => ∀ (v : V) (H' Sh' : Hp), Ext Z H0.H H0.Sh H' Sh' s → Rep Z Sh' d v → D.rt v H'
  | some (.exn c, s) => ∀ (σ : L2.St) (H' Sh' : Hp), Ext Z H0.H H0.Sh H' Sh' s → W (.ref (Z.cA c)) none σ H'
  | _ => False
def tS0 (Z : Gd) (W : WX) (H0 : Ent) (f : G → S → EV Fl) : TS := fun D σ H => ∃ (g : G) (s : S) (Sh : Hp), Ok Z H0 σ g H Sh s ∧ EvS0 Z W H0 (f g s) D
theorem rNil0 {Z : Gd} {W : WX} {H0 : Ent} {X : Cx} : PSs X [] (tS0 Z W H0 fun g s => some (.ok (.nx g), s)) :=
  pssW pss_nil fun D σ H ⟨g, s, Sh, ok, h⟩ => h σ H Sh ok
theorem rCons0 {Z : Gd} {W : WX} {H0 : Ent} {X : Cx} {st : Stmt} {sts : List Stmt} {ev f : G → S → EV Fl} (h1 : PS X st (tS Z W H0 ev)) (h2 : PSs X sts (tS0 Z W H0 f)) :
    PSs X (st :: sts) (tS0 Z W H0 fun g s => rb (ev g s) fun fl s => match fl with | .nx g => f g s | fl => some (.ok fl, s)) :=
  pssW (pss_cons h1 h2) fun D σ H ⟨g, s, Sh, ok, h⟩ => by
    refine ⟨g, s, Sh, ok, ?_⟩
    dsimp only at h
    unfold EvS
    cases q : ev g s with
    | none =>
      rw [q] at h
      exact h
    | some p =>
      obtain ⟨r, s1⟩ := p
      rw [q] at h
      cases r with
      | exn c => exact h
      | ok fl =>
        rw [rb_ok] at h
        cases fl with
        | nx g2 => exact fun σ' H' Sh' _ k => ⟨g2, s1, Sh', k, h⟩
        | rt d => exact h
        | ct g2 => exact h.elim
        | bk g2 => exact h.elim
theorem rLk0 {Z : Gd} {W : WX} {H0 : Ent} {X : Cx} {i : Nat} {sts : List Stmt} {f : G → S → EV Fl} (h : PSs X sts (tS0 Z W H0 f)) : PSs X sts (tS0 Z W H0 fun g s => f (match g[i]? with | some (.ownD ks) => g.set i (.dat (.dct ks)) | _ => g) s) :=
  pssW (pss_lkA h) fun D σ H ⟨g, s, Sh, ok, h⟩ => by
    dsimp only at h
    split at h
    · rename_i ks q
      obtain ⟨o, e1, a, vs, rfl, h1, h2, h3, h4, r⟩ := ok.get q
      refine .inr ⟨a, _, h4, trivial, fun od => ?_⟩
      obtain ⟨k2, _⟩ := ok.lockD od q e1 h1 h2 h3 h4 r
      exact ⟨_, s, _, k2, h⟩
    · exact .inl ⟨g, s, Sh, ok, h⟩
theorem rLkk0 {Z : Gd} {W : WX} {H0 : Ent} {X : Cx} {i : Nat} {sts : List Stmt} {f : G → S → EV Fl} (h : PSs X sts (tS0 Z W H0 f)) : PSs X sts (tS0 Z W H0 fun g s => f (match g[i]? with | some (.ownD ks) => g.set i (.lkD ks) | _ => g) s) :=
  pssW (pss_lkA h) fun D σ H ⟨g, s, Sh, ok, h⟩ => by
    dsimp only at h
    split at h
    · rename_i ks q
      obtain ⟨o, e1, a, vs, rfl, h1, h2, h3, h4, r⟩ := ok.get q
      refine .inr ⟨a, _, h4, trivial, fun od => ?_⟩
      obtain ⟨k2, _⟩ := ok.lockK od q e1 h1 h2 h3 h4 r
      exact ⟨_, s, _, k2, h⟩
    · exact .inl ⟨g, s, Sh, ok, h⟩
theorem rUlk0 {Z : Gd} {W : WX} {H0 : Ent} {X : Cx} {i : Nat} {sts : List Stmt} {f : G → S → EV Fl} (hX : ∀ a o u, X.H_0 a = some (.frz o u) → H0.H a ≠ none) (h : PSs X sts (tS0 Z W H0 f)) : PSs X sts (tS0 Z W H0 fun g s => f (match g[i]? with | some (.lkD ks) => if D.hkK (ks.map (·.1)) ks then g else (clrG (ks.map (·.1)) g).set i (.ownD ks) | _ => g) s) :=
  pssW (pss_ulA h) fun D σ H ⟨g, s, Sh, ok, h⟩ => by
    dsimp only at h
    split at h
    · rename_i ks q
      by_cases c : FR.D.hkK (ks.map (·.1)) ks = true
      · rw [if_pos c] at h
        exact .inl ⟨g, s, Sh, ok, h⟩
      · rw [if_neg c] at h
        obtain ⟨a, od, vs, h1, h2, k2⟩ := ok.unlockK q (by simpa using c)
        exact .inr ⟨a, od, _, ok.sub _ _ h1, fun o' u' z => hX a o' u' z h2, ⟨_, s, _, k2, h⟩⟩
    · exact .inl ⟨g, s, Sh, ok, h⟩
theorem rShn0 {Z : Gd} {W : WX} {H0 : Ent} {X : Cx} {i : Nat} {sts : List Stmt} {f : G → S → EV Fl} (hX : ∀ a o u, X.H_0 a = some (.frz o u) → H0.H a ≠ none) (h : PSs X sts (tS0 Z W H0 f)) : PSs X sts (tS0 Z W H0 fun g s => f (shnG g i) s) :=
  pssW (pss_ulL h) fun D σ H ⟨g, s, Sh, ok, h⟩ => by
    dsimp only at h
    unfold shnG at h
    split at h
    · rename_i dss q
      split at h
      · rename_i hN
        obtain ⟨bs, H2, Sh2, nd, u, hb, k2, sm⟩ := ok.shareN q hN
        exact .inr ⟨bs, H2, nd, u, fun b hm o' u' z => hX _ _ _ z (hb b hm), _, s, Sh2, k2, h⟩
      · exact .inl ⟨g, s, Sh, ok, h⟩
    · exact .inl ⟨g, s, Sh, ok, h⟩
theorem sndSs0 {k : Nat} {Z : Gd} {H0 : Ent} {N : List Str} {X : Cx} {sc : Scope} {W : WX} (b : Bd tb k Z H0 N sc X W) : ∀ (c : CSs) (st : List Stmt), mtSs0 tb N c sc st = true → PSs X st (tS0 Z W H0 (evSs (enOf tb k) c))
  | .nil, st, h => by
    cases st with
    | nil => exact rNil0
    | cons _ _ => simp [mtSs0] at h
  | .cons c cs, st, h => by
    by_cases hk : ∃ i, c = .lkd i
    · obtain ⟨i, rfl⟩ := hk
      simp only [mtSs0] at h
      exact rLk0 (i := i) (sndSs0 b cs st h)
    · by_cases hk2 : ∃ i, c = .lkk i
      · obtain ⟨i, rfl⟩ := hk2
        simp only [mtSs0] at h
        exact rLkk0 (i := i) (sndSs0 b cs st h)
      · by_cases hk3 : ∃ i, c = .ulk i
        · obtain ⟨i, rfl⟩ := hk3
          simp only [mtSs0] at h
          exact rUlk0 (i := i) b.hX (sndSs0 b cs st h)
        · by_cases hk4 : ∃ i, c = .shn i
          · obtain ⟨i, rfl⟩ := hk4
            simp only [mtSs0] at h
            exact rShn0 (i := i) b.hX (sndSs0 b cs st h)
          · cases st with
            | nil =>
              exfalso
              cases c <;> first | exact hk ⟨_, rfl⟩ | exact hk2 ⟨_, rfl⟩ | exact hk3 ⟨_, rfl⟩ | exact hk4 ⟨_, rfl⟩ | (simp only [mtSs0] at h; cases h)
            | cons s r =>
              have h' : (mtS tb N c sc s && mtSs0 tb N cs sc r) = true := by
                cases c <;> first | exact absurd ⟨_, rfl⟩ hk | exact absurd ⟨_, rfl⟩ hk2 | exact absurd ⟨_, rfl⟩ hk3 | exact absurd ⟨_, rfl⟩ hk4 | (simp only [mtSs0] at h; exact h)
              rw [Bool.and_eq_true] at h'
              exact rCons0 (sndS c X sc s W b h'.1) (sndSs0 b cs r h'.2)
/-! ### defs that hand their own list out -/
def EvSF (Z : Gd) (W : WX) (H0 : Ent) (i : Nat) (o : EV Fl) (D : Ends) : Prop := match o with
  | some (.ok (.nx g), s) => (match g[i]? with
      | some (.own ds) => ∀ (a : Addr) (vs : List V) (H' Sh' : Hp), Ext Z H0.H H0.Sh H' Sh' s → H0.H a = none → H' a = some (.lst vs) → Sh' a = none → RepL Z Sh' ds vs → D.rt (.ref a) H'
      | _ => False)
  | some (.exn c, s) => ∀ (σ : L2.St) (H' Sh' : Hp), Ext Z H0.H H0.Sh H' Sh' s → W (.ref (Z.cA c)) none σ H'
  | _ => False
def tSF (Z : Gd) (W : WX) (H0 : Ent) (i : Nat) (f : G → S → EV Fl) : TS := fun D σ H => ∃ (g : G) (s : S) (Sh : Hp), Ok Z H0 σ g H Sh s ∧ EvSF Z W H0 i (f g s) D
theorem rRetF {Z : Gd} {W : WX} {H0 : Ent} {X : Cx} {i : Nat} {e : Expr} {p : Pos} (h : PE X e (tVar i)) : PSs X [.Return (some e) p] (tSF Z W H0 i fun g s => some (.ok (.nx g), s)) :=
  pssW (pss_one (ps_ret h)) fun D σ H ⟨g, s, Sh, ok, h⟩ => by
    change (match g[i]? with
      | some (.own ds) => ∀ (a : Addr) (vs : List V) (H' Sh' : Hp), Ext Z H0.H H0.Sh H' Sh' s → H0.H a = none → H' a = some (.lst vs) → Sh' a = none → RepL Z Sh' ds vs → D.rt (.ref a) H'
      | _ => False) at h
    split at h
    · rename_i ds q
      obtain ⟨a, vs, e1, h1, h2, h3, h4, r⟩ := ok.own q
      exact ⟨_, e1, h a vs H Sh ok.ent h3 h4 h1 r⟩
    · exact h.elim
theorem rConsF {Z : Gd} {W : WX} {H0 : Ent} {X : Cx} {i : Nat} {st : Stmt} {sts : List Stmt} {ev f : G → S → EV Fl} (h1 : PS X st (tS Z W H0 ev)) (h2 : PSs X sts (tSF Z W H0 i f)) :
    PSs X (st :: sts) (tSF Z W H0 i fun g s => rb (ev g s) fun fl s => match fl with | .nx g => f g s | fl => some (.ok fl, s)) :=
  pssW (pss_cons h1 h2) fun D σ H ⟨g, s, Sh, ok, h⟩ => by
    refine ⟨g, s, Sh, ok, ?_⟩
    dsimp only at h
    unfold EvS
    cases q : ev g s with
    | none =>
      rw [q] at h
      exact h
    | some p =>
      obtain ⟨r, s1⟩ := p
      rw [q] at h
      cases r with
      | exn c => exact h
      | ok fl =>
        rw [rb_ok] at h
        cases fl with
        | nx g2 => exact fun σ' H' Sh' _ k => ⟨g2, s1, Sh', k, h⟩
        | rt d => exact h.elim
        | ct g2 => exact h.elim
        | bk g2 => exact h.elim
theorem rLkdF {Z : Gd} {W : WX} {H0 : Ent} {X : Cx} {i j : Nat} {sts : List Stmt} {f : G → S → EV Fl} (h : PSs X sts (tSF Z W H0 j f)) : PSs X sts (tSF Z W H0 j fun g s => f (match g[i]? with | some (.ownD ks) => g.set i (.dat (.dct ks)) | _ => g) s) :=
  pssW (pss_lkA h) fun D σ H ⟨g, s, Sh, ok, h⟩ => by
    dsimp only at h
    split at h
    · rename_i ks q
      obtain ⟨o, e1, a, vs, rfl, h1, h2, h3, h4, r⟩ := ok.get q
      refine .inr ⟨a, _, h4, trivial, fun od => ?_⟩
      obtain ⟨k2, _⟩ := ok.lockD od q e1 h1 h2 h3 h4 r
      exact ⟨_, s, _, k2, h⟩
    · exact .inl ⟨g, s, Sh, ok, h⟩
theorem rLkkF {Z : Gd} {W : WX} {H0 : Ent} {X : Cx} {i j : Nat} {sts : List Stmt} {f : G → S → EV Fl} (h : PSs X sts (tSF Z W H0 j f)) : PSs X sts (tSF Z W H0 j fun g s => f (match g[i]? with | some (.ownD ks) => g.set i (.lkD ks) | _ => g) s) :=
  pssW (pss_lkA h) fun D σ H ⟨g, s, Sh, ok, h⟩ => by
    dsimp only at h
    split at h
    · rename_i ks q
      obtain ⟨o, e1, a, vs, rfl, h1, h2, h3, h4, r⟩ := ok.get q
      refine .inr ⟨a, _, h4, trivial, fun od => ?_⟩
      obtain ⟨k2, _⟩ := ok.lockK od q e1 h1 h2 h3 h4 r
      exact ⟨_, s, _, k2, h⟩
    · exact .inl ⟨g, s, Sh, ok, h⟩
theorem rShnF {Z : Gd} {W : WX} {H0 : Ent} {X : Cx} {i j : Nat} {sts : List Stmt} {f : G → S → EV Fl} (hX : ∀ a o u, X.H_0 a = some (.frz o u) → H0.H a ≠ none) (h : PSs X sts (tSF Z W H0 j f)) : PSs X sts (tSF Z W H0 j fun g s => f (shnG g i) s) :=
  pssW (pss_ulL h) fun D σ H ⟨g, s, Sh, ok, h⟩ => by
    dsimp only at h
    unfold shnG at h
    split at h
    · rename_i dss q
      split at h
      · rename_i hN
        obtain ⟨bs, H2, Sh2, nd, u, hb, k2, sm⟩ := ok.shareN q hN
        exact .inr ⟨bs, H2, nd, u, fun b hm o' u' z => hX _ _ _ z (hb b hm), _, s, Sh2, k2, h⟩
      · exact .inl ⟨g, s, Sh, ok, h⟩
    · exact .inl ⟨g, s, Sh, ok, h⟩
theorem sndF {k : Nat} {Z : Gd} {H0 : Ent} {N : List Str} {X : Cx} {sc : Scope} {W : WX} (b : Bd tb k Z H0 N sc X W) : ∀ (c : CSs) (p : CSs × Nat) (st : List Stmt), unret c = some p → mtSs tb N c sc st = true → PSs X st (tSF Z W H0 p.2 (evSs (enOf tb k) p.1))
  | .nil, p, st, h, _ => by cases h
  | .cons c cs, p, st, h, m => by
    by_cases last : ∃ i, c = .ret [i] (.var i) ∧ cs = .nil
    · obtain ⟨i, rfl, rfl⟩ := last
      have h5 : unret (.cons (.ret [i] (.var i)) .nil) = some (.nil, i) := by
        rw [unret.eq_def]
        exact if_pos rfl
      rw [h5] at h
      cases h
      cases st with
      | nil => simp [mtSs] at m
      | cons s r =>
        simp only [mtSs, Bool.and_eq_true] at m
        obtain ⟨m1, m2⟩ := m
        cases r with
        | cons _ _ => cases m2
        | nil =>
          simp only [mtS] at m1
          cases q : asRet s with
          | none => rw [q] at m1; cases m1
          | some v =>
            rw [q] at m1
            obtain ⟨pp, rfl⟩ := asRet_eq q
            simp only [mtE] at m1
            cases q2 : asName v with
            | none => rw [q2] at m1; cases m1
            | some x =>
              rw [q2] at m1
              obtain ⟨px, rfl⟩ := asName_eq q2
              simp only [Bool.and_eq_true, decide_eq_true_eq] at m1
              exact rRetF (pv_of b.so (by rw [b.hN]; exact m1.1.1) m1.1.2 m1.2)
    · have h2 : (unret cs).map (fun p => (CSs.cons c p.1, p.2)) = some p := by
        rw [unret.eq_def] at h
        dsimp only at h
        split at h
        · rename_i i j
          split at h
          · rename_i e
            subst e
            exact absurd ⟨_, rfl, rfl⟩ last
          · cases h
        · exact h
      obtain ⟨q, h3, rfl⟩ := Option.map_eq_some_iff.mp h2
      by_cases hk : ∃ i, c = .lkd i
      · obtain ⟨i, rfl⟩ := hk
        simp only [mtSs] at m
        exact rLkdF (i := i) (sndF b cs q st h3 m)
      · by_cases hk2 : ∃ i, c = .lkk i
        · obtain ⟨i, rfl⟩ := hk2
          simp only [mtSs] at m
          exact rLkkF (i := i) (sndF b cs q st h3 m)
        · by_cases hk3 : ∃ i, c = .shn i
          · obtain ⟨i, rfl⟩ := hk3
            simp only [mtSs] at m
            exact rShnF (i := i) b.hX (sndF b cs q st h3 m)
          · cases st with
            | nil =>
              exfalso
              cases c <;> first | exact hk ⟨_, rfl⟩ | exact hk2 ⟨_, rfl⟩ | exact hk3 ⟨_, rfl⟩ | (simp only [mtSs] at m; cases m)
            | cons s r =>
              have m' : (mtS tb N c sc s && mtSs tb N cs sc r) = true := by
                cases c <;> first | exact absurd ⟨_, rfl⟩ hk | exact absurd ⟨_, rfl⟩ hk2 | exact absurd ⟨_, rfl⟩ hk3 | (simp only [mtSs] at m; exact m)
              rw [Bool.and_eq_true] at m'
              exact rConsF (sndS c X sc s W b m'.1) (sndF b cs q r h3 m'.2)
theorem evF_run {Z : Gd} {E : XK} {H Sh : Hp} {i : Nat} {o : EV Fl} {Q : VK} {f : L2.St → Hp → Prop} (h : EvF Z (fun c d _ H' => E c d H') (runF i o) [] H Sh Q) : EvSF Z (fun cls d _ H' => E cls d H') ⟨H, Sh⟩ i o { nx := f, rt := Q } := by
  unfold EvSF
  cases o with
  | none => exact h.elim
  | some p =>
    obtain ⟨r, s⟩ := p
    cases r with
    | exn c => exact fun _ H' Sh' e => h H' Sh' e
    | ok fl =>
      cases fl with
      | nx g =>
        unfold runF at h
        rw [rb_ok] at h
        dsimp only at h ⊢
        split at h
        · rename_i ds q
          try rw [q]
          exact fun a vs H' Sh' e h1 h2 h3 r => h a vs H' Sh' e h1 h2 h3 r
        · exact h.elim
      | rt d => exact h.elim
      | ct g => exact h.elim
      | bk g => exact h.elim
/-- the slots at the entry of a def whose argument is its own -/
theorem ok_startO {Z : Gd} {N : List Str} {a : Addr} {us : List V} {xs : List D} {H Sh : Hp} {s : S} (sub : Same Sh H) (t : TownOk Z H Sh s) (ha : H a = some (.lst us)) (hs : Sh a = none) (hT : some a ≠ Z.T) (r : RepL Z Sh xs us) (hl : 1 ≤ N.length) :
    Ok Z ⟨hide a H, Sh⟩ (L2.start N [.ref a]) (startO N.length [.lst xs]) H Sh s where
  ent := ⟨fun b o _ h => by
    change (if b = a then none else H b) = some o at h
    split at h
    · cases h
    · exact h, Same.refl _, sub, t, fun _ _ h => .inl h⟩
  len := by
    unfold L2.start startO startG
    rw [List.length_set, List.length_append, List.length_append, List.length_map, List.length_map, List.length_replicate, List.length_replicate]
    rfl
  slot := fun i x o e1 e2 => by
    unfold startO at e1
    by_cases hi : i = 0
    · subst hi
      have h0 : 0 < (startG N.length [D.lst xs]).length := by
        unfold startG
        simp
      rw [List.getElem?_set_self h0] at e1
      cases e1
      rcases start_get (by exact hl) e2 with ⟨v', h3, rfl⟩ | ⟨h3, _⟩
      · cases h3
        refine ⟨a, us, rfl, hs, hT, ?_, ha, r⟩
        show hide a H a = none
        unfold hide
        rw [if_pos rfl]
      · simp at h3
    · rw [List.getElem?_set_ne (Ne.symm hi)] at e1
      rcases startG_get e1 with ⟨d, h1, rfl⟩ | rfl
      · have := (List.getElem?_eq_some_iff.mp h1).1
        simp at this
        omega
      · trivial
  dist := fun i j x y o e1 e2 h1 h2 _ _ => by
    have key : ∀ {i : Nat} {x : Sl}, (startO N.length [D.lst xs])[i]? = some x → isOwn x = true → i = 0 := fun {i x} e h => by
      unfold startO at e
      by_cases hi : i = 0
      · exact hi
      · rw [List.getElem?_set_ne (Ne.symm hi)] at e
        rcases startG_get e with ⟨d, _, rfl⟩ | rfl
        · cases h
        · cases h
    rw [key e1 h1, key e2 h2]
/-- what is true of all defs at a level -/
def AllFn (tb : Tb) (P : Program) (w : World) (K : PySem.W.Frag) (mg : Str → Option Value) (base : Heap) (Z : Gd) (k : Nat) : Prop :=
  (∀ f fd, tb.fs f = some fd → ∃ fdt : FuncData, Binds K fdt fd.ps [] ∧ FnOk P w K mg base (L2.CX P w) k (Z.fA f) fdt fd.ps (spF Z (sem tb k) f fd.ps.length)) ∧
  (∀ f fd p, tb.fs f = some fd → unret fd.body = some p → ∃ fdt : FuncData, Binds K fdt fd.ps [] ∧ FnOk P w K mg base (L2.CX P w) k (Z.fA f) fdt fd.ps (spFr Z (semF tb k) f fd.ps.length)) ∧
  ∀ f fd, tb.fs f = some fd → fd.ps.length = 1 → ∃ fdt : FuncData, Binds K fdt fd.ps [] ∧ FnOk P w K mg base (L2.CX P w) k (Z.fA f) fdt fd.ps (spOw Z (semO tb k) f)
theorem gr_of {Z : Gd} {X : Cx} {k : Nat} (T : Top tb X.K X.mg cA fA) (hZ : Z.K = X.K ∧ Z.cA = cA ∧ Z.fA = fA ∧ Z.w = X.w) (room : Room k X.A) (calm : X.calm = true) (nd : X.N.Nodup)
    (fn : AllFn tb X.prog X.w X.K X.mg X.base Z k) : Gr tb k Z X where
  hk := hZ.1.symm
  hw := hZ.2.2.2.symm
  room := room
  hu := by have := room.un; omega
  blt := T.blt
  glo := fun i x e => by
    obtain ⟨u, v, h1, h2, h3⟩ := T.glo i x e
    refine ⟨u, v, h1, h2, fun Sh => ?_⟩
    have := h3 Z.T Z.w Sh
    obtain ⟨ZK, ZT, Zc, Zf, Zw⟩ := Z
    obtain ⟨z1, z2, z3, z4⟩ := hZ
    dsimp only at z1 z2 z3
    subst z1 z2 z3
    exact this
  fn := fun f fd e => by
    obtain ⟨h1, st, fdt, F, _⟩ := T.fn f fd e
    refine ⟨by rw [hZ.2.2.1]; exact h1, by rw [hZ.2.2.1]; exact F.kp, fn.1 f fd e⟩
  exc := fun c x e => by
    rw [hZ.2.1]
    exact T.exc c x e
  exm := fun c c' b e => by
    rw [hZ.2.1]
    exact T.exm c c' b e
  exi := fun c c' b e => by
    rw [hZ.2.1]
    exact T.exi c c' b e
  calm := calm
  nd := nd
  fnF := fn.2.1
  fnO := fn.2.2
theorem all_ok (T : Top tb K mg cA fA) (Z : Gd) (hZ : Z.K = K ∧ Z.cA = cA ∧ Z.fA = fA ∧ Z.w = w) : ∀ k : Nat, AllFn tb P w K mg base Z k
  | 0 => by
    refine ⟨fun f fd e => ?_, fun f fd p e _ => ?_, fun f fd e h1 => ?_⟩
    · obtain ⟨h1, st, fdt, F, S, B, M⟩ := T.fn f fd e
      refine ⟨fdt, B, ⟨fun vs H Q E h => h.1, fun A outer s H args us vs Q E _ _ _ _ h => ?_⟩⟩
      obtain ⟨_, _, _, _, _, _, _, h⟩ := h
      exact h.elim
    · obtain ⟨h1, st, fdt, F, S, B, M⟩ := T.fn f fd e
      refine ⟨fdt, B, ⟨fun vs H Q E h => h.1, fun A outer s H args us vs Q E _ _ _ _ h => ?_⟩⟩
      obtain ⟨_, _, _, _, _, _, _, h⟩ := h
      exact h.elim
    · obtain ⟨_, st, fdt, F, S, B, M⟩ := T.fn f fd e
      refine ⟨fdt, B, ⟨fun vs H Q E h => ?_, fun A outer s H args us vs Q E _ _ _ _ h => ?_⟩⟩
      · obtain ⟨_, _, _, _, _, rfl, _⟩ := h
        exact h1.symm
      · obtain ⟨_, _, _, _, _, _, _, _, _, _, _, _, h⟩ := h
        exact h.elim
  | k + 1 => by
    have ih := all_ok T Z hZ k
    refine ⟨fun f fd e => ?_, fun f fd p e hp => ?_, fun f fd e h1 => ?_⟩
    · obtain ⟨h1, st, fdt, F, S, B, M⟩ := T.fn f fd e
      refine ⟨fdt, B, ?_⟩
      rw [hZ.2.2.1]
      refine FunD.ok F S (fun vs H Q E h => h.1) fun cdv A outer s H vs Q E hr h => ?_
      obtain ⟨hl, ds, st0, Sh, sub, tw, r, ev⟩ := h
      refine ⟨tS Z (fun cls d _ H' => E cls d H') ⟨H, Sh⟩ (evSs (enOf tb k) fd.body), sndSs fd.body _ (defScope st) _ _ ⟨gr_of T hZ hr rfl S.nd ih, scOk_def, takes_of rfl rfl rfl rfl, passes_of rfl, rfl, S.kind, rfl, rfl, rfl, fun a o u e z => absurd ((show H a = some (.frz o u) from e).symm.trans z) (by simp)⟩ M, ?_⟩
      refine ⟨_, st0, Sh, ok_start sub tw r (by rw [hl]; exact nLen S), ?_⟩
      rw [sem_succ, e] at ev
      dsimp only at ev
      split at ev
      · exact evS_run ev
      · exact ev.elim
    · obtain ⟨h1, st, fdt, F, S, B, M⟩ := T.fn f fd e
      refine ⟨fdt, B, ?_⟩
      rw [hZ.2.2.1]
      refine FunD.ok F S (fun vs H Q E h => h.1) fun cdv A outer s H vs Q E hr h => ?_
      obtain ⟨hl, ds, st0, Sh, sub, tw, r, ev⟩ := h
      refine ⟨tSF Z (fun cls d _ H' => E cls d H') ⟨H, Sh⟩ p.2 (evSs (enOf tb k) p.1), sndF (sc := defScope st) (N := fd.N) ⟨gr_of T hZ hr rfl S.nd ih, scOk_def, takes_of rfl rfl rfl rfl, passes_of rfl, rfl, S.kind, rfl, rfl, rfl, fun a o u e z => absurd ((show H a = some (.frz o u) from e).symm.trans z) (by simp)⟩ fd.body p _ hp M, ?_⟩
      refine ⟨_, st0, Sh, ok_start sub tw r (by rw [hl]; exact nLen S), ?_⟩
      rw [semF_succ, e] at ev
      dsimp only at ev
      rw [hp] at ev
      dsimp only at ev
      split at ev
      · exact evF_run ev
      · exact ev.elim
    · obtain ⟨_, st, fdt, F, S, B, M⟩ := T.fn f fd e
      refine ⟨fdt, B, ?_⟩
      rw [hZ.2.2.1]
      refine FunD.ok F S (fun vs H Q E h => ?_) fun cdv A outer s H vs Q E hr h => ?_
      · obtain ⟨_, _, _, _, _, rfl, _⟩ := h
        exact h1.symm
      · obtain ⟨a, us, xs, st0, Sh, rfl, sub, tw, ha, hs, hT, r, ev⟩ := h
        refine ⟨tS Z (fun cls d _ H' => E cls d H') ⟨hide a H, Sh⟩ (evSs (enOf tb k) fd.body), sndSs fd.body _ (defScope st) _ _ ⟨gr_of T hZ hr rfl S.nd ih, scOk_def, takes_of rfl rfl rfl rfl, passes_of rfl, rfl, S.kind, rfl, rfl, rfl, fun b o u e z => by
          have e' : H b = some (.frz o u) := e
          by_cases c : b = a
          · rw [c, ha] at e'
            cases e'
          · have z' : hide a H b = none := z
            rw [hide, if_neg c, e'] at z'
            cases z'⟩ M, ?_⟩
        refine ⟨_, st0, Sh, ok_startO sub tw ha hs hT r (by rw [← h1]; exact nLen S), ?_⟩
        rw [semO_succ, e] at ev
        dsimp only at ev
        rw [if_pos h1] at ev
        exact evS_run ev
/-! ### the law -/
def spLaw (K : PySem.W.Frag) : Sp := fun vs H Q _ => ∃ (a : Addr) (ns : List Int), vs = [.ref a] ∧ SqL K H a (ns.map V.int) ∧ ns.length ≤ 63 ∧ ∀ H', Q (.bl true) H'
theorem law_ok {k i : Nat} {f : Addr} {fdt : FuncData} {st : Stmt} {N : List Str} {x : Str} {body : CSs} {t : Expr} {p p2 : Pos} {rest : List Stmt} (T : Top tb K mg cA fA) (F : FunD K "law" "law" (defArgs st) (defBody st) (defScope st) [] [] f fdt) (S : FnScope N [x] (defScope st))
    (hb : defBody st = .Assign [t] (.List [] p) p2 :: rest) (ht : nameIs N (defScope st) i t = true) (hi : i ≠ 0) (M : mtSs0 tb N body (defScope st) rest = true)
    (h : ∀ ns : List Int, ns.length ≤ 63 → ∃ s', runB (evSs (enOf tb k) body (lawG N.length i ns) (some 0)) = some (.ok (.bl true), s')) : FnOk P w K mg base (L2.CX P w) (k + 1) f fdt [x] (spLaw K) := by
  refine FunD.ok F S (fun vs H Q E h => ?_) fun cdv A outer s H vs Q E hr hq => ?_
  · obtain ⟨a, ns, rfl, _⟩ := h
    rfl
  · obtain ⟨a, ns, rfl, hS, hl, q⟩ := hq
    obtain ⟨x1, px, rfl, n1, l1⟩ := nameIs_eq ht
    obtain ⟨s', hev⟩ := h ns hl
    rw [hb]
    refine ⟨_, pss_cons (ps_set (i := i) S.nd n1 (scOk_def.lc l1).1 (pe_lst pa_nil) rfl (scOk_def.lc l1).2) (t := tAsg (tLst tNil) (gName i)) (u := fun D σ H' => ∃ (q : Addr) (H0 : Ent), (∀ a o u, H a = some (.frz o u) → H0.H a ≠ none) ∧ tS0 ⟨K, some q, cA, fA, w⟩ (fun cls d _ H' => E cls d H') H0 (evSs (enOf tb k) body) D σ H')
      ⟨fun pins s σ H1 D I ⟨q, H0, hX, z⟩ => (sndSs0 (sc := defScope st) (N := N) ⟨gr_of T ⟨rfl, rfl, rfl, rfl⟩ hr rfl S.nd (all_ok T ⟨K, some q, cA, fA, w⟩ ⟨rfl, rfl, rfl, rfl⟩ k), scOk_def, takes_of rfl rfl rfl rfl, passes_of rfl, rfl, S.kind, rfl, rfl, rfl, hX⟩ body _ M).run pins s σ H1 D I z⟩, ?_⟩
    refine ⟨Nat.zero_le _, fun p0 np => ⟨p0, ⟨upd H p0 (.lst []), H⟩, (fun a o u e z => by
      by_cases c : a = p0
      · subst c
        rw [np] at e
        cases e
      · have z2 : upd H p0 (.lst []) a = none := z
        rw [show upd H p0 (.lst []) a = H a from upd_ne c, e] at z2
        cases z2), lawG N.length i ns, some 0, H, ?_, ?_⟩⟩
    · have sub : Same H (upd H p0 (.lst [])) := same_fresh np
      have tw : TownOk ⟨K, some p0, cA, fA, w⟩ (upd H p0 (.lst [])) H (some 0) := ⟨np, upd_same⟩
      have k0 : Ok ⟨K, some p0, cA, fA, w⟩ ⟨upd H p0 (.lst []), H⟩ (L2.start N [.ref a]) (startG N.length [.scr ns]) (upd H p0 (.lst [])) H (some 0) := ok_start sub tw (.cons (.scr hS) .nil) (nLen S)
      exact k0.set (.town rfl) i
    · have e2 : evSs (enOf tb k) body (lawG N.length i ns) (some 0) = some (.ok (.rt (.bl true)), s') := by
        cases q0 : evSs (enOf tb k) body (lawG N.length i ns) (some 0) with
        | none =>
          rw [q0] at hev
          cases hev
        | some p1 =>
          obtain ⟨r, s1⟩ := p1
          rw [q0] at hev
          cases r with
          | exn c => cases hev
          | ok fl =>
            cases fl with
            | nx g => cases hev
            | ct g => cases hev
            | bk g => cases hev
            | rt d =>
              cases hev
              rfl
      rw [e2]
      intro v H' Sh' _ r
      cases r
      exact q H'
end
end FR
/-! FrTop: a claim's table, from the head's facts. -/
namespace FR
open PySem PySem.Spec PyProof.Rows L2
def dfOf (top : Nat → Stmt) (x : Str) (i : Nat) : He.DefD := ⟨(x, none), x, x, defArgs (top i), defBody (top i), defScope (top i), [], []⟩
def fnOf (top : Nat → Stmt) (ds : List DfC) : List He.DefD := ds.map fun d => dfOf top d.fd.name d.pos
def glFa (g : GlC) : He.Fa := match g.val with
  | .int i => .int g.name i
  | .str x => .str g.name x
  | _ => .glo g.name
def faOf (ds : List DfC) (gs : List GlC) (ts : List TuC) (cs : List (Nat × Str)) : List He.Fa :=
  (ds.map fun d => He.Fa.glo d.fd.name) ++ (bltNames.map He.Fa.free ++ (gs.map glFa ++ (ts.map (fun t => He.Fa.glo t.name) ++ (cs.map (fun c => He.Fa.glo c.2) ++ cs.map fun c => He.Fa.exc c.2))))
def Cst.dv : Cst → He.Dv
  | .non => .non
  | .bl b => .bl b
  | .int i => .int i
  | .str x => .str x
/-! the Hook, with the module's tuples -/
abbrev AlT : Type := He.AlD × Bool
def tuB (ts : List TuC) (K : PySem.W.Frag) : Bool := ts.all fun t => He.tupB K t.name (t.vals.map Cst.dv)
/-- what the errors' classes say -/
def exC (K : PySem.W.Frag) (D : Addr) : Bool :=
  decide (PySem.W.findIn K (.ref D) "__getattribute__" = some (some (.builtin "BaseException.__getattribute__"))) && (decide (PySem.W.findIn K (.ref D) "__getattr__" = some none) && (decide (PySem.W.subIn K (.ref D) (.type "BaseException") = some true) && (PySem.W.hasDictIn K D &&
  (decide (PySem.W.findIn K (.ref D) "__class__" = some (some (.builtin "object.__class__"))) && (decide (PySem.W.specialIn K (.builtin "object.__class__") "__get__" = some (some (.builtin "getset_descriptor.__get__"))) && (decide (PySem.W.takesIn K (.builtin "object.__class__") = some true) && decide (PySem.W.mroIn K D (.type "object") = some true)))))))
theorem exC_ok {K : PySem.W.Frag} {D : Addr} (h : exC K D = true) : ExcC K D := by
  unfold exC at h
  simp only [Bool.and_eq_true, decide_eq_true_eq] at h
  obtain ⟨h1, h2, h3, h4, h5, h6, h7, h8⟩ := h
  exact ⟨h1, h2, h3, h4, h5, h6, h7, h8⟩
def exB (cs : List (Nat × Str)) (K : PySem.W.Frag) : Bool := cs.all fun c => exC K (He.ga K c.2) && (decide (PySem.W.kitOne K (.ref (He.ga K c.2)) (.type "ValueError") = some true) &&
  cs.all fun d => decide (PySem.W.kitOne K (.ref (He.ga K c.2)) (.ref (He.ga K d.2)) = some (isSub c.1 d.1)) && decide (PySem.W.exmOne K (.ref (He.ga K c.2)) (.ref (He.ga K d.2)) = some (isSub c.1 d.1)))
def obsT (fa : List He.Fa) (fn : List He.DefD) (ts : List TuC) (cs : List (Nat × Str)) (K : PySem.W.Frag) : AlT := (He.obsD fa fn K, tuB ts K && exB cs K)
def SaysT (fa : List He.Fa) (fn : List He.DefD) (ts : List TuC) (cs : List (Nat × Str)) (K : PySem.W.Frag) : Prop := obsT fa fn ts cs K = (He.valD fn, true)
def obsTG (n : Nat) (fa : List He.Fa) (fn : List He.DefD) (ts : List TuC) (cs : List (Nat × Str)) (g : Addr → Option Obj) : AlT := obsT fa fn ts cs (He.frG g (He.asD g n))
def hookT (n : Nat) (fa : List He.Fa) (fn : List He.DefD) (ts : List TuC) (cs : List (Nat × Str)) : PySem.W.Hook where
  α := AlT
  obs := fun s => obsTG n fa fn ts cs s.heap.get?
  val := fun _ => (He.valD fn, true)
  says := fun _ h => ∃ K : PySem.W.Frag, K.In h ∧ SaysT fa fn ts cs K
  of := fun _ _ e => ⟨_, He.frG_in, e⟩
  keeps := fun _ _ _ ⟨K, hK, c⟩ k => ⟨K, PySem.W.Frag.In.keeps hK k, c⟩
theorem obsTG_eq {n : Nat} {fa : List He.Fa} {fn : List He.DefD} {ts : List TuC} {cs : List (Nat × Str)} {g : Addr → Option Obj} {s : Shared} (h : ∀ a, g a = s.heap.get? a) : obsTG n fa fn ts cs g = (hookT n fa fn ts cs).obs s := by
  have : g = s.heap.get? := funext h
  rw [this]
  rfl
theorem SaysT.d {fa : List He.Fa} {fn : List He.DefD} {ts : List TuC} {cs : List (Nat × Str)} {K : PySem.W.Frag} (c : SaysT fa fn ts cs K) : He.SaysD fa fn K := congrArg (fun z : AlT => z.1) c
theorem SaysT.t {fa : List He.Fa} {fn : List He.DefD} {ts : List TuC} {cs : List (Nat × Str)} {K : PySem.W.Frag} (c : SaysT fa fn ts cs K) : tuB ts K = true := (Bool.and_eq_true_iff.mp (show (tuB ts K && exB cs K) = true from congrArg (fun z : AlT => z.2) c)).1
theorem SaysT.e {fa : List He.Fa} {fn : List He.DefD} {ts : List TuC} {cs : List (Nat × Str)} {K : PySem.W.Frag} (c : SaysT fa fn ts cs K) : exB cs K = true := (Bool.and_eq_true_iff.mp (show (tuB ts K && exB cs K) = true from congrArg (fun z : AlT => z.2) c)).2
theorem exB_ok {ds : List DfC} {gs : List GlC} {ts : List TuC} {cs : List (Nat × Str)} {K : PySem.W.Frag} (h : exB cs K = true) {c c' : Nat} {b : Bool} (e : (mkTb ds gs ts cs).sub c' c = some b) :
    ExcC K (He.ga K ((cnOf cs c').getD "")) ∧ PySem.W.kitOne K (.ref (He.ga K ((cnOf cs c').getD ""))) (.type "ValueError") = some true ∧ PySem.W.kitOne K (.ref (He.ga K ((cnOf cs c').getD ""))) (.ref (He.ga K ((cnOf cs c).getD ""))) = some b ∧
      PySem.W.exmOne K (.ref (He.ga K ((cnOf cs c').getD ""))) (.ref (He.ga K ((cnOf cs c).getD ""))) = some b := by
  have e0 : (if ((cnOf cs c').isSome && (cnOf cs c).isSome) = true then some (isSub c' c) else none) = some b := e
  split at e0
  · rename_i hs
    rw [Bool.and_eq_true] at hs
    cases e0
    have look : ∀ {n : Nat}, (cnOf cs n).isSome = true → ∃ p ∈ cs, p.1 = n ∧ cnOf cs n = some p.2 := fun {n} hn => by
      unfold cnOf at hn ⊢
      rw [Option.isSome_map] at hn
      obtain ⟨p, hp⟩ := Option.isSome_iff_exists.mp hn
      refine ⟨p, List.mem_of_find?_eq_some hp, by simpa using List.find?_some hp, ?_⟩
      rw [hp]
      rfl
    obtain ⟨p, p1, p2, p3⟩ := look hs.1
    obtain ⟨q, q1, q2, q3⟩ := look hs.2
    rw [p3, q3]
    have k1 := List.all_eq_true.mp h p p1
    simp only [Bool.and_eq_true, decide_eq_true_eq] at k1
    obtain ⟨a1, a2, a3⟩ := k1
    have k2 := List.all_eq_true.mp a3 q q1
    simp only [Bool.and_eq_true, decide_eq_true_eq] at k2
    rw [p2, q2] at k2
    exact ⟨exC_ok a1, a2, k2.1, k2.2⟩
  · cases e0
theorem rep_csts {Z : Gd} {Sh : Hp} {K : PySem.W.Frag} : ∀ vals : List Cst, RepL Z Sh (vals.map Cst.d) ((vals.map Cst.dv).map (He.Dv.v K))
  | [] => .nil
  | .non :: r => .cons .non (rep_csts r)
  | .bl b :: r => .cons (.bl b) (rep_csts r)
  | .int i :: r => .cons (.int i) (rep_csts r)
  | .str x :: r => .cons (.str x) (rep_csts r)
def scB (N P : List Str) (sc : Scope) : Bool := decide (sc.kind = .function) && (!sc.isCoroutine && (!sc.isGenerator && (decide N.Nodup && (decide (N.take P.length = P) && (P.all (fun x => decide (sc.names.lookup x = some .local) || decide (sc.names.lookup x = some .cell)) && sc.names.all fun y => !decide (y.2 = .free))))))
theorem scB_ok {N P : List Str} {sc : Scope} (h : scB N P sc = true) : FnScope N P sc := by
  unfold scB at h
  simp only [Bool.and_eq_true, decide_eq_true_eq, Bool.not_eq_true', List.all_eq_true, Bool.or_eq_true, decide_eq_false_iff_not] at h
  obtain ⟨h1, h2, h3, h4, h5, h6, h7⟩ := h
  exact ⟨h1, h2, h3, h4, h5, h6, h7⟩
def okD (top : Nat → Stmt) (tb : Tb) (d : DfC) : Bool := scB d.fd.N d.fd.ps (defScope (top d.pos)) && mtSs tb d.fd.N d.fd.body (defScope (top d.pos)) (defBody (top d.pos))
def glB (g : GlC) : Bool := match g.val with
  | .int _ => true
  | .str _ => true
  | _ => false
def okAll (top : Nat → Stmt) (tb : Tb) (ds : List DfC) : Bool := ds.all (okD top tb)
theorem says_fa {fa : List He.Fa} {fn : List He.DefD} {K : PySem.W.Frag} (c : He.SaysD fa fn K) : ∀ f ∈ fa, f.ok K = true := by
  intro f hf
  obtain ⟨i, h⟩ := List.mem_iff_getElem?.mp hf
  exact c.fact i h
theorem find_id {α : Type} {p : α → Bool} {l : List α} {a : α} (h : l.find? p = some a) : a ∈ l ∧ p a = true := ⟨List.mem_of_find?_eq_some h, List.find?_some h⟩
theorem top_of {ds : List DfC} {gs : List GlC} {ts : List TuC} {cs : List (Nat × Str)} {top : Nat → Stmt} {K : PySem.W.Frag} {h : Heap} {mg : Str → Option Value} {fa2 : List He.Fa} {fn2 : List He.DefD} (X : K.In h) (G : h.Ns mainGlobals mg) (c : He.SaysD (faOf ds gs ts cs ++ fa2) (fnOf top ds ++ fn2) K) (ct : tuB ts K = true) (ce : exB cs K = true)
    (ck : okAll top (mkTb ds gs ts cs) ds = true) (hg : gs.all glB = true)
    (bd : ∀ d ∈ ds, ∀ (f : Addr) (fdt : FuncData), FunD K d.fd.name d.fd.name (defArgs (top d.pos)) (defBody (top d.pos)) (defScope (top d.pos)) [] [] f fdt → Binds K fdt d.fd.ps []) :
    Top (mkTb ds gs ts cs) K mg (fun i => He.ga K ((cnOf cs i).getD "")) (fun f => He.ga K (((fsOf ds f).map Fd.name).getD "")) where
  fn := fun f fd e => by
    have e1 : fsOf ds f = some fd := e
    rw [e1]
    unfold fsOf at e1
    obtain ⟨d, e2, rfl⟩ := Option.map_eq_some_iff.mp e1
    obtain ⟨hd, _⟩ := find_id e2
    refine ⟨He.glo_ok X G (says_fa c _ (List.mem_append_left _ (List.mem_append_left _ (List.mem_map_of_mem hd)))), top d.pos, ?_⟩
    obtain ⟨i, hi⟩ := List.mem_iff_getElem?.mp (List.mem_append_left fn2 (List.mem_map_of_mem (f := fun d : DfC => dfOf top d.fd.name d.pos) hd))
    obtain ⟨fdt, F⟩ := c.def_ i hi
    have k := List.all_eq_true.mp ck d hd
    unfold okD at k
    obtain ⟨k1, k2⟩ := Bool.and_eq_true_iff.mp k
    exact ⟨fdt, F, scB_ok k1, bd d hd _ fdt F, k2⟩
  blt := fun x hx => He.free_ok X G (says_fa c _ (List.mem_append_left _ (List.mem_append_right _ (List.mem_append_left _ (List.mem_map_of_mem hx)))))
  glo := fun i x e => by
    cases e2 : glFind gs i with
    | some g =>
      have e1 : (mkTb ds gs ts cs).gn i = some g.name := by
        show (match glFind gs i with | some g => some g.name | none => (tuFind ts i).map TuC.name) = _
        rw [e2]
      rw [e1] at e
      cases e
      have e3 : (mkTb ds gs ts cs).gl i = g.val.d := by
        show (match glFind gs i with | some g => g.val.d | none => match tuFind ts i with | some t => D.tup (t.vals.map Cst.d) | none => D.non) = _
        rw [e2]
      rw [e3]
      obtain ⟨hd, _⟩ := find_id e2
      have hf := says_fa c _ (List.mem_append_left _ (List.mem_append_right _ (List.mem_append_right _ (List.mem_append_left _ (List.mem_map_of_mem (f := glFa) hd)))))
      have hb := List.all_eq_true.mp hg g hd
      obtain ⟨gi, gx, gv⟩ := g
      cases gv with
      | non => cases hb
      | bl b => cases hb
      | int i =>
        obtain ⟨t, e4⟩ := He.int_ok X G hf
        exact ⟨_, .int i, e4, ⟨t, rfl⟩, fun _ _ _ => .int i⟩
      | str z =>
        obtain ⟨t, e4⟩ := He.str_ok X G hf
        exact ⟨_, .str z, e4, ⟨t, rfl⟩, fun _ _ _ => .str z⟩
    | none =>
      have e1 : (mkTb ds gs ts cs).gn i = (tuFind ts i).map TuC.name := by
        show (match glFind gs i with | some g => some g.name | none => (tuFind ts i).map TuC.name) = _
        rw [e2]
      rw [e1] at e
      obtain ⟨t, e5, rfl⟩ := Option.map_eq_some_iff.mp e
      have e3 : (mkTb ds gs ts cs).gl i = .tup (t.vals.map Cst.d) := by
        show (match glFind gs i with | some g => g.val.d | none => match tuFind ts i with | some t => D.tup (t.vals.map Cst.d) | none => D.non) = _
        rw [e2, e5]
      rw [e3]
      obtain ⟨hd, _⟩ := find_id e5
      have e4 := He.glo_ok X G (says_fa c _ (List.mem_append_left _ (List.mem_append_right _ (List.mem_append_right _ (List.mem_append_right _ (List.mem_append_left _ (List.mem_map_of_mem (f := fun t : TuC => He.Fa.glo t.name) hd)))))))
      exact ⟨_, .ref (He.ga K t.name), e4, rfl, fun _ _ Sh => .tup (He.tupB_ok (List.all_eq_true.mp ct t hd) Sh) (rep_csts t.vals)⟩
  exm := fun c c' b e => (exB_ok ce e).2.2.2
  exi := fun c c' b e => ⟨(exB_ok ce e).1, (exB_ok ce e).2.2.1, (exB_ok ce e).2.1⟩
  exc := fun i x e => by
    have e1 : cnOf cs i = some x := e
    rw [e1]
    unfold cnOf at e1
    obtain ⟨d, e2, rfl⟩ := Option.map_eq_some_iff.mp e1
    obtain ⟨hd, _⟩ := find_id e2
    refine ⟨He.glo_ok X G (says_fa c _ (List.mem_append_left _ (List.mem_append_right _ (List.mem_append_right _ (List.mem_append_right _ (List.mem_append_right _ (List.mem_append_left _ (List.mem_map_of_mem (f := fun c : Nat × Str => He.Fa.glo c.2) hd)))))))), ?_⟩
    exact He.exc_ok (says_fa c _ (List.mem_append_left _ (List.mem_append_right _ (List.mem_append_right _ (List.mem_append_right _ (List.mem_append_right _ (List.mem_append_right _ (List.mem_map_of_mem (f := fun c : Nat × Str => He.Fa.exc c.2) hd))))))))
def lawChk (st : Stmt) (tb : Tb) (fd : Fd) (i : Nat) : Bool := match defBody st with
  | .Assign [t] (.List [] _) _ :: rest => nameIs fd.N (defScope st) i t && (decide (i ≠ 0) && mtSs0 tb fd.N fd.body (defScope st) rest)
  | _ => false
theorem law_fin {tb : Tb} {P : Program} {w : World} {K : PySem.W.Frag} {mg : Str → Option Value} {base : Heap} {cA fA : Nat → Addr} {fd : Fd} {i k : Nat} {f : Addr} {fdt : FuncData} {st : Stmt} {x : Str} (T : Top tb K mg cA fA) (F : FunD K "law" "law" (defArgs st) (defBody st) (defScope st) [] [] f fdt) (S : FnScope fd.N [x] (defScope st))
    (ck : lawChk st tb fd i = true) (h : LawT tb fd i k) : FnOk P w K mg base (L2.CX P w) (k + 1) f fdt [x] (spLaw K) := by
  unfold lawChk at ck
  split at ck
  · rename_i t p p2 rest hb
    obtain ⟨c1, c2⟩ := Bool.and_eq_true_iff.mp ck
    obtain ⟨c2, c3⟩ := Bool.and_eq_true_iff.mp c2
    exact law_ok T F S hb c1 (of_decide_eq_true c2) c3 h
  · cases ck
/-- the end, an exception's place told by the world -/
theorem walk_w {l : PySem.W.OpenLaw} {n k : Nat} {q : Program} {loose : List Str} {XP : (Str → Option Value) → Heap → Prop} {YP : World → Heap → Prop} {d : DefRec} {x : Str} (hn : l.most = some n) (hn2 : n ≤ sizeLine)
    (hdf : d.params.defaults = []) (hr : Room k callerA)
    (F : ∀ (w : World) (mg : Str → Option Value) (fa : Addr) (h : Heap), YP w h → h.Ns mainGlobals mg → mg d.name = some (.ref fa) → ∃ (K : PySem.W.Frag) (fd : FuncData), K.In h ∧ (∀ (s : Shared) (u : Value), BindsTo s fd ⟨[u], []⟩ [(x, u)]) ∧
        ∀ base : Heap, K.In base → base.Ns mainGlobals mg → FnOk l.prog w K mg base (L2.CX l.prog w) k fa fd [x] (spLaw K)) (hm : n ≤ 63) :
    PySem.W.WalkO q loose XP YP l.row.toRowW d [] (fun f vs => PySem.call f vs) := by
  refine Att.attach_call hn hdf fun w s0 s1 mg mb fa o pm cd doc a vs ns G0 Y ho hd hcd hmg hobj hints hlen hg => ?_
  obtain ⟨K, fd, KX, hb, hF⟩ := F w mg fa _ Y G0.T.g hmg
  refine law_call KX G0.T.g G0.T.b G0.T.builtins G0.T.nolimit hg hobj hints (Nat.le_trans hlen hn2) hr hF hb (fun H _ hS => ⟨a, ns, rfl, hS, Nat.le_trans hlen hm, fun _ => rfl⟩) fun H e s' hc => ?_
  obtain ⟨_, _, _, _, _, _, _, _, _, _, _, _, z⟩ := hc
  exact z
end FR
namespace FR
open PySem (Str)
def cb_divisor : CSs := .cons (.whl [] (.var 1) (.cons (.par [] [0, 1] (.cons (.var 1) (.cons (.bin .mod (.var 0) (.var 1)) (.nil)))) (.nil))) (.cons (.ret [] (.bif .abs (.cons (.var 0) (.nil)))) (.nil))
def cb_least : CSs := .cons (.ifs [] (.cmp .lt (.var 1) (.cst (.int 0))) (.cons (.par [] [0, 1] (.cons (.bin .sub (.cst (.int 0)) (.var 0)) (.cons (.bin .sub (.cst (.int 0)) (.var 1)) (.nil)))) (.nil)) (.nil)) (.cons (.asg [] 2 (.call 1 (.cons (.var 0) (.cons (.var 1) (.nil))))) (.cons (.ret [] (.tup (.cons (.bin .fdiv (.var 0) (.var 2)) (.cons (.bin .fdiv (.var 1) (.var 2)) (.nil))))) (.nil)))
def cb_is_whole : CSs := .cons (.ret [] (.and (.isi (.var 0) .int) (.and (.not (.isi (.var 0) .bool)) (.chn .le .le (.var 1) (.var 0) (.var 2))))) (.nil)
def cb_is_leg : CSs := .cons (.ifs [] (.or (.not (.isi (.var 0) .tuple)) (.or (.cmp .ne (.bif .len (.cons (.var 0) (.nil))) (.cst (.int 3))) (.not (.call 3 (.cons (.idx (.var 0) (.cst (.int 2))) (.cons (.cst (.int 1)) (.cons (.glo 4) (.nil)))))))) (.cons (.ret [] (.cst (.bl false))) (.nil)) (.nil)) (.cons (.ret [] (.bif .all (.cons (.comp (.nm 1) (.slc (.var 0) (.cst .non) (.cst (.int 2))) (.cst (.bl true)) (.call 3 (.cons (.var 1) (.cons (.bin .sub (.cst (.int 0)) (.glo 2)) (.cons (.glo 2) (.nil)))))) (.nil)))) (.nil))
def cb_look_legs : CSs := .cons (.ifs [] (.or (.not (.isi (.var 0) .list)) (.or (.not (.chn .le .le (.cst (.int 1)) (.bif .len (.cons (.var 0) (.nil))) (.glo 3))) (.not (.bif .all (.cons (.comp (.nm 1) (.var 0) (.cst (.bl true)) (.call 4 (.cons (.var 1) (.nil)))) (.nil)))))) (.cons (.rse 1) (.nil)) (.nil)) (.nil)
def cb_closing : CSs := .cons (.ex [] (.call 5 (.cons (.var 0) (.nil)))) (.cons (.ret [] (.call 7 (.cons (.var 0) (.nil)))) (.nil))
def cb_closing_of : CSs := .cons (.ret [] (.tup (.cons (.bif .sum (.cons (.comp (.nm 1) (.var 0) (.cst (.bl true)) (.idx (.var 1) (.cst (.int 0)))) (.nil))) (.cons (.bif .sum (.cons (.comp (.nm 1) (.var 0) (.cst (.bl true)) (.idx (.var 1) (.cst (.int 1)))) (.nil))) (.nil))))) (.nil)
def cb_sharpness : CSs := .cons (.ex [] (.call 5 (.cons (.var 0) (.nil)))) (.cons (.tas [] [2, 3] (.call 7 (.cons (.var 0) (.nil)))) (.cons (.asg [] 1 (.bif .sum (.cons (.comp (.nm 4) (.var 0) (.cst (.bl true)) (.idx (.var 4) (.cst (.int 2)))) (.nil)))) (.cons (.ret [] (.call 2 (.cons (.bin .add (.bin .mul (.var 2) (.var 2)) (.bin .mul (.var 3) (.var 3))) (.cons (.bin .mul (.var 1) (.var 1)) (.nil))))) (.nil))))
def cb_w_cell : CSs := .cons (.ifs [] (.var 0) (.cons (.ret [] (.idx (.var 0) (.bin .mod (.var 1) (.bif .len (.cons (.var 0) (.nil)))))) (.nil)) (.nil)) (.cons (.ret [] (.cst (.int 0))) (.nil))
def cb_w_mix : CSs := .cons (.asg [] 2 (.bin .mod (.bin .add (.call 9 (.cons (.var 0) (.cons (.var 1) (.nil)))) (.bin .mul (.cst (.int 104729)) (.bin .add (.var 1) (.cst (.int 1))))) (.cst (.int 4294967291)))) (.cons (.asg [] 2 (.bin .mod (.bin .pow (.var 2) (.cst (.int 5))) (.cst (.int 4294967279)))) (.cons (.ret [] (.bin .mod (.bin .add (.bin .mul (.bin .fdiv (.var 2) (.cst (.int 64))) (.cst (.int 69621))) (.var 2)) (.cst (.int 4294967231)))) (.nil)))
def cb_w_draw : CSs := .cons (.tap 1) (.cons (.ret [] (.bin .mod (.bin .fdiv (.call 10 (.cons (.var 0) (.cons (.bif .len (.cons (.var 1) (.nil))) (.nil)))) (.cst (.int 8))) (.var 2))) (.nil))
def cb_w_pick : CSs := .cons (.ret [] (.idx (.var 2) (.call 11 (.cons (.var 0) (.cons (.var 1) (.cons (.bif .len (.cons (.var 2) (.nil))) (.nil))))))) (.nil)
def cb_w_least : CSs := .cons (.par [] [3, 4] (.cons (.bif .abs (.cons (.var 0) (.nil))) (.cons (.bif .abs (.cons (.var 1) (.nil))) (.nil)))) (.cons (.whl [] (.cmp .gt (.var 4) (.cst (.int 0))) (.cons (.par [] [3, 4] (.cons (.var 4) (.cons (.bin .mod (.var 3) (.var 4)) (.nil)))) (.nil))) (.cons (.asg [] 2 (.ite (.cmp .gt (.var 1) (.cst (.int 0))) (.var 3) (.bin .sub (.cst (.int 0)) (.var 3)))) (.cons (.ret [] (.tup (.cons (.bin .fdiv (.var 0) (.var 2)) (.cons (.bin .fdiv (.var 1) (.var 2)) (.nil))))) (.nil))))
def cb_w_plus : CSs := .cons (.ret [] (.call 13 (.cons (.bin .add (.bin .mul (.idx (.var 0) (.cst (.int 0))) (.idx (.var 1) (.cst (.int 1)))) (.bin .mul (.idx (.var 1) (.cst (.int 0))) (.idx (.var 0) (.cst (.int 1))))) (.cons (.bin .mul (.idx (.var 0) (.cst (.int 1))) (.idx (.var 1) (.cst (.int 1)))) (.nil))))) (.nil)
def cb_w_minus : CSs := .cons (.ret [] (.call 13 (.cons (.bin .sub (.bin .mul (.idx (.var 0) (.cst (.int 0))) (.idx (.var 1) (.cst (.int 1)))) (.bin .mul (.idx (.var 1) (.cst (.int 0))) (.idx (.var 0) (.cst (.int 1))))) (.cons (.bin .mul (.idx (.var 0) (.cst (.int 1))) (.idx (.var 1) (.cst (.int 1)))) (.nil))))) (.nil)
def cb_w_times : CSs := .cons (.ret [] (.call 13 (.cons (.bin .mul (.idx (.var 0) (.cst (.int 0))) (.idx (.var 1) (.cst (.int 0)))) (.cons (.bin .mul (.idx (.var 0) (.cst (.int 1))) (.idx (.var 1) (.cst (.int 1)))) (.nil))))) (.nil)
def cb_w_sum : CSs := .cons (.asg [] 1 (.tup (.cons (.cst (.int 0)) (.cons (.cst (.int 1)) (.nil))))) (.cons (.for_ [] (.nm 2) (.var 0) (.cons (.asg [] 1 (.call 14 (.cons (.var 1) (.cons (.var 2) (.nil))))) (.nil))) (.cons (.ret [] (.var 1)) (.nil)))
def cb_w_legs : CSs := .cons (.asg [] 2 (.call 11 (.cons (.var 0) (.cons (.var 1) (.cons (.cst (.int 5)) (.nil)))))) (.cons (.asg [] 3 (.bin .add (.cst (.int 1)) (.call 11 (.cons (.var 0) (.cons (.var 1) (.cons (.call 12 (.cons (.var 0) (.cons (.var 1) (.cons (.lst (.cons (.cst (.int 4)) (.cons (.cst (.int 4)) (.cons (.cst (.int 8)) (.cons (.cst (.int 8)) (.cons (.cst (.int 40)) (.nil))))))) (.nil))))) (.nil))))))) (.cons (.own [] 4 (.lst (.nil))) (.cons (.forR [] (.nm 5) (.cst (.int 0)) (.var 3) (.cons (.asg [] 6 (.call 12 (.cons (.var 0) (.cons (.var 1) (.cons (.lst (.cons (.bin .sub (.call 11 (.cons (.var 0) (.cons (.var 1) (.cons (.cst (.int 201)) (.nil))))) (.cst (.int 100))) (.cons (.cst (.int 0)) (.cons (.cst (.int 1000000)) (.cons (.bin .sub (.cst (.int 0)) (.cst (.int 1000000))) (.cons (.cst (.int 7)) (.nil))))))) (.nil)))))) (.cons (.asg [] 7 (.call 12 (.cons (.var 0) (.cons (.var 1) (.cons (.lst (.cons (.bin .sub (.call 11 (.cons (.var 0) (.cons (.var 1) (.cons (.cst (.int 201)) (.nil))))) (.cst (.int 100))) (.cons (.cst (.int 0)) (.cons (.bin .sub (.cst (.int 0)) (.cst (.int 1000000))) (.cons (.cst (.int 1)) (.nil)))))) (.nil)))))) (.cons (.asg [] 6 (.ite (.cmp .eq (.var 2) (.cst (.int 1))) (.cst (.int 0)) (.var 6))) (.cons (.asg [] 7 (.ite (.cmp .eq (.var 2) (.cst (.int 2))) (.cst (.int 0)) (.var 7))) (.cons (.app [] 4 (.tup (.cons (.var 6) (.cons (.var 7) (.cons (.call 12 (.cons (.var 0) (.cons (.var 1) (.cons (.lst (.cons (.cst (.int 1)) (.cons (.cst (.int 3)) (.cons (.cst (.int 2000000)) (.cons (.bin .add (.cst (.int 1)) (.call 11 (.cons (.var 0) (.cons (.var 1) (.cons (.cst (.int 500)) (.nil)))))) (.nil)))))) (.nil))))) (.nil)))))) (.nil))))))) (.cons (.ret [4] (.var 4)) (.nil)))))
def cb_w_spot : CSs := .cons (.asg [] 2 (.lst (.cons (.cst (.int 0)) (.cons (.cst (.int 1)) (.cons (.bin .sub (.cst (.int 0)) (.cst (.int 1000000))) (.cons (.cst (.int 1000000)) (.cons (.bin .sub (.call 11 (.cons (.var 0) (.cons (.var 1) (.cons (.cst (.int 301)) (.nil))))) (.cst (.int 150))) (.nil)))))))) (.cons (.ret [] (.tup (.cons (.call 12 (.cons (.var 0) (.cons (.var 1) (.cons (.var 2) (.nil))))) (.cons (.call 12 (.cons (.var 0) (.cons (.var 1) (.cons (.var 2) (.nil))))) (.nil))))) (.nil))
def cb_whole : CSs := .cons (.ret [] (.tup (.cons (.var 0) (.cons (.cst (.int 1)) (.nil))))) (.nil)
def cb_plus : CSs := .cons (.ret [] (.call 2 (.cons (.bin .add (.bin .mul (.idx (.var 0) (.cst (.int 0))) (.idx (.var 1) (.cst (.int 1)))) (.bin .mul (.idx (.var 1) (.cst (.int 0))) (.idx (.var 0) (.cst (.int 1))))) (.cons (.bin .mul (.idx (.var 0) (.cst (.int 1))) (.idx (.var 1) (.cst (.int 1)))) (.nil))))) (.nil)
def cb_look_spot : CSs := .cons (.ifs [] (.or (.not (.isi (.var 0) .tuple)) (.cmp .ne (.bif .len (.cons (.var 0) (.nil))) (.cst (.int 2)))) (.cons (.rse 3) (.nil)) (.nil)) (.cons (.ifs [] (.not (.bif .all (.cons (.comp (.nm 1) (.var 0) (.cst (.bl true)) (.call 3 (.cons (.var 1) (.cons (.bin .sub (.cst (.int 0)) (.glo 2)) (.cons (.glo 2) (.nil)))))) (.nil)))) (.cons (.rse 3) (.nil)) (.nil)) (.nil))
def cb_weights : CSs := .cons (.ifs [] (.cmp .eq (.var 1) (.cst (.str "equal"))) (.cons (.ret [] (.comp (.nm 2) (.var 0) (.cst (.bl true)) (.tup (.cons (.cst (.int 1)) (.cons (.cst (.int 1)) (.nil)))))) (.nil)) (.nil)) (.cons (.ifs [] (.cmp .eq (.var 1) (.cst (.str "long"))) (.cons (.ret [] (.comp (.nm 2) (.var 0) (.cst (.bl true)) (.tup (.cons (.idx (.var 2) (.cst (.int 2))) (.cons (.idx (.var 2) (.cst (.int 2))) (.nil)))))) (.nil)) (.nil)) (.cons (.ret [] (.comp (.nm 2) (.var 0) (.cst (.bl true)) (.tup (.cons (.bif .abs (.cons (.idx (.var 2) (.cst (.int 0))) (.nil))) (.cons (.bif .abs (.cons (.idx (.var 2) (.cst (.int 1))) (.nil))) (.nil)))))) (.nil)))
def cb_look_rule : CSs := .cons (.ifs [] (.or (.not (.isi (.var 0) .str)) (.cmp .nin (.var 0) (.glo 16))) (.cons (.rse 2) (.nil)) (.nil)) (.nil)
def cb_error_to : CSs := .cons (.tas [] [3, 4] (.call 7 (.cons (.var 0) (.nil)))) (.cons (.ret [] (.tup (.cons (.bin .sub (.bin .add (.idx (.var 1) (.cst (.int 0))) (.var 3)) (.idx (.var 2) (.cst (.int 0)))) (.cons (.bin .sub (.bin .add (.idx (.var 1) (.cst (.int 1))) (.var 4)) (.idx (.var 2) (.cst (.int 1)))) (.nil))))) (.nil))
def cb_shares : CSs := .cons (.asg [] 3 (.call 21 (.cons (.var 0) (.cons (.var 1) (.nil))))) (.cons (.own [] 4 (.lst (.nil))) (.cons (.asg [] 5 (.compR (.nm 7) (.cst (.int 0)) (.cst (.int 2)) (.cst (.bl true)) (.bif .sum (.cons (.comp (.nm 6) (.var 3) (.cst (.bl true)) (.idx (.var 6) (.var 7))) (.nil))))) (.cons (.ifs [] (.bif .any (.cons (.compR (.nm 7) (.cst (.int 0)) (.cst (.int 2)) (.cst (.bl true)) (.and (.cmp .eq (.idx (.var 5) (.var 7)) (.cst (.int 0))) (.cmp .ne (.idx (.var 2) (.var 7)) (.cst (.int 0))))) (.nil))) (.cons (.rse 2) (.nil)) (.nil)) (.cons (.for_ [] (.nm 6) (.var 3) (.cons (.app [] 4 (.bif .tuple (.cons (.compR (.nm 7) (.cst (.int 0)) (.cst (.int 2)) (.cst (.bl true)) (.call 2 (.cons (.bin .sub (.cst (.int 0)) (.bin .mul (.idx (.var 2) (.var 7)) (.idx (.var 6) (.var 7)))) (.cons (.bif .max2 (.cons (.cst (.int 1)) (.cons (.idx (.var 5) (.var 7)) (.nil)))) (.nil))))) (.nil)))) (.nil))) (.cons (.ret [4] (.var 4)) (.nil))))))
def cb_look_round : CSs := .cons (.ex [] (.call 5 (.cons (.var 0) (.nil)))) (.cons (.ex [] (.call 22 (.cons (.var 1) (.nil)))) (.cons (.ex [] (.call 20 (.cons (.var 2) (.nil)))) (.cons (.ex [] (.call 20 (.cons (.var 3) (.nil)))) (.nil))))
def cb_shared : CSs := .cons (.ex [] (.call 25 (.cons (.var 0) (.cons (.var 1) (.cons (.var 2) (.cons (.var 3) (.nil))))))) (.cons (.ret [] (.call 24 (.cons (.var 0) (.cons (.var 1) (.cons (.call 23 (.cons (.var 0) (.cons (.var 2) (.cons (.var 3) (.nil))))) (.nil)))))) (.nil))
def cb_put_right : CSs := .cons (.ex [] (.call 25 (.cons (.var 0) (.cons (.var 1) (.cons (.var 2) (.cons (.var 3) (.nil))))))) (.cons (.asg [] 4 (.tup (.cons (.call 31 (.cons (.idx (.var 2) (.cst (.int 0))) (.nil))) (.cons (.call 31 (.cons (.idx (.var 2) (.cst (.int 1))) (.nil))) (.nil))))) (.cons (.own [] 5 (.lst (.cons (.var 4) (.nil)))) (.cons (.asg [] 6 (.call 24 (.cons (.var 0) (.cons (.var 1) (.cons (.call 23 (.cons (.var 0) (.cons (.var 2) (.cons (.var 3) (.nil))))) (.nil)))))) (.cons (.forR [] (.nm 7) (.cst (.int 0)) (.bif .len (.cons (.var 0) (.nil))) (.cons (.asg [] 4 (.bif .tuple (.cons (.compR (.nm 8) (.cst (.int 0)) (.cst (.int 2)) (.cst (.bl true)) (.call 32 (.cons (.call 32 (.cons (.idx (.var 4) (.var 8)) (.cons (.call 31 (.cons (.idx (.idx (.var 0) (.var 7)) (.var 8)) (.nil))) (.nil)))) (.cons (.idx (.idx (.var 6) (.var 7)) (.var 8)) (.nil))))) (.nil)))) (.cons (.app [] 5 (.var 4)) (.nil)))) (.cons (.ret [5] (.var 5)) (.nil))))))
def cb_nearest : CSs := .cons (.ret [] (.bin .fdiv (.bin .add (.bin .mul (.cst (.int 2)) (.idx (.var 0) (.cst (.int 0)))) (.idx (.var 0) (.cst (.int 1)))) (.bin .mul (.cst (.int 2)) (.idx (.var 0) (.cst (.int 1)))))) (.nil)
def cb_whole_points : CSs := .cons (.ret [] (.comp (.tp [4, 5]) (.call 33 (.cons (.var 0) (.cons (.var 1) (.cons (.var 2) (.cons (.var 3) (.nil)))))) (.cst (.bl true)) (.tup (.cons (.call 34 (.cons (.var 4) (.nil))) (.cons (.call 34 (.cons (.var 5) (.nil))) (.nil)))))) (.nil)
def cb_whole_legs : CSs := .cons (.asg [] 4 (.call 35 (.cons (.var 0) (.cons (.var 1) (.cons (.var 2) (.cons (.var 3) (.nil))))))) (.cons (.own [] 5 (.lst (.nil))) (.cons (.forR [] (.nm 6) (.cst (.int 0)) (.bif .len (.cons (.var 0) (.nil))) (.cons (.app [] 5 (.tup (.cons (.bin .sub (.idx (.idx (.var 4) (.bin .add (.var 6) (.cst (.int 1)))) (.cst (.int 0))) (.idx (.idx (.var 4) (.var 6)) (.cst (.int 0)))) (.cons (.bin .sub (.idx (.idx (.var 4) (.bin .add (.var 6) (.cst (.int 1)))) (.cst (.int 1))) (.idx (.idx (.var 4) (.var 6)) (.cst (.int 1)))) (.cons (.idx (.idx (.var 0) (.var 6)) (.cst (.int 2))) (.nil)))))) (.nil))) (.cons (.ret [5] (.var 5)) (.nil))))
def cb_w_near : CSs := .cons (.asg [] 1 (.bin .fdiv (.idx (.var 0) (.cst (.int 0))) (.idx (.var 0) (.cst (.int 1))))) (.cons (.ret [] (.bin .add (.var 1) (.bif .int (.cons (.cmp .ge (.bin .mul (.cst (.int 2)) (.bin .sub (.idx (.var 0) (.cst (.int 0))) (.bin .mul (.var 1) (.idx (.var 0) (.cst (.int 1)))))) (.idx (.var 0) (.cst (.int 1)))) (.nil))))) (.nil))
def cb_w_refusal : CSs := .cons (.ifs [] (.cmp .is_ (.var 0) (.cst .non)) (.cons (.ret [] (.tup (.cons (.cst (.str "ok")) (.nil)))) (.nil)) (.nil)) (.cons (.asg [] 1 (.lst (.cons (.isi (.var 0) (.cls 1)) (.cons (.isi (.var 0) (.cls 2)) (.cons (.isi (.var 0) (.cls 3)) (.nil)))))) (.cons (.asg [] 1 (.bin .add (.var 1) (.lst (.cons (.isi (.var 0) (.cls 4)) (.cons (.isi (.var 0) (.cls 5)) (.cons (.isi (.var 0) (.cls 6)) (.nil))))))) (.cons (.asg [] 1 (.bin .add (.var 1) (.lst (.cons (.isi (.var 0) (.cls 7)) (.cons (.isi (.var 0) (.cls 8)) (.nil)))))) (.cons (.ifs [] (.or (.cmp .ne (.mth .count (.var 1) (.cons (.cst (.bl true)) (.nil))) (.cst (.int 1))) (.not (.isi (.var 0) .ve))) (.cons (.ret [] (.tup (.cons (.cst (.str "wrong")) (.nil)))) (.nil)) (.nil)) (.cons (.asg [] 2 (.lst (.cons (.cst (.str "legs")) (.cons (.cst (.str "rule")) (.cons (.cst (.str "point")) (.cons (.cst (.str "sights")) (.cons (.cst (.str "known")) (.cons (.cst (.str "loose")) (.cons (.cst (.str "number")) (.cons (.cst (.str "text")) (.nil))))))))))) (.cons (.ret [] (.tup (.cons (.cst (.str "refused")) (.cons (.idx (.var 2) (.mth .index (.var 1) (.cons (.cst (.bl true)) (.nil)))) (.nil))))) (.nil)))))))
def cb_minus : CSs := .cons (.ret [] (.call 2 (.cons (.bin .sub (.bin .mul (.idx (.var 0) (.cst (.int 0))) (.idx (.var 1) (.cst (.int 1)))) (.bin .mul (.idx (.var 1) (.cst (.int 0))) (.idx (.var 0) (.cst (.int 1))))) (.cons (.bin .mul (.idx (.var 0) (.cst (.int 1))) (.idx (.var 1) (.cst (.int 1)))) (.nil))))) (.nil)
def cb_times : CSs := .cons (.ret [] (.call 2 (.cons (.bin .mul (.idx (.var 0) (.cst (.int 0))) (.idx (.var 1) (.cst (.int 0)))) (.cons (.bin .mul (.idx (.var 0) (.cst (.int 1))) (.idx (.var 1) (.cst (.int 1)))) (.nil))))) (.nil)
def cb_is_fraction : CSs := .cons (.ifs [] (.or (.not (.isi (.var 0) .tuple)) (.cmp .ne (.bif .len (.cons (.var 0) (.nil))) (.cst (.int 2)))) (.cons (.ret [] (.cst (.bl false))) (.nil)) (.nil)) (.cons (.ifs [] (.not (.bif .all (.cons (.comp (.nm 1) (.var 0) (.cst (.bl true)) (.and (.isi (.var 1) .int) (.not (.isi (.var 1) .bool)))) (.nil)))) (.cons (.ret [] (.cst (.bl false))) (.nil)) (.nil)) (.cons (.ret [] (.and (.cmp .gt (.idx (.var 0) (.cst (.int 1))) (.cst (.int 0))) (.cmp .eq (.call 2 (.cons (.idx (.var 0) (.cst (.int 0))) (.cons (.idx (.var 0) (.cst (.int 1))) (.nil)))) (.var 0)))) (.nil)))
def cb_is_point : CSs := .cons (.ret [] (.and (.isi (.var 0) .tuple) (.and (.cmp .eq (.bif .len (.cons (.var 0) (.nil))) (.cst (.int 2))) (.bif .all (.cons (.comp (.nm 1) (.var 0) (.cst (.bl true)) (.call 47 (.cons (.var 1) (.nil)))) (.nil)))))) (.nil)
def cb_look_points : CSs := .cons (.ifs [] (.or (.not (.isi (.var 0) .list)) (.not (.chn .le .le (.cst (.int 3)) (.bif .len (.cons (.var 0) (.nil))) (.glo 9)))) (.cons (.rse 3) (.nil)) (.nil)) (.cons (.ifs [] (.not (.bif .all (.cons (.comp (.nm 2) (.var 0) (.cst (.bl true)) (.call 48 (.cons (.var 2) (.nil)))) (.nil)))) (.cons (.rse 3) (.nil)) (.nil)) (.cons (.ifs [] (.bif .any (.cons (.compR (.nm 1) (.cst (.int 0)) (.bif .len (.cons (.var 0) (.nil))) (.cst (.bl true)) (.cmp .eq (.idx (.var 0) (.bin .sub (.var 1) (.cst (.int 1)))) (.idx (.var 0) (.var 1)))) (.nil))) (.cons (.rse 3) (.nil)) (.nil)) (.nil)))
def cb_double_area : CSs := .cons (.asg [] 1 (.tup (.cons (.cst (.int 0)) (.cons (.cst (.int 1)) (.nil))))) (.cons (.forR [] (.nm 2) (.cst (.int 0)) (.bif .len (.cons (.var 0) (.nil))) (.cons (.par [] [3, 4] (.cons (.idx (.var 0) (.bin .sub (.var 2) (.cst (.int 1)))) (.cons (.idx (.var 0) (.var 2)) (.nil)))) (.cons (.asg [] 1 (.call 32 (.cons (.var 1) (.cons (.call 45 (.cons (.call 46 (.cons (.idx (.var 3) (.cst (.int 0))) (.cons (.idx (.var 4) (.cst (.int 1))) (.nil)))) (.cons (.call 46 (.cons (.idx (.var 4) (.cst (.int 0))) (.cons (.idx (.var 3) (.cst (.int 1))) (.nil)))) (.nil)))) (.nil))))) (.nil)))) (.cons (.ret [] (.var 1)) (.nil)))
def cb_area : CSs := .cons (.ex [] (.call 49 (.cons (.var 0) (.nil)))) (.cons (.asg [] 1 (.call 50 (.cons (.var 0) (.nil)))) (.cons (.ret [] (.call 2 (.cons (.idx (.var 1) (.cst (.int 0))) (.cons (.bin .mul (.cst (.int 2)) (.idx (.var 1) (.cst (.int 1)))) (.nil))))) (.nil)))
def cb_w_number : CSs := .cons (.ret [] (.call 13 (.cons (.call 11 (.cons (.var 0) (.cons (.var 1) (.cons (.cst (.int 13)) (.nil))))) (.cons (.call 12 (.cons (.var 0) (.cons (.var 1) (.cons (.lst (.cons (.cst (.int 1)) (.cons (.cst (.int 1)) (.cons (.cst (.int 1)) (.cons (.cst (.int 2)) (.cons (.cst (.int 3)) (.nil))))))) (.nil))))) (.nil))))) (.nil)
def cb_w_points : CSs := .cons (.asg [] 2 (.lst (.nil))) (.cons (.asg [] 3 (.cmp .eq (.call 11 (.cons (.var 0) (.cons (.var 1) (.cons (.cst (.int 2)) (.nil))))) (.cst (.int 0)))) (.cons (.forR [] (.nm 4) (.cst (.int 0)) (.bin .add (.cst (.int 3)) (.call 11 (.cons (.var 0) (.cons (.var 1) (.cons (.call 12 (.cons (.var 0) (.cons (.var 1) (.cons (.lst (.cons (.cst (.int 3)) (.cons (.cst (.int 5)) (.cons (.cst (.int 7)) (.cons (.cst (.int 7)) (.cons (.cst (.int 7)) (.cons (.cst (.int 7)) (.cons (.cst (.int 38)) (.nil))))))))) (.nil))))) (.nil)))))) (.cons (.asg [] 5 (.tup (.cons (.call 52 (.cons (.var 0) (.cons (.var 1) (.nil)))) (.cons (.call 52 (.cons (.var 0) (.cons (.var 1) (.nil)))) (.nil))))) (.cons (.ifs [] (.var 3) (.cons (.asg [] 5 (.tup (.cons (.tup (.cons (.call 11 (.cons (.var 0) (.cons (.var 1) (.cons (.cst (.int 4)) (.nil))))) (.cons (.cst (.int 1)) (.nil)))) (.cons (.tup (.cons (.call 11 (.cons (.var 0) (.cons (.var 1) (.cons (.cst (.int 4)) (.nil))))) (.cons (.cst (.int 1)) (.nil)))) (.nil))))) (.nil)) (.nil)) (.cons (.asg [] 2 (.bin .add (.var 2) (.bin .mul (.lst (.cons (.var 5) (.nil))) (.bif .int (.cons (.or (.cmp .eq (.var 2) (.lst (.nil))) (.cmp .ne (.idx (.var 2) (.neg (.cst (.int 1)))) (.var 5))) (.nil)))))) (.nil))))) (.cons (.ifs [] (.or (.cmp .lt (.bif .len (.cons (.var 2) (.nil))) (.cst (.int 3))) (.cmp .eq (.idx (.var 2) (.cst (.int 0))) (.idx (.var 2) (.neg (.cst (.int 1)))))) (.cons (.asg [] 2 (.lst (.cons (.tup (.cons (.tup (.cons (.cst (.int 0)) (.cons (.cst (.int 1)) (.nil)))) (.cons (.tup (.cons (.cst (.int 0)) (.cons (.cst (.int 1)) (.nil)))) (.nil)))) (.cons (.tup (.cons (.tup (.cons (.cst (.int 5)) (.cons (.cst (.int 1)) (.nil)))) (.cons (.tup (.cons (.cst (.int 1)) (.cons (.cst (.int 2)) (.nil)))) (.nil)))) (.cons (.tup (.cons (.tup (.cons (.cst (.int 3)) (.cons (.cst (.int 1)) (.nil)))) (.cons (.tup (.cons (.cst (.int 4)) (.cons (.cst (.int 1)) (.nil)))) (.nil)))) (.cons (.tup (.cons (.tup (.cons (.cst (.int 0)) (.cons (.cst (.int 1)) (.nil)))) (.cons (.tup (.cons (.cst (.int 7)) (.cons (.cst (.int 3)) (.nil)))) (.nil)))) (.nil))))))) (.nil)) (.nil)) (.cons (.ret [] (.var 2)) (.nil)))))
def cb_w_cross : CSs := .cons (.asg [] 3 (.call 16 (.cons (.call 15 (.cons (.idx (.var 1) (.cst (.int 0))) (.cons (.idx (.var 0) (.cst (.int 0))) (.nil)))) (.cons (.call 15 (.cons (.idx (.var 2) (.cst (.int 1))) (.cons (.idx (.var 0) (.cst (.int 1))) (.nil)))) (.nil))))) (.cons (.ret [] (.call 15 (.cons (.var 3) (.cons (.call 16 (.cons (.call 15 (.cons (.idx (.var 1) (.cst (.int 1))) (.cons (.idx (.var 0) (.cst (.int 1))) (.nil)))) (.cons (.call 15 (.cons (.idx (.var 2) (.cst (.int 0))) (.cons (.idx (.var 0) (.cst (.int 0))) (.nil)))) (.nil)))) (.nil))))) (.nil))
def cb_cross : CSs := .cons (.asg [] 3 (.call 46 (.cons (.call 45 (.cons (.idx (.var 1) (.cst (.int 0))) (.cons (.idx (.var 0) (.cst (.int 0))) (.nil)))) (.cons (.call 45 (.cons (.idx (.var 2) (.cst (.int 1))) (.cons (.idx (.var 0) (.cst (.int 1))) (.nil)))) (.nil))))) (.cons (.ret [] (.call 45 (.cons (.var 3) (.cons (.call 46 (.cons (.call 45 (.cons (.idx (.var 1) (.cst (.int 1))) (.cons (.idx (.var 0) (.cst (.int 1))) (.nil)))) (.cons (.call 45 (.cons (.idx (.var 2) (.cst (.int 0))) (.cons (.idx (.var 0) (.cst (.int 0))) (.nil)))) (.nil)))) (.nil))))) (.nil))
def cb_sign : CSs := .cons (.ret [] (.bin .sub (.bif .int (.cons (.cmp .gt (.idx (.var 0) (.cst (.int 0))) (.cst (.int 0))) (.nil))) (.bif .int (.cons (.cmp .lt (.idx (.var 0) (.cst (.int 0))) (.cst (.int 0))) (.nil))))) (.nil)
def cb_w_sign : CSs := .cons (.ret [] (.ite (.cmp .gt (.idx (.var 0) (.cst (.int 0))) (.cst (.int 0))) (.cst (.int 1)) (.bin .sub (.cst (.int 0)) (.bif .int (.cons (.cmp .lt (.idx (.var 0) (.cst (.int 0))) (.cst (.int 0))) (.nil)))))) (.nil)
def cb_w_is_ahead : CSs := .cons (.asg [] 2 (.call 62 (.cons (.call 15 (.cons (.idx (.var 0) (.cst (.int 0))) (.cons (.idx (.var 1) (.cst (.int 0))) (.nil)))) (.nil)))) (.cons (.ret [] (.or (.cmp .lt (.var 2) (.cst (.int 0))) (.and (.cmp .eq (.var 2) (.cst (.int 0))) (.cmp .lt (.call 62 (.cons (.call 15 (.cons (.idx (.var 0) (.cst (.int 1))) (.cons (.idx (.var 1) (.cst (.int 1))) (.nil)))) (.nil))) (.cst (.int 0)))))) (.nil))
def cb_w_far_v1 : CSs := .cons (.ret [] (.call 17 (.cons (.compR (.nm 2) (.cst (.int 0)) (.cst (.int 2)) (.cst (.bl true)) (.call 16 (.cons (.call 15 (.cons (.idx (.var 0) (.var 2)) (.cons (.idx (.var 1) (.var 2)) (.nil)))) (.cons (.call 15 (.cons (.idx (.var 0) (.var 2)) (.cons (.idx (.var 1) (.var 2)) (.nil)))) (.nil))))) (.nil)))) (.nil)
def cb_w_hull : CSs := .cons (.own [] 1 (.lst (.cons (.idx (.var 0) (.cst (.int 0))) (.nil)))) (.cons (.for_ [] (.nm 2) (.var 0) (.cons (.oif 1 (.call 63 (.cons (.var 2) (.cons (.oidx 1 (.cst (.int 0))) (.nil)))) (.lst (.cons (.var 2) (.nil)))) (.nil))) (.cons (.whl [] (.cmp .le (.olen 1) (.bif .len (.cons (.var 0) (.nil)))) (.cons (.asg [] 3 (.oidx 1 (.neg (.cst (.int 1))))) (.cons (.asg [] 4 (.cst .non)) (.cons (.for_ [] (.nm 2) (.comp (.nm 2) (.var 0) (.cmp .ne (.var 2) (.var 3)) (.var 2)) (.cons (.asg [] 5 (.ite (.cmp .is_ (.var 4) (.cst .non)) (.cst (.int 1)) (.bin .sub (.cst (.int 0)) (.call 62 (.cons (.call 54 (.cons (.var 3) (.cons (.var 4) (.cons (.var 2) (.nil))))) (.nil)))))) (.cons (.ifs [] (.cmp .eq (.var 5) (.cst (.int 0))) (.cons (.asg [] 5 (.call 62 (.cons (.call 15 (.cons (.call 41 (.cons (.var 3) (.cons (.var 2) (.nil)))) (.cons (.call 41 (.cons (.var 3) (.cons (.var 4) (.nil)))) (.nil)))) (.nil)))) (.nil)) (.nil)) (.cons (.asg [] 4 (.ite (.cmp .gt (.var 5) (.cst (.int 0))) (.var 2) (.var 4))) (.nil))))) (.cons (.ifs [] (.or (.cmp .is_ (.var 4) (.cst .non)) (.cmp .eq (.var 4) (.oidx 1 (.cst (.int 0))))) (.cons (.ret [1] (.var 1)) (.nil)) (.nil)) (.cons (.app [] 1 (.var 4)) (.nil))))))) (.cons (.ret [1] (.var 1)) (.nil))))
def cb_over : CSs := .cons (.ret [] (.call 2 (.cons (.bin .mul (.idx (.var 0) (.cst (.int 0))) (.idx (.var 1) (.cst (.int 1)))) (.cons (.bin .mul (.idx (.var 0) (.cst (.int 1))) (.idx (.var 1) (.cst (.int 0)))) (.nil))))) (.nil)
def cb_w_sorted : CSs := .cons (.asg [] 1 (.lst (.nil))) (.cons (.for_ [] (.nm 2) (.var 0) (.cons (.asg [] 3 (.cst (.int 0))) (.cons (.whl [] (.and (.cmp .lt (.var 3) (.bif .len (.cons (.var 1) (.nil)))) (.cmp .lt (.call 62 (.cons (.call 15 (.cons (.idx (.var 1) (.var 3)) (.cons (.var 2) (.nil)))) (.nil))) (.cst (.int 0)))) (.cons (.asg [] 3 (.bin .add (.var 3) (.cst (.int 1)))) (.nil))) (.cons (.asg [] 1 (.bin .add (.bin .add (.slc (.var 1) (.cst .non) (.var 3)) (.lst (.cons (.var 2) (.nil)))) (.slc (.var 1) (.var 3) (.cst .non)))) (.nil))))) (.cons (.ret [] (.var 1)) (.nil)))
def cb_w_told : CSs := .cons (.asg [] 4 (.cst .non)) (.cons (.asg [] 5 (.cst .non)) (.cons (.tr [] 5 (.call 26 (.cons (.var 0) (.cons (.var 1) (.cons (.var 2) (.cons (.var 3) (.nil)))))) 0 (.exc 6 4)) (.cons (.ret [] (.ite (.cmp .is_ (.var 4) (.cst .non)) (.tup (.cons (.cst (.str "found")) (.cons (.var 5) (.nil)))) (.call 27 (.cons (.var 4) (.nil))))) (.nil))))
def cb_w_loads : CSs := .cons (.ifs [] (.cmp .eq (.var 1) (.cst (.str "equal"))) (.cons (.ret [] (.comp (.nm 3) (.var 0) (.cst (.bl true)) (.cst (.int 1)))) (.nil)) (.nil)) (.cons (.ret [] (.comp (.nm 3) (.var 0) (.cst (.bl true)) (.ite (.cmp .eq (.var 1) (.cst (.str "long"))) (.idx (.var 3) (.cst (.int 2))) (.bif .abs (.cons (.idx (.var 3) (.var 2)) (.nil)))))) (.nil))
def cb_w_due_v2 : CSs := .cons (.ndl 4 (.nm 9) (.var 0)) (.cons (.forR [] (.nm 5) (.cst (.int 0)) (.cst (.int 2)) (.cons (.asg [] 6 (.bin .sub (.bin .sub (.idx (.var 3) (.var 5)) (.idx (.var 2) (.var 5))) (.bif .sum (.cons (.comp (.nm 9) (.var 0) (.cst (.bl true)) (.idx (.var 9) (.var 5))) (.nil))))) (.cons (.asg [] 7 (.call 29 (.cons (.var 0) (.cons (.var 1) (.cons (.var 5) (.nil)))))) (.cons (.ifs [] (.and (.cmp .eq (.bif .sum (.cons (.var 7) (.nil))) (.cst (.int 0))) (.cmp .ne (.var 6) (.cst (.int 0)))) (.cons (.ret [] (.tup (.cons (.cst (.str "refused")) (.cons (.cst (.str "rule")) (.nil))))) (.nil)) (.nil)) (.cons (.forR [] (.nm 8) (.cst (.int 0)) (.bif .len (.cons (.var 0) (.nil))) (.cons (.apl 4 8 (.call 13 (.cons (.bin .mul (.var 6) (.idx (.var 7) (.var 8))) (.cons (.bif .max2 (.cons (.cst (.int 1)) (.cons (.bif .sum (.cons (.var 7) (.nil))) (.nil)))) (.nil))))) (.nil))) (.nil)))))) (.cons (.shn 4) (.cons (.ret [] (.tup (.cons (.cst (.str "found")) (.cons (.comp (.nm 10) (.var 4) (.cst (.bl true)) (.bif .tuple (.cons (.var 10) (.nil)))) (.nil))))) (.nil))))
end FR
namespace FR
open PySem (Str)
def fd_k02_law : Fd := ⟨"law", (["_law_script"] : List Str), (["_law_script", "_law_town", "_law_legs_here", "_law_start", "_law_goal", "_law_at", "_law_rule", "_law_due_here", "_law_told_here", "_law_turned", "_law_k", "_law_whole_now", "_law_one", "_law_leg"] : List Str), .cons (.asg [] 2 (.call 18 (.cons (.var 0) (.cons (.var 1) (.nil))))) (.cons (.asg [] 3 (.call 19 (.cons (.var 0) (.cons (.var 1) (.nil))))) (.cons (.asg [] 4 (.call 19 (.cons (.var 0) (.cons (.var 1) (.nil))))) (.cons (.asg [] 5 (.call 11 (.cons (.var 0) (.cons (.var 1) (.cons (.bif .len (.cons (.var 2) (.nil))) (.nil)))))) (.cons (.ifs [] (.cmp .eq (.call 11 (.cons (.var 0) (.cons (.var 1) (.cons (.cst (.int 4)) (.nil))))) (.cst (.int 0))) (.cons (.asg [] 4 (.tup (.cons (.bin .add (.idx (.var 3) (.cst (.int 0))) (.bif .sum (.cons (.comp (.nm 13) (.var 2) (.cst (.bl true)) (.idx (.var 13) (.cst (.int 0)))) (.nil)))) (.cons (.bin .add (.idx (.var 3) (.cst (.int 1))) (.bif .sum (.cons (.comp (.nm 13) (.var 2) (.cst (.bl true)) (.idx (.var 13) (.cst (.int 1)))) (.nil)))) (.nil))))) (.nil)) (.nil)) (.cons (.ifs [] (.or (.cmp .gt (.bif .abs (.cons (.idx (.var 4) (.cst (.int 0))) (.nil))) (.cst (.int 1000000))) (.cmp .gt (.bif .abs (.cons (.idx (.var 4) (.cst (.int 1))) (.nil))) (.cst (.int 1000000)))) (.cons (.asg [] 4 (.var 3)) (.nil)) (.nil)) (.cons (.for_ [] (.nm 6) (.tup (.cons (.cst (.str "equal")) (.cons (.cst (.str "long")) (.cons (.cst (.str "parts")) (.nil))))) (.cons (.asg [] 7 (.call 30 (.cons (.var 2) (.cons (.var 6) (.cons (.var 3) (.cons (.var 4) (.nil))))))) (.cons (.asg [] 8 (.call 28 (.cons (.var 2) (.cons (.var 6) (.cons (.var 3) (.cons (.var 4) (.nil))))))) (.cons (.ifs [] (.cmp .ne (.var 8) (.var 7)) (.cons (.ret [] (.cst (.bl false))) (.nil)) (.nil)) (.cons (.asg [] 9 (.call 28 (.cons (.bin .add (.slc (.var 2) (.var 5) (.cst .non)) (.slc (.var 2) (.cst .non) (.var 5))) (.cons (.var 6) (.cons (.var 3) (.cons (.var 4) (.nil))))))) (.cons (.ifs [] (.cmp .eq (.idx (.var 7) (.cst (.int 0))) (.cst (.str "refused"))) (.cons (.ifs [] (.cmp .ne (.var 9) (.var 7)) (.cons (.ret [] (.cst (.bl false))) (.nil)) (.nil)) (.cons (.cnt) (.nil))) (.nil)) (.cons (.ifs [] (.cmp .ne (.var 9) (.tup (.cons (.cst (.str "found")) (.cons (.bin .add (.slc (.idx (.var 7) (.cst (.int 1))) (.var 5) (.cst .non)) (.slc (.idx (.var 7) (.cst (.int 1))) (.cst .non) (.var 5))) (.nil))))) (.cons (.ret [] (.cst (.bl false))) (.nil)) (.nil)) (.cons (.forR [] (.nm 10) (.cst (.int 0)) (.cst (.int 2)) (.cons (.asg [] 11 (.call 17 (.cons (.comp (.nm 12) (.idx (.var 8) (.cst (.int 1))) (.cst (.bl true)) (.idx (.var 12) (.var 10))) (.nil)))) (.cons (.ifs [] (.cmp .ne (.var 11) (.tup (.cons (.bin .sub (.bin .sub (.idx (.var 4) (.var 10)) (.idx (.var 3) (.var 10))) (.bif .sum (.cons (.comp (.nm 13) (.var 2) (.cst (.bl true)) (.idx (.var 13) (.var 10))) (.nil)))) (.cons (.cst (.int 1)) (.nil))))) (.cons (.ret [] (.cst (.bl false))) (.nil)) (.nil)) (.nil)))) (.nil))))))))) (.cons (.ret [] (.cst (.bl true))) (.nil))))))))⟩
def fd_k02_1 : Fd := ⟨"divisor", (["one", "other"] : List Str), (["one", "other"] : List Str), cb_divisor⟩
def fd_k02_2 : Fd := ⟨"least", (["top", "under"] : List Str), (["top", "under", "both"] : List Str), cb_least⟩
def fd_k02_3 : Fd := ⟨"is_whole", (["thing", "low", "most"] : List Str), (["thing", "low", "most"] : List Str), cb_is_whole⟩
def fd_k02_4 : Fd := ⟨"is_leg", (["thing"] : List Str), (["thing", "one"] : List Str), cb_is_leg⟩
def fd_k02_5 : Fd := ⟨"look_legs", (["legs"] : List Str), (["legs", "leg"] : List Str), cb_look_legs⟩
def fd_k02_20 : Fd := ⟨"look_spot", (["point"] : List Str), (["point", "one"] : List Str), cb_look_spot⟩
def fd_k02_7 : Fd := ⟨"closing_of", (["legs"] : List Str), (["legs", "leg"] : List Str), cb_closing_of⟩
def fd_k02_21 : Fd := ⟨"weights", (["legs", "rule"] : List Str), (["legs", "rule", "leg"] : List Str), cb_weights⟩
def fd_k02_22 : Fd := ⟨"look_rule", (["rule"] : List Str), (["rule"] : List Str), cb_look_rule⟩
def fd_k02_23 : Fd := ⟨"error_to", (["legs", "start", "goal"] : List Str), (["legs", "start", "goal", "east", "north"] : List Str), cb_error_to⟩
def fd_k02_24 : Fd := ⟨"shares", (["legs", "rule", "error"] : List Str), (["legs", "rule", "error", "some", "found", "sums", "one", "k"] : List Str), cb_shares⟩
def fd_k02_25 : Fd := ⟨"look_round", (["legs", "rule", "start", "goal"] : List Str), (["legs", "rule", "start", "goal"] : List Str), cb_look_round⟩
def fd_k02_26 : Fd := ⟨"shared", (["legs", "rule", "start", "goal"] : List Str), (["legs", "rule", "start", "goal"] : List Str), cb_shared⟩
def fd_k02_9 : Fd := ⟨"_law_cell", (["_law_script", "_law_k"] : List Str), (["_law_script", "_law_k"] : List Str), cb_w_cell⟩
def fd_k02_10 : Fd := ⟨"_law_mix", (["_law_script", "_law_k"] : List Str), (["_law_script", "_law_k", "_law_number"] : List Str), cb_w_mix⟩
def fd_k02_11 : Fd := ⟨"_law_draw", (["_law_script", "_law_town", "_law_many"] : List Str), (["_law_script", "_law_town", "_law_many"] : List Str), cb_w_draw⟩
def fd_k02_12 : Fd := ⟨"_law_pick", (["_law_script", "_law_town", "_law_some"] : List Str), (["_law_script", "_law_town", "_law_some"] : List Str), cb_w_pick⟩
def fd_k02_27 : Fd := ⟨"_law_refusal", (["_law_caught"] : List Str), (["_law_caught", "_law_kinds", "_law_words"] : List Str), cb_w_refusal⟩
def fd_k02_13 : Fd := ⟨"_law_least", (["_law_high", "_law_under"] : List Str), (["_law_high", "_law_under", "_law_by", "_law_one", "_law_other"] : List Str), cb_w_least⟩
def fd_k02_14 : Fd := ⟨"_law_plus", (["_law_one", "_law_other"] : List Str), (["_law_one", "_law_other"] : List Str), cb_w_plus⟩
def fd_k02_15 : Fd := ⟨"_law_minus", (["_law_one", "_law_other"] : List Str), (["_law_one", "_law_other"] : List Str), cb_w_minus⟩
def fd_k02_16 : Fd := ⟨"_law_times", (["_law_one", "_law_other"] : List Str), (["_law_one", "_law_other"] : List Str), cb_w_times⟩
def fd_k02_17 : Fd := ⟨"_law_sum", (["_law_some"] : List Str), (["_law_some", "_law_found", "_law_one"] : List Str), cb_w_sum⟩
def fd_k02_18 : Fd := ⟨"_law_legs", (["_law_script", "_law_town"] : List Str), (["_law_script", "_law_town", "_law_kind", "_law_many", "_law_found", "_law_k", "_law_east", "_law_north"] : List Str), cb_w_legs⟩
def fd_k02_19 : Fd := ⟨"_law_spot", (["_law_script", "_law_town"] : List Str), (["_law_script", "_law_town", "_law_some"] : List Str), cb_w_spot⟩
def fd_k02_28 : Fd := ⟨"_law_told", (["_law_legs_here", "_law_rule", "_law_start", "_law_goal"] : List Str), (["_law_legs_here", "_law_rule", "_law_start", "_law_goal", "_law_caught", "_law_found", "e"] : List Str), cb_w_told⟩
def fd_k02_29 : Fd := ⟨"_law_loads", (["_law_legs_here", "_law_rule", "_law_k"] : List Str), (["_law_legs_here", "_law_rule", "_law_k", "_law_leg"] : List Str), cb_w_loads⟩
def fd_k02_30 : Fd := ⟨"_law_due", (["_law_legs_here", "_law_rule", "_law_start", "_law_goal"] : List Str), (["_law_legs_here", "_law_rule", "_law_start", "_law_goal", "_law_found", "_law_k", "_law_wanting", "_law_loads_here", "_law_j", "_law_leg", "_law_one"] : List Str), cb_w_due_v2⟩
def ds_k02 : List DfC := [⟨1, 11, fd_k02_1⟩, ⟨2, 12, fd_k02_2⟩, ⟨3, 13, fd_k02_3⟩, ⟨4, 19, fd_k02_4⟩, ⟨5, 20, fd_k02_5⟩, ⟨20, 21, fd_k02_20⟩, ⟨7, 22, fd_k02_7⟩, ⟨21, 23, fd_k02_21⟩, ⟨22, 24, fd_k02_22⟩, ⟨23, 25, fd_k02_23⟩, ⟨24, 26, fd_k02_24⟩, ⟨25, 27, fd_k02_25⟩, ⟨26, 28, fd_k02_26⟩, ⟨9, 30, fd_k02_9⟩, ⟨10, 31, fd_k02_10⟩, ⟨11, 32, fd_k02_11⟩, ⟨12, 33, fd_k02_12⟩, ⟨27, 34, fd_k02_27⟩, ⟨13, 35, fd_k02_13⟩, ⟨14, 36, fd_k02_14⟩, ⟨15, 37, fd_k02_15⟩, ⟨16, 38, fd_k02_16⟩, ⟨17, 39, fd_k02_17⟩, ⟨18, 40, fd_k02_18⟩, ⟨19, 41, fd_k02_19⟩, ⟨28, 42, fd_k02_28⟩, ⟨29, 43, fd_k02_29⟩, ⟨30, 44, fd_k02_30⟩]
def gs_k02 : List GlC := [⟨3, "MOST_LEGS", .int 40⟩, ⟨2, "MOST_FAR", .int 1000000⟩, ⟨4, "MOST_LONG", .int 2000000⟩]
def ts_k02 : List TuC := [⟨16, "RULES", [.str "equal", .str "long", .str "parts"]⟩]
def cs_k02 : List (Nat × Str) := [(0, "FieldError"), (1, "BadLegs"), (2, "BadRule"), (3, "BadPoint"), (4, "BadSights"), (5, "BadKnown"), (6, "Loose"), (7, "BadNumber"), (8, "BadText")]
def tb_k02 : Tb := mkTb ds_k02 gs_k02 ts_k02 cs_k02
instance : Has tb_k02 1 cb_divisor 2 2 := ⟨⟨fd_k02_1, rfl, rfl, rfl, rfl⟩⟩
instance : Has tb_k02 2 cb_least 3 2 := ⟨⟨fd_k02_2, rfl, rfl, rfl, rfl⟩⟩
instance : Has tb_k02 3 cb_is_whole 3 3 := ⟨⟨fd_k02_3, rfl, rfl, rfl, rfl⟩⟩
instance : Has tb_k02 4 cb_is_leg 2 1 := ⟨⟨fd_k02_4, rfl, rfl, rfl, rfl⟩⟩
instance : Has tb_k02 5 cb_look_legs 2 1 := ⟨⟨fd_k02_5, rfl, rfl, rfl, rfl⟩⟩
instance : Has tb_k02 20 cb_look_spot 2 1 := ⟨⟨fd_k02_20, rfl, rfl, rfl, rfl⟩⟩
instance : Has tb_k02 7 cb_closing_of 2 1 := ⟨⟨fd_k02_7, rfl, rfl, rfl, rfl⟩⟩
instance : Has tb_k02 21 cb_weights 3 2 := ⟨⟨fd_k02_21, rfl, rfl, rfl, rfl⟩⟩
instance : Has tb_k02 22 cb_look_rule 1 1 := ⟨⟨fd_k02_22, rfl, rfl, rfl, rfl⟩⟩
instance : Has tb_k02 23 cb_error_to 5 3 := ⟨⟨fd_k02_23, rfl, rfl, rfl, rfl⟩⟩
instance : Has tb_k02 24 cb_shares 8 3 := ⟨⟨fd_k02_24, rfl, rfl, rfl, rfl⟩⟩
instance : Has tb_k02 25 cb_look_round 4 4 := ⟨⟨fd_k02_25, rfl, rfl, rfl, rfl⟩⟩
instance : Has tb_k02 26 cb_shared 4 4 := ⟨⟨fd_k02_26, rfl, rfl, rfl, rfl⟩⟩
instance : Has tb_k02 9 cb_w_cell 2 2 := ⟨⟨fd_k02_9, rfl, rfl, rfl, rfl⟩⟩
instance : Has tb_k02 10 cb_w_mix 3 2 := ⟨⟨fd_k02_10, rfl, rfl, rfl, rfl⟩⟩
instance : Has tb_k02 11 cb_w_draw 3 3 := ⟨⟨fd_k02_11, rfl, rfl, rfl, rfl⟩⟩
instance : Has tb_k02 12 cb_w_pick 3 3 := ⟨⟨fd_k02_12, rfl, rfl, rfl, rfl⟩⟩
instance : Has tb_k02 27 cb_w_refusal 3 1 := ⟨⟨fd_k02_27, rfl, rfl, rfl, rfl⟩⟩
instance : Has tb_k02 13 cb_w_least 5 2 := ⟨⟨fd_k02_13, rfl, rfl, rfl, rfl⟩⟩
instance : Has tb_k02 14 cb_w_plus 2 2 := ⟨⟨fd_k02_14, rfl, rfl, rfl, rfl⟩⟩
instance : Has tb_k02 15 cb_w_minus 2 2 := ⟨⟨fd_k02_15, rfl, rfl, rfl, rfl⟩⟩
instance : Has tb_k02 16 cb_w_times 2 2 := ⟨⟨fd_k02_16, rfl, rfl, rfl, rfl⟩⟩
instance : Has tb_k02 17 cb_w_sum 3 1 := ⟨⟨fd_k02_17, rfl, rfl, rfl, rfl⟩⟩
instance : Has tb_k02 18 cb_w_legs 8 2 := ⟨⟨fd_k02_18, rfl, rfl, rfl, rfl⟩⟩
instance : Has tb_k02 19 cb_w_spot 3 2 := ⟨⟨fd_k02_19, rfl, rfl, rfl, rfl⟩⟩
instance : Has tb_k02 28 cb_w_told 7 4 := ⟨⟨fd_k02_28, rfl, rfl, rfl, rfl⟩⟩
instance : Has tb_k02 29 cb_w_loads 4 3 := ⟨⟨fd_k02_29, rfl, rfl, rfl, rfl⟩⟩
instance : Has tb_k02 30 cb_w_due_v2 11 4 := ⟨⟨fd_k02_30, rfl, rfl, rfl, rfl⟩⟩
instance : HasS tb_k02 := ⟨by decide +kernel⟩
instance : HasG tb_k02 3 (.int 40) := ⟨rfl⟩
instance : HasG tb_k02 2 (.int 1000000) := ⟨rfl⟩
instance : HasG tb_k02 4 (.int 2000000) := ⟨rfl⟩
instance : HasG tb_k02 16 (.tup [(.str "equal"), (.str "long"), (.str "parts")]) := ⟨rfl⟩
end FR
section
namespace FRH
open PySem PySem.Spec PyProof.Rows L2 FR
def top (i : Nat) : Stmt := PySem.Challenge.pw_fieldrounds_k02_whole_shares.main.body.getD i (.Pass ⟨0, 0, 0, 0⟩)
def fn : List He.DefD := fnOf top ds_k02 ++ [dfOf top "law" 45]
def fa : List He.Fa := faOf ds_k02 gs_k02 ts_k02 cs_k02 ++ [.glo "law"]
abbrev R : PySem.W.OpenRow := PySem.W.OpenLaw.row PySem.Challenge.rw_fieldrounds_k02_whole_shares
abbrev hk : PySem.W.Hook := hookT 4 fa fn ts_k02 cs_k02
def ob (s : PySem.W.SharedT) : AlT := obsTG 4 fa fn ts_k02 cs_k02 (HandSHeadRun.getT s)
theorem ob_eq (s : PySem.W.SharedT) : ob s = hk.obs s.abs := obsTG_eq (HandSHeadRun.getT_eq s)
def loose : List Str := (["FieldError", "BadLegs", "BadRule", "BadPoint", "BadSights", "BadKnown", "Loose", "BadNumber", "BadText", "divisor", "least", "is_whole", "MOST_LEGS", "MOST_FAR", "MOST_LONG"] : List Str) ++ (["RULES", "is_leg", "look_legs", "look_spot", "closing_of", "weights", "look_rule", "error_to", "shares", "look_round", "shared", "_law_cell", "_law_mix", "_law_draw", "_law_pick"] : List Str) ++ (["_law_refusal", "_law_least", "_law_plus", "_law_minus", "_law_times", "_law_sum", "_law_legs", "_law_spot", "_law_told", "_law_loads", "_law_due"] : List Str)
theorem run (w : World) : HandSHeadRun.RunEq R (PySem.W.view R.prog [45]) hk ob 20000 loose w := by
  intro os
  kernel_rfl
theorem chk : okAll top tb_k02 ds_k02 = true := by kernel_rfl
theorem bd_11 {K : PySem.W.Frag} {f : Addr} {fdt : FuncData} (F : FunD K fd_k02_1.name fd_k02_1.name (defArgs (top 11)) (defBody (top 11)) (defScope (top 11)) [] [] f fdt) : Binds K fdt fd_k02_1.ps [] := F.bindsN fun _ _ _ _ _ _ us hl => match us, hl with | [_, _], _ => rfl
theorem bd_12 {K : PySem.W.Frag} {f : Addr} {fdt : FuncData} (F : FunD K fd_k02_2.name fd_k02_2.name (defArgs (top 12)) (defBody (top 12)) (defScope (top 12)) [] [] f fdt) : Binds K fdt fd_k02_2.ps [] := F.bindsN fun _ _ _ _ _ _ us hl => match us, hl with | [_, _], _ => rfl
theorem bd_13 {K : PySem.W.Frag} {f : Addr} {fdt : FuncData} (F : FunD K fd_k02_3.name fd_k02_3.name (defArgs (top 13)) (defBody (top 13)) (defScope (top 13)) [] [] f fdt) : Binds K fdt fd_k02_3.ps [] := F.bindsN fun _ _ _ _ _ _ us hl => match us, hl with | [_, _, _], _ => rfl
theorem bd_19 {K : PySem.W.Frag} {f : Addr} {fdt : FuncData} (F : FunD K fd_k02_4.name fd_k02_4.name (defArgs (top 19)) (defBody (top 19)) (defScope (top 19)) [] [] f fdt) : Binds K fdt fd_k02_4.ps [] := F.bindsN fun _ _ _ _ _ _ us hl => match us, hl with | [_], _ => rfl
theorem bd_20 {K : PySem.W.Frag} {f : Addr} {fdt : FuncData} (F : FunD K fd_k02_5.name fd_k02_5.name (defArgs (top 20)) (defBody (top 20)) (defScope (top 20)) [] [] f fdt) : Binds K fdt fd_k02_5.ps [] := F.bindsN fun _ _ _ _ _ _ us hl => match us, hl with | [_], _ => rfl
theorem bd_21 {K : PySem.W.Frag} {f : Addr} {fdt : FuncData} (F : FunD K fd_k02_20.name fd_k02_20.name (defArgs (top 21)) (defBody (top 21)) (defScope (top 21)) [] [] f fdt) : Binds K fdt fd_k02_20.ps [] := F.bindsN fun _ _ _ _ _ _ us hl => match us, hl with | [_], _ => rfl
theorem bd_22 {K : PySem.W.Frag} {f : Addr} {fdt : FuncData} (F : FunD K fd_k02_7.name fd_k02_7.name (defArgs (top 22)) (defBody (top 22)) (defScope (top 22)) [] [] f fdt) : Binds K fdt fd_k02_7.ps [] := F.bindsN fun _ _ _ _ _ _ us hl => match us, hl with | [_], _ => rfl
theorem bd_23 {K : PySem.W.Frag} {f : Addr} {fdt : FuncData} (F : FunD K fd_k02_21.name fd_k02_21.name (defArgs (top 23)) (defBody (top 23)) (defScope (top 23)) [] [] f fdt) : Binds K fdt fd_k02_21.ps [] := F.bindsN fun _ _ _ _ _ _ us hl => match us, hl with | [_, _], _ => rfl
theorem bd_24 {K : PySem.W.Frag} {f : Addr} {fdt : FuncData} (F : FunD K fd_k02_22.name fd_k02_22.name (defArgs (top 24)) (defBody (top 24)) (defScope (top 24)) [] [] f fdt) : Binds K fdt fd_k02_22.ps [] := F.bindsN fun _ _ _ _ _ _ us hl => match us, hl with | [_], _ => rfl
theorem bd_25 {K : PySem.W.Frag} {f : Addr} {fdt : FuncData} (F : FunD K fd_k02_23.name fd_k02_23.name (defArgs (top 25)) (defBody (top 25)) (defScope (top 25)) [] [] f fdt) : Binds K fdt fd_k02_23.ps [] := F.bindsN fun _ _ _ _ _ _ us hl => match us, hl with | [_, _, _], _ => rfl
theorem bd_26 {K : PySem.W.Frag} {f : Addr} {fdt : FuncData} (F : FunD K fd_k02_24.name fd_k02_24.name (defArgs (top 26)) (defBody (top 26)) (defScope (top 26)) [] [] f fdt) : Binds K fdt fd_k02_24.ps [] := F.bindsN fun _ _ _ _ _ _ us hl => match us, hl with | [_, _, _], _ => rfl
theorem bd_27 {K : PySem.W.Frag} {f : Addr} {fdt : FuncData} (F : FunD K fd_k02_25.name fd_k02_25.name (defArgs (top 27)) (defBody (top 27)) (defScope (top 27)) [] [] f fdt) : Binds K fdt fd_k02_25.ps [] := F.bindsN fun _ _ _ _ _ _ us hl => match us, hl with | [_, _, _, _], _ => rfl
theorem bd_28 {K : PySem.W.Frag} {f : Addr} {fdt : FuncData} (F : FunD K fd_k02_26.name fd_k02_26.name (defArgs (top 28)) (defBody (top 28)) (defScope (top 28)) [] [] f fdt) : Binds K fdt fd_k02_26.ps [] := F.bindsN fun _ _ _ _ _ _ us hl => match us, hl with | [_, _, _, _], _ => rfl
theorem bd_30 {K : PySem.W.Frag} {f : Addr} {fdt : FuncData} (F : FunD K fd_k02_9.name fd_k02_9.name (defArgs (top 30)) (defBody (top 30)) (defScope (top 30)) [] [] f fdt) : Binds K fdt fd_k02_9.ps [] := F.bindsN fun _ _ _ _ _ _ us hl => match us, hl with | [_, _], _ => rfl
theorem bd_31 {K : PySem.W.Frag} {f : Addr} {fdt : FuncData} (F : FunD K fd_k02_10.name fd_k02_10.name (defArgs (top 31)) (defBody (top 31)) (defScope (top 31)) [] [] f fdt) : Binds K fdt fd_k02_10.ps [] := F.bindsN fun _ _ _ _ _ _ us hl => match us, hl with | [_, _], _ => rfl
theorem bd_32 {K : PySem.W.Frag} {f : Addr} {fdt : FuncData} (F : FunD K fd_k02_11.name fd_k02_11.name (defArgs (top 32)) (defBody (top 32)) (defScope (top 32)) [] [] f fdt) : Binds K fdt fd_k02_11.ps [] := F.bindsN fun _ _ _ _ _ _ us hl => match us, hl with | [_, _, _], _ => rfl
theorem bd_33 {K : PySem.W.Frag} {f : Addr} {fdt : FuncData} (F : FunD K fd_k02_12.name fd_k02_12.name (defArgs (top 33)) (defBody (top 33)) (defScope (top 33)) [] [] f fdt) : Binds K fdt fd_k02_12.ps [] := F.bindsN fun _ _ _ _ _ _ us hl => match us, hl with | [_, _, _], _ => rfl
theorem bd_34 {K : PySem.W.Frag} {f : Addr} {fdt : FuncData} (F : FunD K fd_k02_27.name fd_k02_27.name (defArgs (top 34)) (defBody (top 34)) (defScope (top 34)) [] [] f fdt) : Binds K fdt fd_k02_27.ps [] := F.bindsN fun _ _ _ _ _ _ us hl => match us, hl with | [_], _ => rfl
theorem bd_35 {K : PySem.W.Frag} {f : Addr} {fdt : FuncData} (F : FunD K fd_k02_13.name fd_k02_13.name (defArgs (top 35)) (defBody (top 35)) (defScope (top 35)) [] [] f fdt) : Binds K fdt fd_k02_13.ps [] := F.bindsN fun _ _ _ _ _ _ us hl => match us, hl with | [_, _], _ => rfl
theorem bd_36 {K : PySem.W.Frag} {f : Addr} {fdt : FuncData} (F : FunD K fd_k02_14.name fd_k02_14.name (defArgs (top 36)) (defBody (top 36)) (defScope (top 36)) [] [] f fdt) : Binds K fdt fd_k02_14.ps [] := F.bindsN fun _ _ _ _ _ _ us hl => match us, hl with | [_, _], _ => rfl
theorem bd_37 {K : PySem.W.Frag} {f : Addr} {fdt : FuncData} (F : FunD K fd_k02_15.name fd_k02_15.name (defArgs (top 37)) (defBody (top 37)) (defScope (top 37)) [] [] f fdt) : Binds K fdt fd_k02_15.ps [] := F.bindsN fun _ _ _ _ _ _ us hl => match us, hl with | [_, _], _ => rfl
theorem bd_38 {K : PySem.W.Frag} {f : Addr} {fdt : FuncData} (F : FunD K fd_k02_16.name fd_k02_16.name (defArgs (top 38)) (defBody (top 38)) (defScope (top 38)) [] [] f fdt) : Binds K fdt fd_k02_16.ps [] := F.bindsN fun _ _ _ _ _ _ us hl => match us, hl with | [_, _], _ => rfl
theorem bd_39 {K : PySem.W.Frag} {f : Addr} {fdt : FuncData} (F : FunD K fd_k02_17.name fd_k02_17.name (defArgs (top 39)) (defBody (top 39)) (defScope (top 39)) [] [] f fdt) : Binds K fdt fd_k02_17.ps [] := F.bindsN fun _ _ _ _ _ _ us hl => match us, hl with | [_], _ => rfl
theorem bd_40 {K : PySem.W.Frag} {f : Addr} {fdt : FuncData} (F : FunD K fd_k02_18.name fd_k02_18.name (defArgs (top 40)) (defBody (top 40)) (defScope (top 40)) [] [] f fdt) : Binds K fdt fd_k02_18.ps [] := F.bindsN fun _ _ _ _ _ _ us hl => match us, hl with | [_, _], _ => rfl
theorem bd_41 {K : PySem.W.Frag} {f : Addr} {fdt : FuncData} (F : FunD K fd_k02_19.name fd_k02_19.name (defArgs (top 41)) (defBody (top 41)) (defScope (top 41)) [] [] f fdt) : Binds K fdt fd_k02_19.ps [] := F.bindsN fun _ _ _ _ _ _ us hl => match us, hl with | [_, _], _ => rfl
theorem bd_42 {K : PySem.W.Frag} {f : Addr} {fdt : FuncData} (F : FunD K fd_k02_28.name fd_k02_28.name (defArgs (top 42)) (defBody (top 42)) (defScope (top 42)) [] [] f fdt) : Binds K fdt fd_k02_28.ps [] := F.bindsN fun _ _ _ _ _ _ us hl => match us, hl with | [_, _, _, _], _ => rfl
theorem bd_43 {K : PySem.W.Frag} {f : Addr} {fdt : FuncData} (F : FunD K fd_k02_29.name fd_k02_29.name (defArgs (top 43)) (defBody (top 43)) (defScope (top 43)) [] [] f fdt) : Binds K fdt fd_k02_29.ps [] := F.bindsN fun _ _ _ _ _ _ us hl => match us, hl with | [_, _, _], _ => rfl
theorem bd_44 {K : PySem.W.Frag} {f : Addr} {fdt : FuncData} (F : FunD K fd_k02_30.name fd_k02_30.name (defArgs (top 44)) (defBody (top 44)) (defScope (top 44)) [] [] f fdt) : Binds K fdt fd_k02_30.ps [] := F.bindsN fun _ _ _ _ _ _ us hl => match us, hl with | [_, _, _, _], _ => rfl
theorem bds {K : PySem.W.Frag} : ∀ d ∈ ds_k02, ∀ (f : Addr) (fdt : FuncData), FunD K d.fd.name d.fd.name (defArgs (top d.pos)) (defBody (top d.pos)) (defScope (top d.pos)) [] [] f fdt → Binds K fdt d.fd.ps [] := by
  intro d hd
  simp only [ds_k02, List.mem_cons, List.not_mem_nil, or_false] at hd
  rcases hd with rfl | rfl | rfl | rfl | rfl | rfl | rfl | rfl | rfl | rfl | rfl | rfl | rfl | rfl | rfl | rfl | rfl | rfl | rfl | rfl | rfl | rfl | rfl | rfl | rfl | rfl | rfl | rfl
  · exact fun f fdt F => bd_11 F
  · exact fun f fdt F => bd_12 F
  · exact fun f fdt F => bd_13 F
  · exact fun f fdt F => bd_19 F
  · exact fun f fdt F => bd_20 F
  · exact fun f fdt F => bd_21 F
  · exact fun f fdt F => bd_22 F
  · exact fun f fdt F => bd_23 F
  · exact fun f fdt F => bd_24 F
  · exact fun f fdt F => bd_25 F
  · exact fun f fdt F => bd_26 F
  · exact fun f fdt F => bd_27 F
  · exact fun f fdt F => bd_28 F
  · exact fun f fdt F => bd_30 F
  · exact fun f fdt F => bd_31 F
  · exact fun f fdt F => bd_32 F
  · exact fun f fdt F => bd_33 F
  · exact fun f fdt F => bd_34 F
  · exact fun f fdt F => bd_35 F
  · exact fun f fdt F => bd_36 F
  · exact fun f fdt F => bd_37 F
  · exact fun f fdt F => bd_38 F
  · exact fun f fdt F => bd_39 F
  · exact fun f fdt F => bd_40 F
  · exact fun f fdt F => bd_41 F
  · exact fun f fdt F => bd_42 F
  · exact fun f fdt F => bd_43 F
  · exact fun f fdt F => bd_44 F
theorem scL : FnScope fd_k02_law.N ["_law_script"] (defScope (top 45)) := ⟨rfl, rfl, rfl, by decide +kernel, rfl, by decide +kernel, by decide +kernel⟩
theorem chkL : lawChk (top 45) tb_k02 fd_k02_law 1 = true := by kernel_rfl
theorem facts (hlaw : LawT tb_k02 fd_k02_law 1 30) {P : Program} {w : World} {K : PySem.W.Frag} {h : Heap} {mg : Str → Option Value} {f : Addr} (X : K.In h) (G : h.Ns mainGlobals mg) (hfa : mg ("law" : Str) = some (.ref f)) (c0 : SaysT fa fn ts_k02 cs_k02 K) :
    ∃ fd : FuncData, (∀ (s : Shared) (v : Value), BindsTo s fd ⟨[v], []⟩ [("_law_script", v)]) ∧ ∀ base : Heap, K.In base → base.Ns mainGlobals mg → FnOk P w K mg base (L2.CX P w) 31 f fd ["_law_script"] (spLaw K) := by
  have c := c0.d
  have T := top_of (top := top) (gs := gs_k02) (ts := ts_k02) (cs := cs_k02) X G c c0.t c0.e chk rfl bds
  obtain ⟨fd, F⟩ := c.def_ 28 (d := dfOf top "law" 45) rfl
  have e := hfa.symm.trans (He.glo_ok X G (c.fact 68 (f := .glo "law") rfl))
  cases e
  have b := FunD.bindsA (ps := ["_law_script"]) F fun _ _ _ _ _ _ us hl => match us, hl with | [_], _ => rfl
  exact ⟨fd, fun s v => b s [v] rfl, fun base _ _ => law_fin (st := top 45) T F scL chkL hlaw⟩
end FRH
open PySem PySem.W PySem.Calls PyProof.Rows
theorem cw_head_k02 (hlaw : FR.LawT FR.tb_k02 FR.fd_k02_law 1 30) : PySem.Challenge.rw_fieldrounds_k02_whole_shares.Holds := by
  w_on; o_law
  refine HandSHeadRun.head_any (r := OpenLaw.row PySem.Challenge.rw_fieldrounds_k02_whole_shares) (q := view (OpenLaw.row PySem.Challenge.rw_fieldrounds_k02_whole_shares).prog [45]) (H := FRH.hk) (ob := FRH.ob) (M := 20000) (loose := FRH.loose) (d := HandSHeadRun.topDef (OpenLaw.row PySem.Challenge.rw_fieldrounds_k02_whole_shares).prog 45) (kwd := []) FRH.ob_eq
    (by kernel_rfl) (fun s => by kernel_rfl) FRH.run (by kernel_rfl) (by kernel_rfl) (by kernel_rfl) (by rfl) (by first | assumption | decide +kernel) (by decide +kernel) ⟨rfl, rfl, rfl, rfl, rfl, by decide +kernel⟩ ?hw ?hc
  case hw => w_witness2
  case hc =>
    refine FR.walk_w (l := PySem.Challenge.rw_fieldrounds_k02_whole_shares) (n := 63) (k := 31) (x := "_law_script") rfl (by decide) (by kernel_rfl) ⟨rfl, by decide, by decide⟩ ?F (Nat.le_refl _)
    intro w mg fa h Y G hmg0
    obtain ⟨K, KX, c⟩ := Y
    have hmg : mg ("law" : PySem.Str) = some (.ref fa) := by
      have e : (HandSHeadRun.topDef (OpenLaw.row PySem.Challenge.rw_fieldrounds_k02_whole_shares).prog 45).name = ("law" : PySem.Str) := by kernel_rfl
      rw [← e]
      exact hmg0
    obtain ⟨fd, hb, hF⟩ := FRH.facts hlaw (P := (PySem.Challenge.rw_fieldrounds_k02_whole_shares).prog) (w := w) KX G hmg c
    exact ⟨K, fd, KX, hb, hF⟩

end
/-! FrEv: the evaluator's equations for simp, wishes over results. -/
namespace FR
open PySem (Str)
/-! ### equations -/
section
variable {en : En} {g : G} {s : S}
@[simp] theorem evE_cst {c : Cst} : evE en (.cst c) g s = some (.ok c.d, s) := rfl
@[simp] theorem evE_var {i : Nat} : evE en (.var i) g s = rp (g.rd i) s := rfl
@[simp] theorem evE_glo {i : Nat} : evE en (.glo i) g s = some (.ok (en.gl i), s) := rfl
@[simp] theorem evE_bin {o : Op} {a b : CE} : evE en (.bin o a b) g s = rb (evE en a g s) fun x s => rb (evE en b g s) fun y s => rp (binD o x y) s := rfl
def negD : D → Option D
  | .int i => some (.int (-i))
  | _ => none
@[simp] theorem negD_int {i : Int} : negD (.int i) = some (.int (-i)) := rfl
@[simp] theorem evE_neg {a : CE} : evE en (.neg a) g s = rb (evE en a g s) fun x s => rp (negD x) s := rfl
@[simp] theorem evE_not {a : CE} : evE en (.not a) g s = rb (evE en a g s) fun x s => rb (tru x s) fun b s => some (.ok (.bl (!b)), s) := rfl
@[simp] theorem evE_cmp {o : Cm} {a b : CE} : evE en (.cmp o a b) g s = rb (evE en a g s) fun x s => rb (evE en b g s) fun y s => rp ((cmpD o x y).map D.bl) s := rfl
@[simp] theorem evE_chn {o p : Cm} {a b c : CE} : evE en (.chn o p a b c) g s = rb (evE en a g s) fun x s => rb (evE en b g s) fun y s => rb (rp (cmpD o x y) s) fun k s =>
      if k then rb (evE en c g s) fun z s => rp ((cmpD p y z).map D.bl) s else some (.ok (.bl false), s) := rfl
@[simp] theorem evE_and {a b : CE} : evE en (.and a b) g s = rb (evE en a g s) fun x s => rb (tru x s) fun t s => if t then evE en b g s else some (.ok x, s) := rfl
@[simp] theorem evE_or {a b : CE} : evE en (.or a b) g s = rb (evE en a g s) fun x s => rb (tru x s) fun t s => if t then some (.ok x, s) else evE en b g s := rfl
@[simp] theorem evE_ite {t a b : CE} : evE en (.ite t a b) g s = rb (evE en t g s) fun x s => rb (tru x s) fun t s => if t then evE en a g s else evE en b g s := rfl
@[simp] theorem evE_tup {es : CEs} : evE en (.tup es) g s = rb (evEs en es g s) fun ds s => if ds.length ≤ SZ then some (.ok (.tup ds), s) else none := rfl
@[simp] theorem evE_lst {es : CEs} : evE en (.lst es) g s = rb (evEs en es g s) fun ds s => if ds.length ≤ SZ then some (.ok (.lst ds), s) else none := rfl
@[simp] theorem evE_idx {a i : CE} : evE en (.idx a i) g s = rb (evE en a g s) fun x s => rb (evE en i g s) fun y s => rp (idxD x y) s := rfl
@[simp] theorem evE_slc {a lo hi : CE} : evE en (.slc a lo hi) g s = rb (evE en a g s) fun x s =>
      rb (if lo.isNon then some (.ok none, s) else rb (evE en lo g s) fun l s => rp (partD l) s) fun l s =>
      rb (if hi.isNon then some (.ok none, s) else rb (evE en hi g s) fun h s => rp (partD h) s) fun h s => rp (slcD x l h) s := rfl
@[simp] theorem evE_rev {a : CE} : evE en (.rev a) g s = rb (evE en a g s) fun x s => rp (revD x) s := rfl
@[simp] theorem evE_call {f : Nat} {es : CEs} : evE en (.call f es) g s = rb (evEs en es g s) fun ds s => en.Φ f ds s := rfl
@[simp] theorem evE_bif {f : Bf} {es : CEs} : evE en (.bif f es) g s = rb (evEs en es g s) fun ds s => rp (bifD f ds s) s := rfl
@[simp] theorem evE_isi {a : CE} {t : Ty} : evE en (.isi a t) g s = rb (evE en a g s) fun x s => rp ((isiE en.sub x t).map D.bl) s := rfl
@[simp] theorem isiE_int {sub : Nat → Nat → Option Bool} {d : D} : isiE sub d .int = isiD d .int := by cases d <;> rfl
@[simp] theorem isiE_bool {sub : Nat → Nat → Option Bool} {d : D} : isiE sub d .bool = isiD d .bool := by cases d <;> rfl
@[simp] theorem isiE_tuple {sub : Nat → Nat → Option Bool} {d : D} : isiE sub d .tuple = isiD d .tuple := by cases d <;> rfl
@[simp] theorem isiE_list {sub : Nat → Nat → Option Bool} {d : D} : isiE sub d .list = isiD d .list := by cases d <;> rfl
@[simp] theorem isiE_str {sub : Nat → Nat → Option Bool} {d : D} : isiE sub d .str = isiD d .str := by cases d <;> rfl
@[simp] theorem isiE_dict {sub : Nat → Nat → Option Bool} {d : D} : isiE sub d .dict = isiD d .dict := by cases d <;> rfl
@[simp] theorem isiE_cls {sub : Nat → Nat → Option Bool} {c c' : Nat} : isiE sub (.exc c) (.cls c') = sub c c' := rfl
@[simp] theorem isiE_ve {sub : Nat → Nat → Option Bool} {c : Nat} : isiE sub (.exc c) .ve = (sub c c).map fun _ => true := rfl
@[simp] theorem evE_mth {m : Mt} {a : CE} {es : CEs} : evE en (.mth m a es) g s = rb (evE en a g s) fun x s => if mthT m x then rb (evEs en es g s) fun ds s => rp (mthD m x ds) s else none := rfl
@[simp] theorem evS_tr {L : List Nat} {j : Nat} {e : CE} {c : Nat} {h : Hd} : evS en (.tr L j e c h) g s = trK en.sub c h g (exE en L e g s fun d g s => some (.ok (.nx (g.set j (.dat d))), s)) := rfl
/-- a comprehension's one round -/
def cmp1 (en : En) (g : G) (tg : Tgt) (ifs elt : CE) (d : D) (s : S) : EV (Option D) := match setT g d tg with
  | none => none
  | some g1 => rb (evE en ifs g1 s) fun c s => rb (tru c s) fun t s => if t then rb (evE en elt g1 s) fun e s => some (.ok (some e), s) else some (.ok none, s)
def bigL (es : List D) (s : S) : EV D := if es.length ≤ SZ then some (.ok (.lst es), s) else none
@[simp] theorem evE_comp {tg : Tgt} {it ifs elt : CE} : evE en (.comp tg it ifs elt) g s = rb (evE en it g s) fun x s => rb (rp (itemsD x) s) fun ds s => rb (compL (cmp1 en g tg ifs elt) ds s) bigL := rfl
@[simp] theorem evE_compR {tg : Tgt} {lo hi ifs elt : CE} : evE en (.compR tg lo hi ifs elt) g s = rb (evE en lo g s) fun x s => rb (evE en hi g s) fun y s => rb (rp (rngD x y) s) fun ds s => rb (compL (cmp1 en g tg ifs elt) ds s) bigL := rfl
def ownI (sl : Option Sl) (k : List D → EV D) : EV D := match ownL sl with
  | some ds => k ds
  | none => none
@[simp] theorem ownI_lst {ds : List D} {k : List D → EV D} : ownI (some (.dat (.lst ds))) k = k ds := rfl
@[simp] theorem ownI_own {ds : List D} {k : List D → EV D} : ownI (some (.own ds)) k = k ds := rfl
def atD (ds : List D) : D → Option D
  | .int k => atL ds k
  | _ => none
@[simp] theorem atD_int {ds : List D} {k : Int} : atD ds (.int k) = atL ds k := rfl
@[simp] theorem evE_oidx {i : Nat} {e : CE} : evE en (.oidx i e) g s = ownI g[i]? fun ds => rb (evE en e g s) fun y s => rp (atD ds y) s := rfl
@[simp] theorem evE_dct0 : evE en .dct0 g s = some (.ok (.dct []), s) := rfl
@[simp] theorem evE_olen {i : Nat} : evE en (.olen i) g s = ownI g[i]? fun ds => some (.ok (.int ds.length), s) := by
  show rp ((ownL g[i]?).map fun ds => D.int ds.length) s = _
  unfold ownI
  cases ownL g[i]? <;> rfl
@[simp] theorem evEs_nil : evEs en .nil g s = some (.ok [], s) := rfl
@[simp] theorem evEs_cons {e : CE} {es : CEs} : evEs en (.cons e es) g s = rb (evE en e g s) fun d s => rb (evEs en es g s) fun ds s => some (.ok (d :: ds), s) := rfl
/-! statements -/
@[simp] theorem evS_asg {L : List Nat} {i : Nat} {e : CE} : evS en (.asg L i e) g s = exE en L e g s fun d g s => some (.ok (.nx (g.set i (.dat d))), s) := rfl
def ownK (g : G) (L : List Nat) (i : Nat) (d : D) (s : S) : EV Fl := match d with
  | .lst ds => some (.ok (.nx ((if D.lfL ds then g else frz g L).set i (.own ds))), s)
  | .dct ks => some (.ok (.nx ((if D.lfL (ks.map (·.2)) then g else frz g L).set i (.ownD ks))), s)
  | _ => none
@[simp] theorem ownK_nil {L : List Nat} {i : Nat} {ds : List D} : ownK g L i (.lst ds) s = some (.ok (.nx ((if D.lfL ds then g else frz g L).set i (.own ds))), s) := rfl
@[simp] theorem evS_own {L : List Nat} {i : Nat} {e : CE} : evS en (.own L i e) g s = rb (evE en e (frz g L) s) fun d s => ownK g L i d s := rfl
def keepK (g : G) (o : Option (List D)) (s : S) : EV Fl := match o with
  | some _ => some (.ok (.nx g), s)
  | none => none
@[simp] theorem keepK_some {ds : List D} : keepK g (some ds) s = some (.ok (.nx g), s) := rfl
@[simp] theorem ownL_own {ds : List D} : ownL (some (.own ds)) = some ds := rfl
@[simp] theorem ownL_lst {ds : List D} : ownL (some (.dat (.lst ds))) = some ds := rfl
@[simp] theorem evS_oif {i : Nat} {t e : CE} : evS en (.oif i t e) g s = rb (testE en [] t g s) fun c s => if c then rb (evE en e g s) fun d s => ownK g [] i d s else keepK g (ownL g[i]?) s := rfl
@[simp] theorem evS_tas {L is : List Nat} {e : CE} : evS en (.tas L is e) g s = exE en L e g s fun d g s => rb (rp (setT g d (.tp is)) s) fun g s => some (.ok (.nx g), s) := rfl
@[simp] theorem evS_par {L is : List Nat} {es : CEs} : evS en (.par L is es) g s = rb (evEs en es (frz g L) s) fun ds s => rb (rp (setAll (if D.lfL ds then g else frz g L) is ds) s) fun g s => some (.ok (.nx g), s) := rfl
@[simp] theorem evS_app {L : List Nat} {i : Nat} {e : CE} : evS en (.app L i e) g s = owned g i (exE en L e g s fun d g s => rb (rp (appO g i (appF d)) s) fun g s => some (.ok (.nx g), s)) := rfl
def tapK (g : G) (sl : Option Sl) (s : S) : EV Fl := match sl, s with
  | some (.dat .town), some n => if n < SZ then some (.ok (.nx g), some (n + 1)) else none
  | _, _ => none
@[simp] theorem tapK_some {n : Nat} : tapK g (some (.dat .town)) (some n) = if n < SZ then some (.ok (.nx g), some (n + 1)) else none := rfl
@[simp] theorem evS_tap {i : Nat} : evS en (.tap i) g s = tapK g g[i]? s := rfl
@[simp] theorem evS_ext {L : List Nat} {i : Nat} {e : CE} : evS en (.ext L i e) g s = owned g i (exE en L e g s fun d g s => rb (rp (appO g i (extF d)) s) fun g s => some (.ok (.nx g), s)) := rfl
def popF : List D → Option (List D)
  | [] => none
  | d :: ds => some (d :: ds).dropLast
@[simp] theorem evS_pop {i : Nat} : evS en (.pop i) g s = rb (rp (appO g i popF) s) fun g s => some (.ok (.nx g), s) := by
  show rb (rp (appO g i fun ds => match ds with | [] => none | _ :: _ => some ds.dropLast) s) _ = _
  have : (fun ds : List D => match ds with | [] => none | _ :: _ => some ds.dropLast) = popF := by
    funext ds
    cases ds <;> rfl
  rw [this]
@[simp] theorem evS_ex {L : List Nat} {e : CE} : evS en (.ex L e) g s = exE en L e g s fun _ g s => some (.ok (.nx g), s) := rfl
@[simp] theorem evS_ifs {L : List Nat} {t : CE} {a b : CSs} : evS en (.ifs L t a b) g s = rb (testE en L t g s) fun c s => if c then evSs en a g s else evSs en b g s := rfl
@[simp] theorem evS_for {L : List Nat} {tg : Tgt} {it : CE} {b : CSs} : evS en (.for_ L tg it b) g s = rb (evE en it (frz g L) s) fun x s => rb (rp (itemsD x) s) fun ds s => forL tg (evSs en b) ds (frz g L) s := rfl
@[simp] theorem evS_forR {L : List Nat} {tg : Tgt} {lo hi : CE} {b : CSs} : evS en (.forR L tg lo hi b) g s = rb (evE en lo (frz g L) s) fun x s => rb (evE en hi (frz g L) s) fun y s => rb (rp (rngD x y) s) fun ds s => forL tg (evSs en b) ds (frz g L) s := rfl
@[simp] theorem evS_whl {L : List Nat} {t : CE} {b : CSs} : evS en (.whl L t b) g s = whO (testE en L t) (evSs en b) g s := rfl
@[simp] theorem evS_ret {L : List Nat} {e : CE} : evS en (.ret L e) g s = exE en L e g s fun d _ s => some (.ok (.rt d), s) := rfl
@[simp] theorem evS_rtn : evS en .rtn g s = some (.ok (.rt .non), s) := rfl
@[simp] theorem evS_rse {c : Nat} : evS en (.rse c) g s = some (.exn c, s) := rfl
@[simp] theorem evS_pas : evS en .pas g s = some (.ok (.nx g), s) := rfl
@[simp] theorem evS_cnt : evS en .cnt g s = some (.ok (.ct g), s) := rfl
@[simp] theorem evS_brk : evS en .brk g s = some (.ok (.bk g), s) := rfl
noncomputable def seqK (en : En) (cs : CSs) (f : Fl) (s : S) : EV Fl := match f with
  | .nx g => evSs en cs g s
  | f => some (.ok f, s)
@[simp] theorem seqK_nx {cs : CSs} : seqK en cs (.nx g) s = evSs en cs g s := rfl
@[simp] theorem seqK_rt {cs : CSs} {d : D} : seqK en cs (.rt d) s = some (.ok (.rt d), s) := rfl
@[simp] theorem seqK_ct {cs : CSs} : seqK en cs (.ct g) s = some (.ok (.ct g), s) := rfl
@[simp] theorem seqK_bk {cs : CSs} : seqK en cs (.bk g) s = some (.ok (.bk g), s) := rfl
@[simp] theorem evSs_nil : evSs en .nil g s = some (.ok (.nx g), s) := rfl
@[simp] theorem evSs_cons {c : CS} {cs : CSs} : evSs en (.cons c cs) g s = rb (evS en c g s) (seqK en cs) := rfl
@[simp] theorem exE_nil {e : CE} {k : D → G → S → EV Fl} : exE en [] e g s k = rb (evE en e g s) fun d s => k d g s := by
  unfold exE
  congr 1
  funext d s
  split <;> rfl
@[simp] theorem testE_nil {e : CE} : testE en [] e g s = rb (evE en e g s) tru := rfl
@[simp] theorem frz_nil : frz g [] = g := rfl
@[simp] theorem runB_nx : runB (some (.ok (.nx g), s)) = some (.ok .non, s) := rfl
@[simp] theorem runB_rt {d : D} : runB (some (.ok (.rt d), s)) = some (.ok d, s) := rfl
@[simp] theorem runB_exn {c : Nat} : runB (some (.exn c, s)) = some (.exn c, s) := rfl
end
theorem gl_of {tb : Tb} {i : Nat} {d : D} [H : HasG tb i d] : tb.gl i = d := H.h
/-! data -/
@[simp] theorem cd_non : Cst.non.d = .non := rfl
@[simp] theorem cd_bl {b : Bool} : (Cst.bl b).d = .bl b := rfl
@[simp] theorem cd_int {i : Int} : (Cst.int i).d = .int i := rfl
@[simp] theorem cd_str {x : Str} : (Cst.str x).d = .str x := rfl
@[simp] theorem rd_nil {i : Nat} : G.rd [] i = none := rfl
@[simp] theorem rd_zero {d : D} {g : List Sl} : G.rd (.dat d :: g) 0 = some d := rfl
@[simp] theorem rd_succ {x : Sl} {g : List Sl} {i : Nat} : G.rd (x :: g) (i + 1) = G.rd g i := rfl
@[simp] theorem SZ_eq : SZ = 1000000 := rfl
@[simp] theorem tru_bl {b : Bool} {s : S} : tru (.bl b) s = some (.ok b, s) := rfl
@[simp] theorem tru_int {i : Int} {s : S} : tru (.int i) s = some (.ok (i != 0), s) := rfl
@[simp] theorem tru_lst {xs : List D} {s : S} : tru (.lst xs) s = some (.ok (!xs.isEmpty), s) := rfl
@[simp] theorem tru_tup {xs : List D} {s : S} : tru (.tup xs) s = some (.ok (!xs.isEmpty), s) := rfl
@[simp] theorem tru_scr {xs : List Int} {s : S} : tru (.scr xs) s = some (.ok (!xs.isEmpty), s) := rfl
@[simp] theorem tru_non {s : S} : tru .non s = some (.ok false, s) := rfl
@[simp] theorem add_int {i j : Int} : binD .add (.int i) (.int j) = some (.int (i + j)) := rfl
@[simp] theorem sub_int {i j : Int} : binD .sub (.int i) (.int j) = some (.int (i - j)) := rfl
theorem mul_int {i j : Int} (h : mulOk i j = true) : binD .mul (.int i) (.int j) = some (.int (i * j)) := if_pos h
theorem fdiv_int {i j : Int} (h : divOk j = true) : binD .fdiv (.int i) (.int j) = some (.int (i.fdiv j)) := if_pos h
theorem mod_int {i j : Int} (h : j ≠ 0) : binD .mod (.int i) (.int j) = some (.int (i.fmod j)) := if_neg h
theorem add_lst {xs ys : List D} (h : xs.length + ys.length ≤ SZ) : binD .add (.lst xs) (.lst ys) = some (.lst (xs ++ ys)) := if_pos h
@[simp] theorem lt_int {i j : Int} : cmpD .lt (.int i) (.int j) = some (decide (i < j)) := rfl
@[simp] theorem le_int {i j : Int} : cmpD .le (.int i) (.int j) = some (decide (i ≤ j)) := rfl
@[simp] theorem gt_int {i j : Int} : cmpD .gt (.int i) (.int j) = some (decide (j < i)) := rfl
@[simp] theorem ge_int {i j : Int} : cmpD .ge (.int i) (.int j) = some (decide (j ≤ i)) := rfl
@[simp] theorem eq_int {i j : Int} : cmpD .eq (.int i) (.int j) = some (i == j) := rfl
@[simp] theorem ne_int {i j : Int} : cmpD .ne (.int i) (.int j) = some (!(i == j)) := rfl
@[simp] theorem len_lst {xs : List D} {s : S} : bifD .len [.lst xs] s = some (.int xs.length) := rfl
@[simp] theorem len_tup {xs : List D} {s : S} : bifD .len [.tup xs] s = some (.int xs.length) := rfl
@[simp] theorem len_scr {xs : List Int} {s : S} : bifD .len [.scr xs] s = some (.int xs.length) := rfl
@[simp] theorem len_town {n : Nat} : bifD .len [.town] (some n) = some (.int n) := rfl
@[simp] theorem abs_int {i : Int} {s : S} : bifD .abs [.int i] s = some (.int (if i < 0 then -i else i)) := rfl
@[simp] theorem idx_lst {xs : List D} {i : Int} : idxD (.lst xs) (.int i) = atL xs i := rfl
@[simp] theorem idx_tup {xs : List D} {i : Int} : idxD (.tup xs) (.int i) = atL xs i := rfl
@[simp] theorem idx_scr {xs : List Int} {i : Int} : idxD (.scr xs) (.int i) = (atL xs i).map D.int := rfl
theorem at_nat {α : Type} {xs : List α} {i : Nat} : atL xs (i : Int) = xs[i]? := by
  unfold atL
  rw [if_pos (Int.natCast_nonneg i), Int.toNat_natCast]
theorem at_pos {α : Type} {xs : List α} {i : Int} (h : 0 ≤ i) : atL xs i = xs[i.toNat]? := if_pos h
@[simp] theorem at0 {α : Type} {x : α} {xs : List α} : atL (x :: xs) 0 = some x := rfl
@[simp] theorem at1 {α : Type} {x y : α} {xs : List α} : atL (x :: y :: xs) 1 = some y := rfl
@[simp] theorem at2 {α : Type} {x y z : α} {xs : List α} : atL (x :: y :: z :: xs) 2 = some z := rfl
/-! ### wishes -/
def W {α : Type} (o : EV α) (Q : α → S → Prop) : Prop := ∃ a s, o = some (.ok a, s) ∧ Q a s
@[simp] theorem W_ok {α : Type} {a : α} {s : S} {Q : α → S → Prop} : W (some (.ok a, s)) Q ↔ Q a s := ⟨fun ⟨_, _, e, q⟩ => by cases e; exact q, fun q => ⟨_, _, rfl, q⟩⟩
@[simp] theorem W_none {α : Type} {Q : α → S → Prop} : W none Q ↔ False := ⟨fun h => (by obtain ⟨_, _, e, _⟩ := h; cases e), False.elim⟩
@[simp] theorem W_exn {α : Type} {c : Nat} {s : S} {Q : α → S → Prop} : W (some (.exn c, s)) Q ↔ False := ⟨fun h => (by obtain ⟨_, _, e, _⟩ := h; cases e), False.elim⟩
@[simp] theorem W_rb {α β : Type} {o : EV α} {f : α → S → EV β} {Q : β → S → Prop} : W (rb o f) Q ↔ W o fun a s => W (f a s) Q := by
  constructor
  · rintro ⟨b, s, e, q⟩
    cases o with
    | none => cases e
    | some p =>
      obtain ⟨r, s1⟩ := p
      cases r with
      | exn c => cases e
      | ok a => exact ⟨a, s1, rfl, b, s, e, q⟩
  · rintro ⟨a, s1, rfl, b, s, e, q⟩
    exact ⟨b, s, e, q⟩
theorem W.mono {α : Type} {o : EV α} {Q Q' : α → S → Prop} (h : W o Q) (i : ∀ a s, Q a s → Q' a s) : W o Q' := by
  obtain ⟨a, s, e, q⟩ := h
  exact ⟨a, s, e, i a s q⟩
/-- the end of a body -/
def retK (Q : D → S → Prop) (f : Fl) (s : S) : Prop := match f with
  | .nx _ => Q .non s
  | .rt d => Q d s
  | _ => False
@[simp] theorem retK_nx {Q : D → S → Prop} {g : G} {s : S} : retK Q (.nx g) s = Q .non s := rfl
@[simp] theorem retK_rt {Q : D → S → Prop} {d : D} {s : S} : retK Q (.rt d) s = Q d s := rfl
theorem W_run {o : EV Fl} {Q : D → S → Prop} : W (runB o) Q ↔ W o (retK Q) := by
  unfold runB
  rw [W_rb]
  constructor
  · rintro ⟨f, s, e, q⟩
    refine ⟨f, s, e, ?_⟩
    cases f <;> simpa using q
  · rintro ⟨f, s, e, q⟩
    refine ⟨f, s, e, ?_⟩
    cases f
    · simpa using q
    · simpa using q
    · exact q.elim
    · exact q.elim
end FR
/-! FrDraw: sizes of numbers; a law's draws. -/
namespace FR
open PySem (Str)
/-! ### sizes -/
def bt (i : Int) (n : Nat) : Prop := i.natAbs < 2 ^ n
theorem bt.mono {i : Int} {n m : Nat} (h : bt i n) (l : n ≤ m) : bt i m := Nat.lt_of_lt_of_le h (Nat.pow_le_pow_right (by decide) l)
theorem bt_add {i j : Int} {n : Nat} (h : bt i n) (k : bt j n) : bt (i + j) (n + 1) := by
  unfold bt at *
  have := Int.natAbs_add_le i j
  rw [Nat.pow_succ]
  omega
theorem bt_neg {i : Int} {n : Nat} (h : bt i n) : bt (-i) n := by
  unfold bt at *
  rw [Int.natAbs_neg]
  exact h
theorem bt_mul {i j : Int} {n m : Nat} (h : bt i n) (k : bt j m) : bt (i * j) (n + m) := by
  unfold bt at *
  rw [Int.natAbs_mul, Nat.pow_add]
  exact Nat.mul_lt_mul'' h k
theorem bt_of {i : Int} {n : Nat} (h1 : -(2 ^ n : Nat) < i) (h2 : i < (2 ^ n : Nat)) : bt i n := by
  unfold bt
  omega
theorem log2_le_of {a n : Nat} (h : a < 2 ^ n) : a.log2 ≤ n := by
  by_cases z : a = 0
  · subst z
    exact Nat.zero_le _
  · exact Nat.le_of_lt ((Nat.log2_lt z).mpr h)
theorem mulOk_of {i j : Int} {n m : Nat} (h : bt i n) (k : bt j m) (l : n + m < 1000000) : mulOk i j = true := by
  unfold mulOk
  have h1 := log2_le_of h
  have h2 := log2_le_of k
  exact decide_eq_true (by omega)
theorem divOk_of {j : Int} {n : Nat} (z : j ≠ 0) (h : bt j n) (l : n < 9000) : divOk j = true := by
  unfold divOk
  have h1 := log2_le_of h
  exact decide_eq_true ⟨z, by omega⟩
theorem mul_bt {i j : Int} {n m : Nat} (h : bt i n) (k : bt j m) (l : n + m < 1000000) : binD .mul (.int i) (.int j) = some (.int (i * j)) := mul_int (mulOk_of h k l)
theorem at_in {α : Type} {xs : List α} {i : Int} (h0 : 0 ≤ i) (h1 : i < xs.length) : ∃ x ∈ xs, atL xs i = some x := by
  rw [at_pos h0]
  have : i.toNat < xs.length := by omega
  exact ⟨xs[i.toNat], List.getElem_mem this, List.getElem?_eq_getElem this⟩
/-! ### draws -/
section
variable {tb : Tb} [Has tb 9 cb_w_cell 2 2] [Has tb 10 cb_w_mix 3 2] [Has tb 11 cb_w_draw 3 3] [Has tb 12 cb_w_pick 3 3]
theorem cell_eq {k n : Nat} {ns : List Int} {s : S} : ∃ c : Int, sem tb (k + 1) 9 [.scr ns, .int n] s = some (.ok (.int c), s) := by
  rw [sem_of rfl]
  cases ns with
  | nil =>
    refine ⟨0, ?_⟩
    simp [cb_w_cell, startG]
  | cons a r =>
    have h0 : (0 : Int) < (r.length : Int) + 1 := by omega
    have h : (((r.length : Int) + 1)) ≠ 0 := by omega
    obtain ⟨x, _, e⟩ := at_in (xs := a :: r) (Int.fmod_nonneg_of_pos (n : Int) h0) (by rw [List.length_cons, Int.natCast_add]; exact Int.fmod_lt_of_pos _ h0)
    refine ⟨x, ?_⟩
    simp [cb_w_cell, startG, mod_int h, e]
theorem pow_int {i : Int} (h0 : 0 ≤ i) (h : i < 4294967296) : binD .pow (.int i) (.int 5) = some (.int (i ^ 5)) := if_pos ⟨by decide, by decide, by omega⟩
theorem mix_eq {k n : Nat} {ns : List Int} {s : S} (hn : n < 1000000000) : ∃ c : Int, sem tb (k + 2) 10 [.scr ns, .int n] s = some (.ok (.int c), s) := by
  rw [sem_of rfl]
  obtain ⟨c, e⟩ := cell_eq (tb := tb) (k := k) (n := n) (ns := ns) (s := s)
  have m1 : binD .mul (.int 104729) (.int ((n : Int) + 1)) = some (.int (104729 * ((n : Int) + 1))) := mul_bt (n := 40) (m := 40) (bt_of (by decide) (by decide)) (bt_of (by omega) (by omega)) (by decide)
  generalize hx : (c + 104729 * ((n : Int) + 1)).fmod 4294967291 = x
  have x0 : 0 ≤ x := by rw [← hx]; exact Int.fmod_nonneg_of_pos _ (by decide)
  have x1 : x < 4294967291 := by rw [← hx]; exact Int.fmod_lt_of_pos _ (by decide)
  generalize hy : (x ^ 5).fmod 4294967279 = y
  have y0 : 0 ≤ y := by rw [← hy]; exact Int.fmod_nonneg_of_pos _ (by decide)
  have y1 : y < 4294967279 := by rw [← hy]; exact Int.fmod_lt_of_pos _ (by decide)
  have z0 : y.fdiv 64 = y / 64 := Int.fdiv_eq_ediv_of_nonneg _ (by decide)
  have m2 : binD .mul (.int (y / 64)) (.int 69621) = some (.int (y / 64 * 69621)) := mul_bt (n := 40) (m := 40) (bt_of (by omega) (by omega)) (bt_of (by decide) (by decide)) (by decide)
  refine ⟨(y / 64 * 69621 + y).fmod 4294967231, ?_⟩
  simp [cb_w_mix, startG, e, m1, mod_int, hx, pow_int x0 (by omega : x < 4294967296), hy, fdiv_int (show divOk 64 = true from rfl), z0, m2]
theorem W_draw {k n : Nat} {ns : List Int} {m : Int} {Q : D → S → Prop} (hn : n < 900000) (hm : 0 < m) (h : ∀ r : Int, 0 ≤ r → r < m → Q (.int r) (some (n + 1))) : W (sem tb (k + 3) 11 [.scr ns, .town, .int m] (some n)) Q := by
  obtain ⟨c, e⟩ := mix_eq (tb := tb) (k := k) (n := n + 1) (ns := ns) (s := some (n + 1)) (by omega)
  refine ⟨_, _, ?_, h ((c.fdiv 8).fmod m) (Int.fmod_nonneg_of_pos _ hm) (Int.fmod_lt_of_pos _ hm)⟩
  rw [sem_of rfl]
  have hs : n < 1000000 := Nat.lt_trans hn (by decide)
  have hz : m ≠ 0 := by omega
  rw [Int.natCast_add] at e
  have e' : sem tb (k + 2) 10 [.scr ns, .int ((n : Int) + 1)] (some (n + 1)) = some (.ok (.int c), some (n + 1)) := e
  simp [cb_w_draw, startG, hs, e', fdiv_int (show divOk 8 = true from rfl), mod_int hz]
theorem W_pick {k n : Nat} {ns : List Int} {xs : List D} {Q : D → S → Prop} (hn : n < 900000) (hm : xs ≠ []) (h : ∀ x ∈ xs, Q x (some (n + 1))) : W (sem tb (k + 4) 12 [.scr ns, .town, .lst xs] (some n)) Q := by
  rw [sem_of rfl]
  have hl : (0 : Int) < xs.length := by
    have := List.length_pos_iff.mpr hm
    omega
  obtain ⟨r, s, e, r', rfl, h0, h1, rfl⟩ := W_draw (tb := tb) (k := k) (ns := ns) (m := xs.length) (Q := fun d s => ∃ r : Int, d = .int r ∧ 0 ≤ r ∧ r < xs.length ∧ s = some (n + 1)) hn hl fun r h0 h1 => ⟨r, rfl, h0, h1, rfl⟩
  obtain ⟨x, hx, ex⟩ := at_in h0 h1
  refine ⟨_, _, ?_, h x hx⟩
  simp [cb_w_pick, startG, e, ex]
end
end FR
/-! FrFrac: fractions. -/
namespace FR
open PySem (Str)
theorem gcd_fmod (a b : Int) : Int.gcd b (a.fmod b) = Int.gcd a b := by
  rw [Int.fmod_def, Int.gcd_comm a b]
  simp
theorem fmod_small (a : Int) {b : Int} (h : b ≠ 0) : (a.fmod b).natAbs < b.natAbs := by
  rw [Int.fmod_eq_emod]
  have h1 := Int.emod_nonneg a h
  have h2 := Int.emod_lt a h
  split
  · omega
  · rename_i hn
    have : 0 < a % b := by
      have : ¬ b ∣ a := fun hd => hn (.inr hd)
      have : a % b ≠ 0 := fun e => this (Int.dvd_of_emod_eq_zero e)
      omega
    omega
theorem whF_step {t : G → S → EV Bool} {b : G → S → EV Fl} {n : Nat} {g g2 : G} {s s1 s2 : S} (h1 : t g s = some (.ok true, s1)) (h2 : b g s1 = some (.ok (.nx g2), s2)) : whF t b (n + 1) g s = whF t b n g2 s2 := by
  rw [whF, h1, rb_ok, if_pos rfl, h2, rb_ok]
theorem whF_stop {t : G → S → EV Bool} {b : G → S → EV Fl} {n : Nat} {g : G} {s s1 : S} (h1 : t g s = some (.ok false, s1)) : whF t b (n + 1) g s = some (.ok (.nx g), s1) := by
  rw [whF, h1, rb_ok]
  rfl
def dv_body : CSs := .cons (.par [] [0, 1] (.cons (.var 1) (.cons (.bin .mod (.var 0) (.var 1)) (.nil)))) (.nil)
theorem div_loop {en : En} {s : S} : ∀ (n : Nat) (a b : Int), b.natAbs < n → ∃ x : Int, whF (testE en [] (.var 1)) (evSs en dv_body) n [.dat (.int a), .dat (.int b)] s = some (.ok (.nx [.dat (.int x), .dat (.int 0)]), s) ∧ x.natAbs = Int.gcd a b
  | 0, _, _, h => by omega
  | n + 1, a, b, h => by
    by_cases hb : b = 0
    · subst hb
      refine ⟨a, whF_stop (by simp), ?_⟩
      simp
    · have hs := fmod_small a hb
      obtain ⟨x, e, hx⟩ := div_loop (en := en) (s := s) n b (a.fmod b) (by omega)
      refine ⟨x, ?_, ?_⟩
      · rw [whF_step (s1 := s) (s2 := s) (g2 := [.dat (.int b), .dat (.int (a.fmod b))])]
        · exact e
        · simp [hb]
        · simp [dv_body, mod_int hb, setAll]
      · rw [hx, gcd_fmod]
section
variable {tb : Tb} [Has tb 1 cb_divisor 2 2]
theorem divisor_eq {k : Nat} {a b : Int} {s : S} : sem tb (k + 1) 1 [.int a, .int b] s = some (.ok (.int (Int.gcd a b)), s) := by
  rw [sem_of rfl]
  obtain ⟨x, e, hx⟩ := div_loop (en := enOf tb k) (s := s) (b.natAbs + 1) a b (by omega)
  have := whO_of e
  unfold dv_body at this
  have hx2 : (if x < 0 then -x else x) = (Int.gcd a b : Int) := by
    rw [← hx]
    split <;> omega
  simp [cb_divisor, startG, this, hx2]
end
/-- the fraction q as the program writes it -/
def frD (q : Rat) : D := .tup [.int q.num, .int q.den]
theorem frD_divInt {a b : Int} (h : b ≠ 0) : frD (Rat.divInt a b) = .tup [.int (b.sign * a / (b.gcd a : Int)), .int (b.natAbs / b.gcd a : Nat)] := by
  unfold frD
  rw [Rat.num_divInt, Rat.den_divInt, if_neg h]
section
variable {tb : Tb} [Has tb 1 cb_divisor 2 2] [Has tb 2 cb_least 3 2]
theorem least_eq {k : Nat} {a b : Int} {s : S} (h : b ≠ 0) (hb : bt b 8999) : sem tb (k + 2) 2 [.int a, .int b] s = some (.ok (frD (Rat.divInt a b)), s) := by
  rw [sem_of rfl, frD_divInt h]
  have hg0 : (0 : Int) < (Int.gcd a b : Int) := by
    have := Int.gcd_pos_of_ne_zero_right a h
    omega
  have hgd : (Int.gcd a b : Int) ∣ b := Int.gcd_dvd_right a b
  have hgl : (Int.gcd a b) ≤ b.natAbs := Nat.le_of_dvd (by omega) (Int.natAbs_dvd_natAbs.mpr hgd)
  have hok : divOk (Int.gcd a b : Int) = true := divOk_of (n := 8999) (by omega) (by unfold bt at *; omega) (by decide)
  have fd : ∀ x : Int, x.fdiv (Int.gcd a b : Int) = x / (Int.gcd a b : Int) := fun x => Int.fdiv_eq_ediv_of_nonneg _ (by omega)
  have hn : ((b.natAbs / Int.gcd a b : Nat) : Int) = (b.natAbs : Int) / (Int.gcd a b : Int) := Int.natCast_ediv _ _
  rw [Int.gcd_comm b a, hn]
  by_cases hneg : b < 0
  · have d1 : sem tb (k + 1) 1 [.int (0 - a), .int (0 - b)] s = some (.ok (.int (Int.gcd a b)), s) := by
      rw [divisor_eq, Int.zero_sub, Int.zero_sub, Int.neg_gcd, Int.gcd_neg]
    rw [Int.sign_eq_neg_one_of_neg hneg]
    have e1 : (-1 : Int) * a = 0 - a := by omega
    have e2 : (b.natAbs : Int) = 0 - b := by omega
    rw [e1, e2]
    simp only [cb_least, startG]
    simp only [Int.zero_sub] at d1 ⊢
    simp [hneg, setAll, d1, fdiv_int hok, fd, SZ]
  · have d1 : sem tb (k + 1) 1 [.int a, .int b] s = some (.ok (.int (Int.gcd a b)), s) := divisor_eq
    rw [Int.sign_eq_one_of_pos (by omega)]
    have e2 : (b.natAbs : Int) = b := by omega
    rw [e2, Int.one_mul]
    simp [cb_least, startG, hneg, setAll, d1, fdiv_int hok, fd, SZ]
end
/-! the law's own -/
def lv_body : CSs := .cons (.par [] [3, 4] (.cons (.var 4) (.cons (.bin .mod (.var 3) (.var 4)) (.nil)))) (.nil)
theorem lv_loop {en : En} {s : S} {u v w : Sl} : ∀ (n : Nat) (a b : Int), 0 ≤ a → 0 ≤ b → b.natAbs < n → whF (testE en [] (.cmp .gt (.var 4) (.cst (.int 0)))) (evSs en lv_body) n [u, v, w, .dat (.int a), .dat (.int b)] s = some (.ok (.nx [u, v, w, .dat (.int (Int.gcd a b)), .dat (.int 0)]), s)
  | 0, _, _, _, _, h => by omega
  | n + 1, a, b, h0, h1, h => by
    by_cases hb : b = 0
    · subst hb
      rw [Int.gcd_zero_right, Int.natAbs_of_nonneg h0]
      exact whF_stop (by simp)
    · have hs := fmod_small a hb
      have hf : 0 ≤ a.fmod b := Int.fmod_nonneg_of_pos _ (by omega)
      have e := lv_loop (en := en) (s := s) (u := u) (v := v) (w := w) n b (a.fmod b) h1 hf (by omega)
      rw [gcd_fmod] at e
      rw [← e]
      have hp : 0 < b := by omega
      refine whF_step (s1 := s) (s2 := s) ?_ ?_
      · simp [hp]
      · simp [lv_body, mod_int hb, setAll]
section
variable {tb : Tb} [Has tb 13 cb_w_least 5 2]
theorem wleast_eq {k : Nat} {a b : Int} {s : S} (h : b ≠ 0) (hb : bt b 8999) : sem tb (k + 1) 13 [.int a, .int b] s = some (.ok (frD (Rat.divInt a b)), s) := by
  rw [sem_of rfl, frD_divInt h]
  have hg0 : (0 : Int) < (Int.gcd a b : Int) := by
    have := Int.gcd_pos_of_ne_zero_right a h
    omega
  have hgd : (Int.gcd a b : Int) ∣ b := Int.gcd_dvd_right a b
  have hga : (Int.gcd a b : Int) ∣ a := Int.gcd_dvd_left a b
  have hgl : (Int.gcd a b) ≤ b.natAbs := Nat.le_of_dvd (by omega) (Int.natAbs_dvd_natAbs.mpr hgd)
  have hok : divOk (Int.gcd a b : Int) = true := divOk_of (n := 8999) (by omega) (by unfold bt at *; omega) (by decide)
  have hok2 : divOk (-(Int.gcd a b : Int)) = true := divOk_of (n := 8999) (by omega) (by unfold bt at *; omega) (by decide)
  have fd : ∀ x : Int, x.fdiv (Int.gcd a b : Int) = x / (Int.gcd a b : Int) := fun x => Int.fdiv_eq_ediv_of_nonneg _ (by omega)
  have fn : ∀ x : Int, (Int.gcd a b : Int) ∣ x → x.fdiv (-(Int.gcd a b : Int)) = -x / (Int.gcd a b : Int) := fun x hx => by
    rw [Int.fdiv_eq_ediv, if_pos (.inr (Int.neg_dvd.mpr hx)), Int.ediv_neg, Int.neg_ediv_of_dvd hx]
    omega
  have hn : ((b.natAbs / Int.gcd a b : Nat) : Int) = (b.natAbs : Int) / (Int.gcd a b : Int) := Int.natCast_ediv _ _
  rw [Int.gcd_comm b a, hn]
  have ab : ∀ x : Int, (if x < 0 then -x else x) = (x.natAbs : Int) := fun x => by split <;> omega
  have e := whO_of (lv_loop (en := enOf tb k) (s := s) (u := .dat (.int a)) (v := .dat (.int b)) (w := .un) (b.natAbs + 1) a.natAbs b.natAbs (by omega) (by omega) (by omega))
  have eg : Int.gcd (a.natAbs : Int) (b.natAbs : Int) = Int.gcd a b := by simp [Int.gcd]
  rw [eg] at e
  unfold lv_body at e
  by_cases hneg : b < 0
  · rw [Int.sign_eq_neg_one_of_neg hneg]
    have e1 : (-1 : Int) * a = -a := by omega
    have e2 : (b.natAbs : Int) = -b := by omega
    have hp : ¬ 0 < b := by omega
    rw [e1, e2]
    rw [e2] at e
    simp [cb_w_least, startG, setAll, ab, e2, e, hp, fdiv_int hok2, fn a hga, fn b hgd, SZ]
  · rw [Int.sign_eq_one_of_pos (by omega)]
    have hp : 0 < b := by omega
    have e2 : (b.natAbs : Int) = b := by omega
    rw [e2, Int.one_mul]
    rw [e2] at e
    simp [cb_w_least, startG, setAll, ab, e2, e, hp, fdiv_int hok, fd, SZ]
end
end FR
/-! FrLegs: lists of numbers; legs. -/
namespace FR
open PySem (Str)
theorem compL_map {α : Type} {e : α → D} {f : D → S → EV (Option D)} {h : α → D} {s : S} : ∀ {xs : List α}, (∀ x ∈ xs, f (e x) s = some (.ok (some (h x)), s)) → compL f (xs.map e) s = some (.ok (xs.map h), s)
  | [], _ => rfl
  | x :: xs, H => by
    rw [List.map_cons, compL, H x List.mem_cons_self]
    dsimp only
    rw [compL_map fun y hy => H y (List.mem_cons_of_mem _ hy)]
    rfl
@[simp] theorem items_lst {xs : List D} : itemsD (.lst xs) = some xs := rfl
@[simp] theorem items_tup {xs : List D} : itemsD (.tup xs) = some xs := rfl
theorem bigL_ok {xs : List D} {s : S} (h : xs.length ≤ SZ) : bigL xs s = some (.ok (.lst xs), s) := if_pos h
theorem intsD_map {α : Type} {f : α → Int} : ∀ {xs : List α}, intsD (xs.map fun x => D.int (f x)) = some (xs.map f)
  | [] => rfl
  | x :: xs => by
    rw [List.map_cons, intsD, intsD_map]
    rfl
theorem boolsD_map {α : Type} {f : α → Bool} : ∀ {xs : List α}, boolsD (xs.map fun x => D.bl (f x)) = some (xs.map f)
  | [] => rfl
  | x :: xs => by
    rw [List.map_cons, boolsD, boolsD_map]
    rfl
theorem sum_map {α : Type} {f : α → Int} {xs : List α} {s : S} : bifD .sum [.lst (xs.map fun x => D.int (f x))] s = some (.int (xs.map f).sum) := by
  show (intsD _).map _ = _
  rw [intsD_map]
  rfl
theorem all_map {α : Type} {f : α → Bool} {xs : List α} {s : S} : bifD .all [.lst (xs.map fun x => D.bl (f x))] s = some (.bl (xs.all f)) := by
  show (boolsD _).map _ = _
  rw [boolsD_map]
  simp
@[simp] theorem isi_int {i : Int} : isiD (.int i) .int = some true := rfl
@[simp] theorem isi_int_bool {i : Int} : isiD (.int i) .bool = some false := rfl
@[simp] theorem isi_tup {xs : List D} : isiD (.tup xs) .tuple = some true := rfl
@[simp] theorem isi_tup_list {xs : List D} : isiD (.tup xs) .list = some false := rfl
@[simp] theorem isi_lst {xs : List D} : isiD (.lst xs) .list = some true := rfl
@[simp] theorem isTrue_t : CE.isTrue (.cst (.bl true)) = true := rfl
@[simp] theorem isNon_t : CE.isNon (.cst .non) = true := rfl
@[simp] theorem isNon_i {i : Int} : CE.isNon (.cst (.int i)) = false := rfl
@[simp] theorem isNon_v {i : Nat} : CE.isNon (.var i) = false := rfl
@[simp] theorem part_int {i : Int} : partD (.int i) = some (some i) := rfl
theorem sum_bt {α : Type} {f : α → Int} {B : Int} : ∀ {xs : List α}, (∀ x ∈ xs, -B ≤ f x ∧ f x ≤ B) → -(xs.length * B) ≤ (xs.map f).sum ∧ (xs.map f).sum ≤ xs.length * B
  | [], _ => by simp
  | x :: xs, h => by
    have h1 := h x List.mem_cons_self
    have h2 := sum_bt (f := f) (B := B) (xs := xs) fun y hy => h y (List.mem_cons_of_mem _ hy)
    rw [List.map_cons, List.sum_cons, List.length_cons, Int.natCast_add, Int.add_mul]
    omega
/-! ### legs -/
structure Leg where
  e : Int
  n : Int
  l : Int
def Leg.ok (x : Leg) : Prop := -1000000 ≤ x.e ∧ x.e ≤ 1000000 ∧ -1000000 ≤ x.n ∧ x.n ≤ 1000000 ∧ 1 ≤ x.l ∧ x.l ≤ 2000000
def Leg.d (x : Leg) : D := .tup [.int x.e, .int x.n, .int x.l]
def LegsOk (ls : List Leg) : Prop := (1 ≤ ls.length ∧ ls.length ≤ 40) ∧ ∀ l ∈ ls, l.ok
def legsD (ls : List Leg) : D := .lst (ls.map Leg.d)
def sE (ls : List Leg) : Int := (ls.map Leg.e).sum
def sN (ls : List Leg) : Int := (ls.map Leg.n).sum
section
variable {tb : Tb} [Has tb 7 cb_closing_of 2 1]
theorem cl_of {k : Nat} {ls : List Leg} {s : S} (h : LegsOk ls) : sem tb (k + 1) 7 [legsD ls] s = some (.ok (.tup [.int (sE ls), .int (sN ls)]), s) := by
  rw [sem_of rfl]
  have e0 : ∀ g, compL (cmp1 (enOf tb k) [g, .un] (.nm 1) (.cst (.bl true)) (.idx (.var 1) (.cst (.int 0)))) (ls.map Leg.d) s = some (.ok (ls.map fun x => D.int x.e), s) := fun g => compL_map fun x hx => by simp [cmp1, setT, Leg.d]
  have e1 : ∀ g, compL (cmp1 (enOf tb k) [g, .un] (.nm 1) (.cst (.bl true)) (.idx (.var 1) (.cst (.int 1)))) (ls.map Leg.d) s = some (.ok (ls.map fun x => D.int x.n), s) := fun g => compL_map fun x hx => by simp [cmp1, setT, Leg.d]
  have b : ∀ f : Leg → D, bigL (ls.map f) s = some (.ok (.lst (ls.map f)), s) := fun f => bigL_ok (by have := h.1; rw [List.length_map, SZ]; omega)
  simp [cb_closing_of, startG, legsD, e0, e1, b, sum_map, sE, sN, SZ]
end
section
variable {tb : Tb} [Has tb 3 cb_is_whole 3 3]
theorem whole_eq {k : Nat} {i lo hi : Int} {s : S} : sem tb (k + 1) 3 [.int i, .int lo, .int hi] s = some (.ok (.bl (decide (lo ≤ i ∧ i ≤ hi))), s) := by
  rw [sem_of rfl]
  by_cases h : lo ≤ i
  · simp [cb_is_whole, startG, h]
  · simp [cb_is_whole, startG, h]
variable [Has tb 4 cb_is_leg 2 1] [HasG tb 4 (.int 2000000)] [HasG tb 2 (.int 1000000)]
theorem leg_ok {k : Nat} {x : Leg} {s : S} (h : x.ok) : sem tb (k + 2) 4 [x.d] s = some (.ok (.bl true), s) := by
  rw [sem_of rfl]
  obtain ⟨h1, h2, h3, h4, h5, h6⟩ := h
  have c : cutL [D.int x.e, .int x.n, .int x.l] none (some 2) = [.int x.e, .int x.n] := rfl
  simp [cb_is_leg, startG, Leg.d, gl_of, whole_eq, h1, h2, h3, h4, h5, h6, slcD, c, compL, cmp1, setT, bigL, SZ, show bifD .all [.lst [.bl true, .bl true]] s = some (.bl true) from rfl]
variable [Has tb 5 cb_look_legs 2 1] [HasG tb 3 (.int 40)]
theorem look_ok {k : Nat} {ls : List Leg} {s : S} (h : LegsOk ls) : sem tb (k + 3) 5 [legsD ls] s = some (.ok .non, s) := by
  rw [sem_of rfl]
  obtain ⟨⟨h1, h2⟩, h3⟩ := h
  have e : compL (cmp1 (enOf tb (k + 2)) [.dat (.lst (ls.map Leg.d)), .un] (.nm 1) (.cst (.bl true)) (.call 4 (.cons (.var 1) .nil))) (ls.map Leg.d) s = some (.ok (ls.map fun x => D.bl true), s) :=
    compL_map fun x hx => by simp [cmp1, setT, leg_ok (h3 x hx)]
  have b : bigL (ls.map fun _ => D.bl true) s = some (.ok (.lst (ls.map fun _ => D.bl true)), s) := bigL_ok (by rw [List.length_map, SZ]; omega)
  have a : bifD .all [.lst (ls.map fun _ => D.bl true)] s = some (.bl true) := by
    rw [all_map (f := fun _ : Leg => true)]
    simp
  have l1 : (1 : Int) ≤ ls.length := by omega
  have l2 : (ls.length : Int) ≤ 40 := by omega
  simp [cb_look_legs, startG, legsD, gl_of, l1, l2, e, b, a]
variable [Has tb 7 cb_closing_of 2 1]
variable [Has tb 6 cb_closing 1 1]
theorem LegsOk.ne {ls : List Leg} (h : LegsOk ls) : ls ≠ [] := by
  rintro rfl
  have := h.1.1
  simp at this
variable [Has tb 8 cb_sharpness 5 1] [Has tb 1 cb_divisor 2 2] [Has tb 2 cb_least 3 2]
end
end FR
/-! FrLoop: wishes over loops. -/
namespace FR
open PySem (Str)
def stepK (J : G → S → Prop) (Q : Fl → S → Prop) (f : Fl) (s : S) : Prop := match f with
  | .nx g => J g s
  | .ct g => J g s
  | .bk g => Q (.nx g) s
  | .rt d => Q (.rt d) s
@[simp] theorem stepK_nx {J : G → S → Prop} {Q : Fl → S → Prop} {g : G} {s : S} : stepK J Q (.nx g) s = J g s := rfl
@[simp] theorem stepK_ct {J : G → S → Prop} {Q : Fl → S → Prop} {g : G} {s : S} : stepK J Q (.ct g) s = J g s := rfl
@[simp] theorem stepK_bk {J : G → S → Prop} {Q : Fl → S → Prop} {g : G} {s : S} : stepK J Q (.bk g) s = Q (.nx g) s := rfl
@[simp] theorem stepK_rt {J : G → S → Prop} {Q : Fl → S → Prop} {d : D} {s : S} : stepK J Q (.rt d) s = Q (.rt d) s := rfl
theorem W_forL {tg : Tgt} {b : G → S → EV Fl} {Q : Fl → S → Prop} : ∀ {ds : List D} {I : Nat → G → S → Prop} {g : G} {s : S}, I 0 g s → (∀ (i : Nat) (d : D) (g : G) (s : S), ds[i]? = some d → I i g s → ∃ g1, setT g d tg = some g1 ∧ W (b g1 s) (stepK (I (i + 1)) Q)) →
    (∀ g s, I ds.length g s → Q (.nx g) s) → W (forL tg b ds g s) Q
  | [], I, g, s, h0, _, hf => by
    rw [forL, W_ok]
    exact hf g s h0
  | d :: ds, I, g, s, h0, hs, hf => by
    obtain ⟨g1, e, f, s1, ef, q⟩ := hs 0 d g s rfl h0
    rw [forL, e]
    dsimp only
    rw [ef, rb_ok]
    have next : ∀ g2, I 1 g2 s1 → W (forL tg b ds g2 s1) Q := fun g2 hI => W_forL (I := fun i => I (i + 1)) hI (fun i d g s hd hI => hs (i + 1) d g s hd hI) fun g s hI => hf g s hI
    cases f with
    | nx g2 => exact next g2 q
    | ct g2 => exact next g2 q
    | bk g2 => exact W_ok.mpr q
    | rt d => exact W_ok.mpr q
theorem range_len {lo hi : Int} : (rangeD lo hi).length = (hi - lo).toNat := by
  unfold rangeD
  rw [List.length_map, List.length_range]
theorem range_get {lo hi : Int} {i : Nat} {d : D} (h : (rangeD lo hi)[i]? = some d) : d = .int (lo + i) ∧ lo + i < hi := by
  have hl := (List.getElem?_eq_some_iff.mp h).1
  rw [range_len] at hl
  unfold rangeD at h
  rw [List.getElem?_map, List.getElem?_range hl] at h
  cases h
  exact ⟨rfl, by omega⟩
theorem rng_ok {i j : Int} (h : i.natAbs ≤ SZ) (k : j.natAbs ≤ SZ) : rngD (.int i) (.int j) = some (rangeD i j) := if_pos ⟨h, k⟩
/-- a loop over range(lo, hi) -/
theorem W_range {tg : Nat} {b : G → S → EV Fl} {Q : Fl → S → Prop} {lo hi : Int} {I : Nat → G → S → Prop} {g : G} {s : S} (h0 : I 0 g s) (hs : ∀ (i : Nat) (g : G) (s : S), lo + i < hi → I i g s → W (b (g.set tg (.dat (.int (lo + i)))) s) (stepK (I (i + 1)) Q))
    (hf : ∀ g s, I (hi - lo).toNat g s → Q (.nx g) s) : W (forL (.nm tg) b (rangeD lo hi) g s) Q := by
  refine W_forL (I := I) h0 (fun i d g s hd hI => ?_) fun g s hI => hf g s (by rw [range_len] at hI; exact hI)
  obtain ⟨rfl, hl⟩ := range_get hd
  exact ⟨_, rfl, hs i g s hl hI⟩
section
variable {tb : Tb} [Has tb 9 cb_w_cell 2 2] [Has tb 10 cb_w_mix 3 2] [Has tb 11 cb_w_draw 3 3] [Has tb 12 cb_w_pick 3 3]
theorem W_iteI {c : Prop} [Decidable c] {a b : Int} {s : S} {Q : D → S → Prop} : W (if c then some (.ok (.int a), s) else some (.ok (.int b), s)) Q ↔ Q (.int (if c then a else b)) s := by
  split <;> simp
theorem W_pickI {k n : Nat} {ns : List Int} {xs : List D} {Q : D → S → Prop} (P : Int → Prop) (hn : n < 900000) (hm : xs ≠ []) (hP : ∀ x ∈ xs, ∃ j, x = .int j ∧ P j) (h : ∀ j, P j → Q (.int j) (some (n + 1))) : W (sem tb (k + 4) 12 [.scr ns, .town, .lst xs] (some n)) Q :=
  W_pick hn hm fun x hx => by
    obtain ⟨j, rfl, pj⟩ := hP x hx
    exact h j pj
end
theorem lawT_of {tb : Tb} {fd : Fd} {i k : Nat} (h : ∀ ns : List Int, W (evSs (enOf tb k) fd.body (lawG fd.N.length i ns) (some 0)) (retK fun d _ => d = .bl true)) : LawT tb fd i k := by
  intro ns _
  obtain ⟨d, s, e, rfl⟩ := W_run.mpr (h ns)
  exact ⟨s, e⟩
theorem rd_set {g : G} {j : Nat} {d : D} (h : j < g.length) : G.rd (g.set j (.dat d)) j = some d := by
  unfold G.rd
  rw [List.getElem?_set_self h]
theorem cutL_map {α β : Type} {f : α → β} {xs : List α} {l h : Option Int} : cutL (xs.map f) l h = (cutL xs l h).map f := by
  unfold cutL
  rw [List.length_map, List.map_take, List.map_drop]
theorem cut_from {α : Type} {xs : List α} {i : Int} (h0 : 0 ≤ i) (h1 : i ≤ xs.length) : cutL xs (some i) none = xs.drop i.toNat := by
  unfold cutL clip
  dsimp only
  rw [if_neg (by omega), Nat.min_eq_left (by omega), List.take_of_length_le]
  rw [List.length_drop]
  exact Nat.le_refl _
theorem cut_to {α : Type} {xs : List α} {i : Int} (h0 : 0 ≤ i) : cutL xs none (some i) = xs.take i.toNat := by
  unfold cutL clip
  dsimp only
  rw [if_neg (by omega), List.drop_zero, Nat.sub_zero]
  by_cases h : i.toNat ≤ xs.length
  · rw [Nat.min_eq_left h]
  · rw [Nat.min_eq_right (by omega), List.take_of_length_le (Nat.le_refl _), List.take_of_length_le (by omega)]
theorem slc_lst {xs : List D} {l h : Option Int} : slcD (.lst xs) l h = some (.lst (cutL xs l h)) := rfl
theorem bigL_map {α : Type} {f : α → D} {xs : List α} {s : S} (h : xs.length ≤ SZ) : bigL (xs.map f) s = some (.ok (.lst (xs.map f)), s) := bigL_ok (by rw [List.length_map]; exact h)
@[simp] theorem nox_ok {α : Type} {a : α} {s : S} : nox (some (.ok a, s)) = some (.ok a, s) := rfl
@[simp] theorem W_nox {α : Type} {o : EV α} {Q : α → S → Prop} : W (nox o) Q ↔ W o Q := by
  cases o with
  | none => exact Iff.rfl
  | some p =>
    obtain ⟨r, s⟩ := p
    cases r with
    | ok a => exact Iff.rfl
    | exn c => simp [nox]
def cnsK (f : D → S → EV (Option D)) (ds : List D) (o : Option D) (s : S) : EV (List D) := match o with
  | none => compL f ds s
  | some e => rb (compL f ds s) fun es s2 => some (.ok (e :: es), s2)
@[simp] theorem cnsK_none {f : D → S → EV (Option D)} {ds : List D} {s : S} : cnsK f ds none s = compL f ds s := rfl
@[simp] theorem cnsK_some {f : D → S → EV (Option D)} {ds : List D} {e : D} {s : S} : cnsK f ds (some e) s = rb (compL f ds s) fun es s2 => some (.ok (e :: es), s2) := rfl
@[simp] theorem compL_nil {f : D → S → EV (Option D)} {s : S} : compL f [] s = some (.ok [], s) := rfl
theorem compL_cons {f : D → S → EV (Option D)} {d : D} {ds : List D} {s : S} : compL f (d :: ds) s = rb (nox (f d s)) (cnsK f ds) := by
  rw [compL]
  cases h : f d s with
  | none => rfl
  | some p =>
    obtain ⟨r, s1⟩ := p
    cases r with
    | ok o => cases o <;> rfl
    | exn c => rfl
@[simp] theorem big1 {a : D} {s : S} : bigL [a] s = some (.ok (.lst [a]), s) := rfl
@[simp] theorem big2 {a b : D} {s : S} : bigL [a, b] s = some (.ok (.lst [a, b]), s) := rfl
end FR
namespace FR
open PySem (Str)
section
variable {tb : Tb} [Has tb 9 cb_w_cell 2 2] [Has tb 10 cb_w_mix 3 2] [Has tb 11 cb_w_draw 3 3] [Has tb 12 cb_w_pick 3 3]
variable [Has tb 18 cb_w_legs 8 2]
theorem k01_legs {k n : Nat} {ns : List Int} {Q : D → S → Prop} (hn : n < 800000) (h : ∀ (ls : List Leg) (m : Nat), LegsOk ls → m ≤ n + 1000 → Q (legsD ls) (some m)) : W (sem tb (k + 5) 18 [.scr ns, .town] (some n)) Q := by
  rw [sem_of rfl, W_run]
  simp only [cb_w_legs, startG]
  simp
  refine W_draw (by omega) (by decide) fun kind _ _ => ?_
  refine W_pickI (fun j => 1 ≤ j ∧ j ≤ 40) (by omega) (by simp) (by simp) fun j ⟨j1, j2⟩ => ?_
  refine W_draw (by omega) (by omega) fun r r0 r1 => ?_
  simp
  rw [rng_ok (by decide) (by unfold SZ; omega)]
  simp
  refine W_range (I := fun i g s => ∃ (ls : List Leg) (m : Nat) (x5 x6 x7 : Sl), ls.length = i ∧ (∀ l ∈ ls, l.ok) ∧ s = some m ∧ m ≤ n + 10 + 10 * i ∧ g = [.dat (.scr ns), .dat .town, .dat (.int kind), .dat (.int (1 + r)), .own (ls.map Leg.d), x5, x6, x7])
    ⟨[], _, _, _, _, rfl, by simp, rfl, by omega, rfl⟩ ?_ ?_
  · rintro i g s hi ⟨ls, m, x5, x6, x7, hl, hok, rfl, hm, rfl⟩
    simp
    refine W_draw (by omega) (by decide) fun r1 a1 b1 => ?_
    simp
    refine W_pickI (fun j => -1000000 ≤ j ∧ j ≤ 1000000) (by omega) (by simp) (by simp; omega) fun e he => ?_
    refine W_draw (by omega) (by decide) fun r2 a2 b2 => ?_
    simp
    refine W_pickI (fun j => -1000000 ≤ j ∧ j ≤ 1000000) (by omega) (by simp) (by simp; omega) fun f hf => ?_
    rw [W_iteI, W_iteI]
    have he2 : -1000000 ≤ (if kind = 1 then 0 else e) ∧ (if kind = 1 then 0 else e) ≤ 1000000 := by split <;> omega
    have hf2 : -1000000 ≤ (if kind = 2 then 0 else f) ∧ (if kind = 2 then 0 else f) ≤ 1000000 := by split <;> omega
    generalize (if kind = 1 then 0 else e) = e2 at he2 ⊢
    generalize (if kind = 2 then 0 else f) = f2 at hf2 ⊢
    simp [owned]
    refine W_draw (by omega) (by decide) fun r3 a3 b3 => ?_
    simp
    refine W_pickI (fun j => 1 ≤ j ∧ j ≤ 2000000) (by omega) (by simp) (by simp; omega) fun l hlen => ?_
    have hls : ls.length < 1000000 := by omega
    simp [SZ, appO, appF, hls]
    refine ⟨ls ++ [⟨e2, f2, l⟩], by simp [hl], fun x hx => ?_, by omega, ?_⟩
    · rcases List.mem_append.mp hx with hx | hx
      · exact hok x hx
      · cases List.mem_singleton.mp hx
        exact ⟨he2.1, he2.2, hf2.1, hf2.2, hlen.1, hlen.2⟩
    · simp [Leg.d]
  · rintro g s ⟨ls, m, x5, x6, x7, hl, hok, rfl, hm, rfl⟩
    simp [exE, frz, frzS]
    exact h ls m ⟨by omega, hok⟩ (by omega)
end
theorem comp_e {en : En} {g : G} {j : Nat} {ls : List Leg} {s : S} (h : j < g.length) : compL (cmp1 en g (.nm j) (.cst (.bl true)) (.idx (.var j) (.cst (.int 0)))) (ls.map Leg.d) s = some (.ok (ls.map fun x => .int x.e), s) :=
  compL_map fun x hx => by simp [cmp1, setT, Leg.d, rd_set h]
theorem comp_n {en : En} {g : G} {j : Nat} {ls : List Leg} {s : S} (h : j < g.length) : compL (cmp1 en g (.nm j) (.cst (.bl true)) (.idx (.var j) (.cst (.int 1)))) (ls.map Leg.d) s = some (.ok (ls.map fun x => .int x.n), s) :=
  compL_map fun x hx => by simp [cmp1, setT, Leg.d, rd_set h]
theorem LegsOk.app {a b : List Leg} (h : LegsOk a) (k : LegsOk b) (l : a.length + b.length ≤ 40) : LegsOk (a ++ b) := by
  refine ⟨by rw [List.length_append]; have := h.1; omega, fun x hx => ?_⟩
  rcases List.mem_append.mp hx with hx | hx
  · exact h.2 x hx
  · exact k.2 x hx
def Leg.neg (x : Leg) : Leg := ⟨0 - x.e, 0 - x.n, x.l⟩
theorem LegsOk.neg {a : List Leg} (h : LegsOk a) : LegsOk (a.map Leg.neg) := by
  refine ⟨by rw [List.length_map]; exact h.1, fun x hx => ?_⟩
  obtain ⟨y, hy, rfl⟩ := List.mem_map.mp hx
  obtain ⟨h1, h2, h3, h4, h5, h6⟩ := h.2 y hy
  exact ⟨by unfold Leg.neg; dsimp only; omega, by unfold Leg.neg; dsimp only; omega, by unfold Leg.neg; dsimp only; omega, by unfold Leg.neg; dsimp only; omega, h5, h6⟩
end FR
/-! FrOps: the operations over fractions, their sizes. -/
namespace FR
open PySem (Str)
/-- n binary digits above, d below -/
def sz (n d : Nat) (q : Rat) : Prop := bt q.num n ∧ q.den < 2 ^ d
theorem sz.mono {n d m e : Nat} {q : Rat} (h : sz n d q) (h1 : n ≤ m) (h2 : d ≤ e) : sz m e q := ⟨h.1.mono h1, Nat.lt_of_lt_of_le h.2 (Nat.pow_le_pow_right (by decide) h2)⟩
theorem sz_mk {a : Int} {b n d : Nat} (h : bt a n) (k : b < 2 ^ d) (hd : 0 < d) : sz n d (mkRat a b) := by
  constructor
  · rw [Rat.num_mkRat]
    split
    · unfold bt
      exact Nat.pow_pos (by decide)
    · unfold bt at *
      refine Nat.lt_of_le_of_lt ?_ h
      exact Int.natAbs_ediv_le_natAbs a _
  · rw [Rat.den_mkRat]
    split
    · exact Nat.one_lt_two_pow (by omega)
    · exact Nat.lt_of_le_of_lt (Nat.div_le_self _ _) k
theorem den_bt {q : Rat} {d : Nat} (h : q.den < 2 ^ d) : bt (q.den : Int) d := by
  unfold bt
  rw [Int.natAbs_natCast]
  exact h
theorem sz_dpos {n d : Nat} {q : Rat} (h : sz n d q) : 0 < d := by
  rcases Nat.eq_zero_or_pos d with rfl | h0
  · have := h.2
    have := q.den_pos
    omega
  · exact h0
theorem sz_add {p q : Rat} {n d m e N : Nat} (h : sz n d p) (k : sz m e q) (h1 : n + e ≤ N) (h2 : m + d ≤ N) : sz (N + 1) (d + e) (p + q) := by
  rw [Rat.add_def']
  refine sz_mk (bt_add ((bt_mul h.1 (den_bt k.2)).mono h1) ((bt_mul k.1 (den_bt h.2)).mono h2)) ?_ (by have := sz_dpos h; omega)
  rw [Nat.pow_add]
  exact Nat.mul_lt_mul'' h.2 k.2
/-- fit to be reckoned with -/
def fit (q : Rat) : Prop := sz 400000 4400 q
theorem sz.fit {n d : Nat} {q : Rat} (h : sz n d q) (h1 : n ≤ 400000 := by decide) (h2 : d ≤ 4400 := by decide) : fit q := h.mono h1 h2
theorem fit_nd {p q : Rat} (h : fit p) (k : fit q) : binD .mul (.int p.num) (.int q.den) = some (.int (p.num * q.den)) := mul_bt h.1 (den_bt k.2) (by decide)
theorem fit_dd {p q : Rat} (h : fit p) (k : fit q) : binD .mul (.int p.den) (.int q.den) = some (.int (p.den * q.den)) := mul_bt (den_bt h.2) (den_bt k.2) (by decide)
theorem fit_db {p q : Rat} (h : fit p) (k : fit q) : bt ((p.den : Int) * q.den) 8999 := (bt_mul (den_bt h.2) (den_bt k.2)).mono (by decide)
theorem dd_ne {p q : Rat} : (p.den : Int) * q.den ≠ 0 := by
  have h1 := p.den_pos
  have h2 := q.den_pos
  exact Int.mul_ne_zero (by omega) (by omega)
theorem add_divInt {p q : Rat} : Rat.divInt (p.num * q.den + q.num * p.den) ((p.den : Int) * q.den) = p + q := by
  rw [Rat.add_def', ← Rat.divInt_ofNat, Int.natCast_mul]
@[simp] theorem fr_i0 {q : Rat} : idxD (frD q) (.int 0) = some (.int q.num) := rfl
@[simp] theorem fr_i1 {q : Rat} : idxD (frD q) (.int 1) = some (.int q.den) := rfl
section
variable {tb : Tb} [Has tb 1 cb_divisor 2 2] [Has tb 2 cb_least 3 2]
end
section
variable {tb : Tb} [Has tb 13 cb_w_least 5 2]
theorem wplus_eq [Has tb 14 cb_w_plus 2 2] {k : Nat} {p q : Rat} {s : S} (h : fit p) (k1 : fit q) : sem tb (k + 2) 14 [frD p, frD q] s = some (.ok (frD (p + q)), s) := by
  rw [sem_of rfl, ← add_divInt]
  simp [cb_w_plus, startG, fit_nd h k1, fit_nd k1 h, fit_dd h k1, wleast_eq (tb := tb) (s := s) dd_ne (fit_db h k1)]
end
/-- the partial sums keep fit -/
theorem sum_sz {n d : Nat} : ∀ {qs : List Rat}, (∀ q ∈ qs, sz n d q) → sz (n + (d + 1) * (qs.length + 1)) (d * qs.length + 1) qs.sum
  | [], _ => ⟨by unfold bt; exact Nat.pow_pos (by decide), by show 1 < 2 ^ (d * 0 + 1); simp⟩
  | q :: qs, h => by
    rw [List.sum_cons, Rat.add_comm, List.length_cons]
    have h1 := sum_sz (n := n) (d := d) (qs := qs) fun x hx => h x (List.mem_cons_of_mem _ hx)
    have h2 := h q List.mem_cons_self
    have h3 := sz_add (N := n + (d + 1) * (qs.length + 1) + d) h1 h2 (by omega) (by simp only [Nat.add_mul, Nat.mul_add]; omega)
    refine h3.mono ?_ ?_
    · simp only [Nat.add_mul, Nat.mul_add]; omega
    · simp only [Nat.add_mul, Nat.mul_add]; omega
def fitS (qs : List Rat) : Prop := ∀ i, fit (qs.take i).sum
theorem fitS_of {n d m : Nat} {qs : List Rat} (h : ∀ q ∈ qs, sz n d q) (hl : qs.length ≤ m) (h1 : n + (d + 1) * (m + 1) ≤ 400000) (h2 : d * m + 1 ≤ 4400) : fitS qs := fun i => by
  have hq := sum_sz (n := n) (d := d) (qs := qs.take i) fun q hq => h q (List.mem_of_mem_take hq)
  have l1 : (qs.take i).length ≤ m := by rw [List.length_take]; omega
  refine hq.fit (Nat.le_trans ?_ h1) (Nat.le_trans ?_ h2)
  · have := Nat.mul_le_mul_left (d + 1) (Nat.succ_le_succ l1)
    simp only [Nat.succ_eq_add_one] at this
    omega
  · have := Nat.mul_le_mul_left d l1
    omega
section
variable {tb : Tb} [Has tb 13 cb_w_least 5 2] [Has tb 14 cb_w_plus 2 2] [Has tb 17 cb_w_sum 3 1]
theorem wsum_eq {k : Nat} {qs : List Rat} {s : S} (h : ∀ q ∈ qs, fit q) (hs : fitS qs) : sem tb (k + 3) 17 [.lst (qs.map frD)] s = some (.ok (frD qs.sum), s) := by
  have w : W (sem tb (k + 3) 17 [.lst (qs.map frD)] s) fun d s' => d = frD qs.sum ∧ s' = s := by
    rw [sem_of rfl, W_run]
    simp only [cb_w_sum, startG]
    simp
    refine W_forL (I := fun i g s' => ∃ x, s' = s ∧ g = [.dat (.lst (qs.map frD)), .dat (frD (qs.take i).sum), x]) ⟨.un, rfl, by simp [frD]⟩ ?_ ?_
    · rintro i d g s' hd ⟨x, rfl, rfl⟩
      rw [List.getElem?_map] at hd
      obtain ⟨q, hq, rfl⟩ := Option.map_eq_some_iff.mp hd
      have hm : q ∈ qs := List.mem_of_getElem? hq
      refine ⟨_, rfl, ?_⟩
      simp [wplus_eq (hs i) (h q hm)]
      obtain ⟨hi, e⟩ := List.getElem?_eq_some_iff.mp hq
      rw [List.take_add_one, List.sum_append, hq]
      simp [Rat.add_zero]
    · rintro g s' ⟨x, rfl, rfl⟩
      simp
  obtain ⟨d, s', e, rfl, rfl⟩ := w
  exact e
end
end FR
/-! FrPts: points, rounds of points. -/
namespace FR
open PySem (Str)
abbrev Pt := Rat × Rat
def ptD (p : Pt) : D := .tup [frD p.1, frD p.2]
@[simp] theorem pt_i0 {p : Pt} : idxD (ptD p) (.int 0) = some (frD p.1) := rfl
@[simp] theorem pt_i1 {p : Pt} : idxD (ptD p) (.int 1) = some (frD p.2) := rfl
/-! ### sums round -/
/-- over neighbours -/
def ch (f : Pt → Pt → Rat) : List Pt → Rat
  | [] => 0
  | [_] => 0
  | x :: y :: r => f x y + ch f (y :: r)
/-- over neighbours, the last beside the first -/
def cyc (f : Pt → Pt → Rat) (l : List Pt) : Rat := match l.getLast? with
  | none => 0
  | some z => ch f (z :: l)
theorem ch_app {f : Pt → Pt → Rat} {y : Pt} {b : List Pt} : ∀ {a : List Pt}, ch f (a ++ y :: b) = ch f (a ++ [y]) + ch f (y :: b)
  | [] => by
    show ch f (y :: b) = ch f [y] + _
    rw [show ch f [y] = 0 from rfl, Rat.zero_add]
  | [x] => by
    show f x y + ch f (y :: b) = f x y + ch f [y] + _
    rw [show ch f [y] = 0 from rfl, Rat.add_zero]
  | x :: x2 :: a => by
    show f x x2 + ch f (x2 :: a ++ y :: b) = f x x2 + ch f (x2 :: a ++ [y]) + _
    rw [ch_app (a := x2 :: a), Rat.add_assoc]
theorem cyc_cons {f : Pt → Pt → Rat} {x : Pt} {l : List Pt} : cyc f (x :: l) = ch f (x :: l ++ [x]) := by
  unfold cyc
  rw [List.getLast?_eq_some_getLast (List.cons_ne_nil x l)]
  dsimp only
  rw [show ch f ((x :: l).getLast (List.cons_ne_nil x l) :: x :: l) = f ((x :: l).getLast (List.cons_ne_nil x l)) x + ch f (x :: l) from rfl]
  have e := List.dropLast_concat_getLast (List.cons_ne_nil x l)
  generalize (x :: l).getLast (List.cons_ne_nil x l) = z at *
  generalize (x :: l).dropLast = d at *
  rw [← e, List.append_assoc, List.singleton_append, ch_app (b := [x]), Rat.add_comm, show ch f [z, x] = f z x + ch f [x] from rfl, show ch f [x] = 0 from rfl, Rat.add_zero]
theorem cyc_rot {f : Pt → Pt → Rat} {a b : List Pt} : cyc f (a ++ b) = cyc f (b ++ a) := by
  cases a with
  | nil => rw [List.nil_append, List.append_nil]
  | cons x a =>
    cases b with
    | nil => rw [List.nil_append, List.append_nil]
    | cons y b =>
      rw [show (x :: a) ++ (y :: b) = x :: (a ++ y :: b) from rfl, show (y :: b) ++ (x :: a) = y :: (b ++ x :: a) from rfl, cyc_cons, cyc_cons]
      have e1 : x :: (a ++ y :: b) ++ [x] = (x :: a) ++ y :: (b ++ [x]) := by simp
      have e2 : y :: (b ++ x :: a) ++ [y] = (y :: b) ++ x :: (a ++ [y]) := by simp
      rw [e1, e2, ch_app (a := x :: a), ch_app (a := y :: b) (y := x), Rat.add_comm]
      rfl
theorem ch_rev {f : Pt → Pt → Rat} : ∀ {l : List Pt}, ch f l.reverse = ch (fun a b => f b a) l
  | [] => rfl
  | [x] => rfl
  | x :: y :: r => by
    rw [List.reverse_cons, List.reverse_cons, List.append_assoc, List.singleton_append, ch_app, ← List.reverse_cons, ch_rev (l := y :: r), Rat.add_comm]
    show f y x + ch f [x] + _ = f y x + _
    rw [show ch f [x] = 0 from rfl, Rat.add_zero]
theorem cyc_rev {f : Pt → Pt → Rat} {l : List Pt} : cyc f l.reverse = cyc (fun a b => f b a) l := by
  cases l with
  | nil => rfl
  | cons x l =>
    rw [List.reverse_cons, cyc_rot, List.singleton_append, cyc_cons, cyc_cons, ← ch_rev]
    congr 1
    simp
theorem ch_map {f : Pt → Pt → Rat} {g : Pt → Pt} : ∀ {l : List Pt}, ch f (l.map g) = ch (fun a b => f (g a) (g b)) l
  | [] => rfl
  | [x] => rfl
  | x :: y :: r => by
    rw [List.map_cons, List.map_cons]
    show f (g x) (g y) + ch f (g y :: r.map g) = f (g x) (g y) + _
    rw [← List.map_cons, ch_map (l := y :: r)]
theorem cyc_map {f : Pt → Pt → Rat} {g : Pt → Pt} {l : List Pt} : cyc f (l.map g) = cyc (fun a b => f (g a) (g b)) l := by
  cases l with
  | nil => rfl
  | cons x l =>
    rw [List.map_cons, cyc_cons, cyc_cons, ← ch_map (f := f) (g := g), List.map_append, List.map_cons]
    rfl
theorem ch_tel {h : Pt → Rat} : ∀ {x : Pt} {l : List Pt}, ch (fun a b => h b - h a) (x :: l) = h ((x :: l).getLast (List.cons_ne_nil x l)) - h x
  | x, [] => by
    show (0 : Rat) = h x - h x
    grind
  | x, y :: r => by
    show h y - h x + ch _ (y :: r) = _
    rw [ch_tel, List.getLast_cons (List.cons_ne_nil y r)]
    grind
theorem ch_lin {f g : Pt → Pt → Rat} {c : Rat} : ∀ {l : List Pt}, ch (fun a b => f a b + c * g a b) l = ch f l + c * ch g l
  | [] => by
    show (0 : Rat) = 0 + c * 0
    grind
  | [x] => by
    show (0 : Rat) = 0 + c * 0
    grind
  | x :: y :: r => by
    show f x y + c * g x y + ch _ (y :: r) = (f x y + ch f (y :: r)) + c * (g x y + ch g (y :: r))
    rw [ch_lin]
    grind
theorem cyc_lin {f g : Pt → Pt → Rat} {c : Rat} {l : List Pt} : cyc (fun a b => f a b + c * g a b) l = cyc f l + c * cyc g l := by
  cases l with
  | nil =>
    show (0 : Rat) = 0 + c * 0
    grind
  | cons x l => rw [cyc_cons, cyc_cons, cyc_cons, ch_lin]
theorem cyc_tel {h : Pt → Rat} {l : List Pt} : cyc (fun a b => h b - h a) l = 0 := by
  cases l with
  | nil => rfl
  | cons x l =>
    rw [cyc_cons, List.cons_append, ch_tel]
    have : (x :: (l ++ [x])).getLast (List.cons_ne_nil _ _) = x := List.getLast_concat (l := x :: l)
    rw [this]
    grind
theorem cyc_congr {f g : Pt → Pt → Rat} {l : List Pt} (h : ∀ a b, f a b = g a b) : cyc f l = cyc g l := by
  have : f = g := by
    funext a b
    exact h a b
  rw [this]
/-- the outer product -/
def xf (a b : Pt) : Rat := a.1 * b.2 - b.1 * a.2
/-- twice the area -/
def dar (l : List Pt) : Rat := cyc xf l
theorem dar_move {u v : Rat} {l : List Pt} : dar (l.map fun p => (p.1 + u, p.2 + v)) = dar l := by
  unfold dar
  rw [cyc_map, cyc_congr (g := fun a b => (fun a b : Pt => xf a b) a b + 1 * (fun a b : Pt => (fun p : Pt => u * p.2 - v * p.1) b - (fun p : Pt => u * p.2 - v * p.1) a) a b) fun a b => by unfold xf; grind, cyc_lin, cyc_tel]
  grind
/-- seen from a home -/
def crs (o a b : Pt) : Rat := (a.1 - o.1) * (b.2 - o.2) - (a.2 - o.2) * (b.1 - o.1)
theorem cyc_crs {o : Pt} {l : List Pt} : cyc (crs o) l = dar l := by
  rw [← dar_move (u := -o.1) (v := -o.2)]
  unfold dar
  rw [cyc_map]
  exact cyc_congr fun a b => by unfold crs xf; grind
/-! the sum by places: that ahead of the first is the last -/
def prv (l : List Pt) : List Pt := match l.getLast? with
  | none => []
  | some z => z :: l.dropLast
def prs (l : List Pt) : List (Pt × Pt) := (prv l).zip l
theorem ch_zip {f : Pt → Pt → Rat} : ∀ {x : Pt} {l : List Pt}, (((x :: l).dropLast.zip l).map fun p => f p.1 p.2).sum = ch f (x :: l)
  | x, [] => rfl
  | x, y :: r => by
    rw [List.dropLast_cons_of_ne_nil (List.cons_ne_nil y r), List.zip_cons_cons, List.map_cons, List.sum_cons, ch_zip]
    rfl
theorem cyc_prs {f : Pt → Pt → Rat} {l : List Pt} : ((prs l).map fun p => f p.1 p.2).sum = cyc f l := by
  cases l with
  | nil => rfl
  | cons x l =>
    unfold cyc prs prv
    rw [List.getLast?_eq_some_getLast (List.cons_ne_nil x l)]
    dsimp only
    rw [← ch_zip]
    congr 1
end FR
/-! FrArea: the walk over points and areas. -/
namespace FR
open PySem (Str)
@[simp] theorem isi_fr {q : Rat} : isiD (frD q) .tuple = some true := rfl
@[simp] theorem len_fr {q : Rat} {s : S} : bifD .len [frD q] s = some (.int 2) := rfl
@[simp] theorem items_fr {q : Rat} : itemsD (frD q) = some [.int q.num, .int q.den] := rfl
@[simp] theorem isi_pt {p : Pt} : isiD (ptD p) .tuple = some true := rfl
@[simp] theorem len_pt {p : Pt} {s : S} : bifD .len [ptD p] s = some (.int 2) := rfl
@[simp] theorem items_pt {p : Pt} : itemsD (ptD p) = some [frD p.1, frD p.2] := rfl
theorem all2 {a b : Bool} {s : S} : bifD .all [.lst [.bl a, .bl b]] s = some (.bl (a && b)) := by
  cases a <;> cases b <;> rfl
def co (n d : Nat) (p : Pt) : Prop := sz n d p.1 ∧ sz n d p.2
def PtsOk (l : List Pt) : Prop := (3 ≤ l.length ∧ l.length ≤ 40) ∧ ∀ p ∈ prs l, p.1 ≠ p.2
section
variable {tb : Tb} [Has tb 1 cb_divisor 2 2] [Has tb 2 cb_least 3 2] [Has tb 47 cb_is_fraction 2 1]
variable [Has tb 48 cb_is_point 2 1]
variable [Has tb 49 cb_look_points 3 1] [HasG tb 9 (.int 40)]
end
section
variable {tb : Tb} [Has tb 1 cb_divisor 2 2] [Has tb 2 cb_least 3 2] [Has tb 32 cb_plus 2 2] [Has tb 45 cb_minus 2 2] [Has tb 46 cb_times 2 2] [Has tb 50 cb_double_area 5 1]
variable [Has tb 47 cb_is_fraction 2 1] [Has tb 48 cb_is_point 2 1] [Has tb 49 cb_look_points 3 1] [HasG tb 9 (.int 40)] [Has tb 51 cb_area 2 1]
end
end FR
/-! FrK11: the laws' drawn points. -/
namespace FR
open PySem (Str)
/-- neighbours differ -/
def neC : List Pt → Prop
  | [] => True
  | [_] => True
  | x :: y :: r => x ≠ y ∧ neC (y :: r)
theorem neC_zip : ∀ {x : Pt} {l : List Pt}, neC (x :: l) → ∀ p ∈ (x :: l).dropLast.zip l, p.1 ≠ p.2
  | x, [], _, p, hp => by cases hp
  | x, y :: r, h, p, hp => by
    rw [List.dropLast_cons_of_ne_nil (List.cons_ne_nil y r), List.zip_cons_cons] at hp
    rcases List.mem_cons.mp hp with rfl | hp
    · exact h.1
    · exact neC_zip h.2 p hp
theorem neC_prs {l : List Pt} (h : neC l) (k : ∀ x z, l.head? = some x → l.getLast? = some z → x ≠ z) : ∀ p ∈ prs l, p.1 ≠ p.2 := by
  cases l with
  | nil =>
    intro p hp
    cases hp
  | cons x l =>
    intro p hp
    unfold prs prv at hp
    rw [List.getLast?_eq_some_getLast (List.cons_ne_nil x l)] at hp
    have hz := k x _ rfl (List.getLast?_eq_some_getLast (List.cons_ne_nil x l))
    rcases List.mem_cons.mp hp with rfl | hp
    · exact fun e => hz e.symm
    · exact neC_zip h p hp
@[simp] theorem int_bl {b : Bool} {s : S} : bifD .int [.bl b] s = some (.int (if b then 1 else 0)) := by
  cases b <;> rfl
theorem sz_di {a b : Int} {n d : Nat} (h : bt a n) (k : bt b d) (hb : 0 < b) (hd : 0 < d) : sz n d (Rat.divInt a b) := by
  obtain ⟨c, rfl⟩ := Int.eq_ofNat_of_zero_le (Int.le_of_lt hb)
  rw [Rat.divInt_ofNat]
  refine sz_mk h ?_ hd
  unfold bt at k
  rw [Int.natAbs_natCast] at k
  exact k
section
variable {tb : Tb} [Has tb 9 cb_w_cell 2 2] [Has tb 10 cb_w_mix 3 2] [Has tb 11 cb_w_draw 3 3] [Has tb 12 cb_w_pick 3 3] [Has tb 13 cb_w_least 5 2] [Has tb 52 cb_w_number 2 2]
variable [Has tb 53 cb_w_points 6 2]
end
end FR
/-! FrK11b: rounds turned, moved, mirrored. -/
namespace FR
open PySem (Str)
theorem sum_nn : ∀ {l : List Rat}, (∀ x ∈ l, 0 ≤ x) → 0 ≤ l.sum ∧ (l.sum = 0 → ∀ x ∈ l, x = 0)
  | [], _ => ⟨by decide, fun _ x hx => by cases hx⟩
  | x :: l, h => by
    have h1 := h x List.mem_cons_self
    obtain ⟨h2, h3⟩ := sum_nn (l := l) fun y hy => h y (List.mem_cons_of_mem _ hy)
    rw [List.sum_cons]
    refine ⟨by grind, fun e y hy => ?_⟩
    have hx : x = 0 := by grind
    have hl : l.sum = 0 := by grind
    rcases List.mem_cons.mp hy with rfl | hy
    · exact hx
    · exact h3 hl y hy
/-- how often neighbours are the same -/
def ind (a b : Pt) : Rat := if a = b then 1 else 0
theorem ind_iff {l : List Pt} : (∀ p ∈ prs l, p.1 ≠ p.2) ↔ cyc ind l = 0 := by
  rw [← cyc_prs]
  have nn : ∀ x ∈ (prs l).map fun p => ind p.1 p.2, (0 : Rat) ≤ x := fun x hx => by
    obtain ⟨p, _, rfl⟩ := List.mem_map.mp hx
    unfold ind
    split <;> decide
  constructor
  · intro h
    have : (prs l).map (fun p => ind p.1 p.2) = (prs l).map fun _ => (0 : Rat) := List.map_congr_left fun p hp => by
      unfold ind
      rw [if_neg (h p hp)]
    rw [this]
    generalize prs l = q
    induction q with
    | nil => rfl
    | cons x q ih =>
      rw [List.map_cons, List.sum_cons, ih, Rat.add_zero]
  · intro h p hp e
    have := (sum_nn nn).2 h _ (List.mem_map_of_mem hp)
    unfold ind at this
    rw [if_pos e] at this
    exact absurd this (by decide)
theorem PtsOk.rev {l : List Pt} (h : PtsOk l) : PtsOk l.reverse :=
  ⟨by rw [List.length_reverse]; exact h.1, by
    rw [ind_iff, cyc_rev, cyc_congr (g := ind) (fun a b => by unfold ind; simp only [eq_comm]), ← ind_iff]
    exact h.2⟩
theorem PtsOk.map {l : List Pt} {g : Pt → Pt} (h : PtsOk l) (hg : ∀ a b, g a = g b → a = b) : PtsOk (l.map g) :=
  ⟨by rw [List.length_map]; exact h.1, by
    rw [ind_iff, cyc_map, cyc_congr (g := ind) (fun a b => by
      unfold ind
      by_cases e : a = b
      · rw [if_pos e, if_pos (by rw [e])]
      · rw [if_neg e, if_neg fun e2 => e (hg a b e2)]), ← ind_iff]
    exact h.2⟩
theorem co.fit2 {n d : Nat} {p : Pt} (h : co n d p) (h1 : n ≤ 400000 := by decide) (h2 : d ≤ 4400 := by decide) : fit p.2 := h.2.fit h1 h2
theorem co.mono {n d m e : Nat} {p : Pt} (h : co n d p) (h1 : n ≤ m) (h2 : d ≤ e) : co m e p := ⟨h.1.mono h1 h2, h.2.mono h1 h2⟩
section
variable {tb : Tb} [Has tb 13 cb_w_least 5 2] [Has tb 15 cb_w_minus 2 2] [Has tb 16 cb_w_times 2 2] [Has tb 54 cb_w_cross 4 3]
end
section
variable {tb : Tb} [Has tb 9 cb_w_cell 2 2] [Has tb 10 cb_w_mix 3 2] [Has tb 11 cb_w_draw 3 3] [Has tb 12 cb_w_pick 3 3]
end
end FR
/-! FrShare: what is put to each leg; the points put right. -/
namespace FR
open PySem (Str)
theorem of_W {o : EV D} {x : D} {s : S} (h : W o fun v s' => v = x ∧ s' = s) : o = some (.ok x, s) := by
  obtain ⟨v, s', e, rfl, rfl⟩ := h
  exact e
@[simp] theorem rng02 : rngD (.int 0) (.int 2) = some [.int 0, .int 1] := rfl
@[simp] theorem max_int {i j : Int} {s : S} : bifD .max2 [.int i, .int j] s = some (.int (if j > i then j else i)) := rfl
@[simp] theorem tuple_lst {xs : List D} {s : S} : bifD .tuple [.lst xs] s = some (.tup xs) := rfl
@[simp] theorem isi_str {x : Str} : isiD (.str x) .str = some true := rfl
inductive Rl where
  | eq | long | parts
def Rl.x : Rl → Str
  | .eq => "equal"
  | .long => "long"
  | .parts => "parts"
def Rl.w : Rl → Leg → Int × Int
  | .eq, _ => (1, 1)
  | .long, l => (l.l, l.l)
  | .parts, l => (l.e.natAbs, l.n.natAbs)
theorem Rl.w_ok {r : Rl} {l : Leg} (h : l.ok) : 0 ≤ (r.w l).1 ∧ (r.w l).1 ≤ 2000000 ∧ 0 ≤ (r.w l).2 ∧ (r.w l).2 ≤ 2000000 := by
  obtain ⟨h1, h2, h3, h4, h5, h6⟩ := h
  cases r <;> simp only [Rl.w] <;> omega
def i2 (p : Int × Int) : D := .tup [.int p.1, .int p.2]
@[simp] theorem i2_0 {p : Int × Int} : idxD (i2 p) (.int 0) = some (.int p.1) := rfl
@[simp] theorem i2_1 {p : Int × Int} : idxD (i2 p) (.int 1) = some (.int p.2) := rfl
section
variable {tb : Tb} [Has tb 21 cb_weights 3 2]
theorem weights_eq {k : Nat} {r : Rl} {ls : List Leg} {s : S} (hl : ls.length ≤ 1000) : sem tb (k + 1) 21 [legsD ls, .str r.x] s = some (.ok (.lst (ls.map fun l => i2 (r.w l))), s) := by
  rw [sem_of rfl]
  have lz : ls.length ≤ SZ := by unfold SZ; omega
  have ab : ∀ x : Int, (if x < 0 then -x else x) = (x.natAbs : Int) := fun x => by split <;> omega
  have c1 : ∀ a b c, compL (cmp1 (enOf tb k) [a, b, c] (.nm 2) (.cst (.bl true)) (.tup (.cons (.cst (.int 1)) (.cons (.cst (.int 1)) (.nil))))) (ls.map Leg.d) s = some (.ok (ls.map fun l => i2 (Rl.eq.w l)), s) := fun a b c => compL_map fun x hx => by simp [cmp1, setT, Leg.d, i2, Rl.w]
  have c2 : ∀ a b c, compL (cmp1 (enOf tb k) [a, b, c] (.nm 2) (.cst (.bl true)) (.tup (.cons (.idx (.var 2) (.cst (.int 2))) (.cons (.idx (.var 2) (.cst (.int 2))) (.nil))))) (ls.map Leg.d) s = some (.ok (ls.map fun l => i2 (Rl.long.w l)), s) := fun a b c => compL_map fun x hx => by simp [cmp1, setT, Leg.d, i2, Rl.w]
  have c3 : ∀ a b c, compL (cmp1 (enOf tb k) [a, b, c] (.nm 2) (.cst (.bl true)) (.tup (.cons (.bif .abs (.cons (.idx (.var 2) (.cst (.int 0))) (.nil))) (.cons (.bif .abs (.cons (.idx (.var 2) (.cst (.int 1))) (.nil))) (.nil))))) (ls.map Leg.d) s = some (.ok (ls.map fun l => i2 (Rl.parts.w l)), s) := fun a b c => compL_map fun x hx => by simp [cmp1, setT, Leg.d, i2, Rl.w, ab]
  simp only [cb_weights, startG, legsD]
  cases r with
  | eq =>
    have e1 : cmpD .eq (.str Rl.eq.x) (.str "equal") = some true := by decide +kernel
    simp [e1, c1, bigL_map lz]
  | long =>
    have e1 : cmpD .eq (.str Rl.long.x) (.str "equal") = some false := by decide +kernel
    have e2 : cmpD .eq (.str Rl.long.x) (.str "long") = some true := by decide +kernel
    simp [e1, e2, c2, bigL_map lz]
  | parts =>
    have e1 : cmpD .eq (.str Rl.parts.x) (.str "equal") = some false := by decide +kernel
    have e2 : cmpD .eq (.str Rl.parts.x) (.str "long") = some false := by decide +kernel
    simp [e1, e2, c3, bigL_map lz]
end
def wS (r : Rl) (ls : List Leg) : Int × Int := ((ls.map fun l => (r.w l).1).sum, (ls.map fun l => (r.w l).2).sum)
/-- what a leg bears, east or north -/
def shr (e w S : Int) : Rat := Rat.divInt (0 - e * w) (if S > 1 then S else 1)
def shP (e : Int × Int) (r : Rl) (ls : List Leg) (l : Leg) : Pt := (shr e.1 (r.w l).1 (wS r ls).1, shr e.2 (r.w l).2 (wS r ls).2)
theorem wS_b {r : Rl} {ls : List Leg} (h : LegsOk ls) : 0 ≤ (wS r ls).1 ∧ (wS r ls).1 ≤ 80000000 ∧ 0 ≤ (wS r ls).2 ∧ (wS r ls).2 ≤ 80000000 := by
  have hn : ∀ (f : Leg → Int), (∀ l ∈ ls, 0 ≤ f l ∧ f l ≤ 2000000) → 0 ≤ (ls.map f).sum ∧ (ls.map f).sum ≤ 80000000 := fun f hf => by
    have h1 := sum_bt (f := f) (B := 2000000) (xs := ls) fun x hx => ⟨by have := hf x hx; omega, (hf x hx).2⟩
    have h2 : ∀ (xs : List Leg), (∀ l ∈ xs, 0 ≤ f l) → 0 ≤ (xs.map f).sum := fun xs => by
      induction xs with
      | nil => intro _; exact Int.le_refl _
      | cons x xs ih =>
        intro hx
        rw [List.map_cons, List.sum_cons]
        have := hx x List.mem_cons_self
        have := ih fun l hl => hx l (List.mem_cons_of_mem _ hl)
        omega
    have := h2 ls fun l hl => (hf l hl).1
    have := h.1
    omega
  have a := hn (fun l => (r.w l).1) fun l hl => ⟨(Rl.w_ok (h.2 l hl)).1, (Rl.w_ok (h.2 l hl)).2.1⟩
  have b := hn (fun l => (r.w l).2) fun l hl => ⟨(Rl.w_ok (h.2 l hl)).2.2.1, (Rl.w_ok (h.2 l hl)).2.2.2⟩
  exact ⟨a.1, a.2, b.1, b.2⟩
theorem shr_sz {e w S : Int} (he : bt e 27) (hw : bt w 21) (hS : S ≤ 80000000) : sz 49 28 (shr e w S) := by
  unfold shr
  refine sz_di ?_ ?_ (by split <;> omega) (by decide)
  · rw [Int.zero_sub]
    exact (bt_neg (bt_mul he hw)).mono (by decide)
  · refine bt_of ?_ ?_ <;> split <;> omega
section
variable {tb : Tb} [Has tb 1 cb_divisor 2 2] [Has tb 2 cb_least 3 2] [Has tb 21 cb_weights 3 2] [Has tb 24 cb_shares 8 3]
theorem shares_eq {k : Nat} {r : Rl} {ls : List Leg} {e : Int × Int} {s : S} (h : LegsOk ls) (he1 : bt e.1 27) (he2 : bt e.2 27) (hz1 : (wS r ls).1 = 0 → e.1 = 0) (hz2 : (wS r ls).2 = 0 → e.2 = 0) :
    sem tb (k + 3) 24 [legsD ls, .str r.x, i2 e] s = some (.ok (.lst (ls.map fun l => ptD (shP e r ls l))), s) := by
  refine of_W ?_
  rw [sem_of rfl, W_run]
  have w0 := weights_eq (tb := tb) (k := k + 1) (r := r) (ls := ls) (s := s) (by have := h.1; omega)
  have lz : ls.length ≤ SZ := by have := h.1; unfold SZ; omega
  have bS := wS_b (r := r) h
  have cA : ∀ a b c d e' f g, compL (cmp1 (enOf tb (k + 2)) [a, b, c, d, e', f, g, .dat (.int 0)] (.nm 6) (.cst (.bl true)) (.idx (.var 6) (.var 7))) (ls.map fun l => i2 (r.w l)) s = some (.ok (ls.map fun l => D.int (r.w l).1), s) := fun a b c d e' f g => compL_map fun x hx => by simp [cmp1, setT]
  have cB : ∀ a b c d e' f g, compL (cmp1 (enOf tb (k + 2)) [a, b, c, d, e', f, g, .dat (.int 1)] (.nm 6) (.cst (.bl true)) (.idx (.var 6) (.var 7))) (ls.map fun l => i2 (r.w l)) s = some (.ok (ls.map fun l => D.int (r.w l).2), s) := fun a b c d e' f g => compL_map fun x hx => by simp [cmp1, setT]
  have sA : bifD .sum [.lst (ls.map fun l => D.int (r.w l).1)] s = some (.int (wS r ls).1) := sum_map
  have sB : bifD .sum [.lst (ls.map fun l => D.int (r.w l).2)] s = some (.int (wS r ls).2) := sum_map
  have any2 : ∀ a b : Bool, bifD .any [.lst [.bl a, .bl b]] s = some (.bl (a || b)) := fun a b => by cases a <;> cases b <;> rfl
  simp only [cb_shares, startG]
  simp [w0, compL_cons, cmp1, setT, cA, cB, bigL_map lz, sA, sB, -evS_for]
  have q1 : ∀ s : S, (if (wS r ls).1 = 0 then (some (R.ok (D.bl (!e.1 == 0)), s) : EV D) else some (R.ok (D.bl ((wS r ls).1 == 0)), s)) = some (.ok (.bl false), s) := fun s => by
    by_cases z : (wS r ls).1 = 0
    · rw [if_pos z, hz1 z]
      rfl
    · rw [if_neg z, beq_eq_false_iff_ne.mpr z]
  have q2 : ∀ s : S, (if (wS r ls).2 = 0 then (some (R.ok (D.bl (!e.2 == 0)), s) : EV D) else some (R.ok (D.bl ((wS r ls).2 == 0)), s)) = some (.ok (.bl false), s) := fun s => by
    by_cases z : (wS r ls).2 = 0
    · rw [if_pos z, hz2 z]
      rfl
    · rw [if_neg z, beq_eq_false_iff_ne.mpr z]
  rw [q1, W_ok, q2, W_ok, any2]
  simp
  refine W_forL (I := fun i g s' => ∃ x, s' = s ∧ g = [.dat (legsD ls), .dat (.str r.x), .dat (i2 e), .dat (.lst (ls.map fun l => i2 (r.w l))), .own ((ls.take i).map fun l => ptD (shP e r ls l)), .dat (.lst [.int (wS r ls).1, .int (wS r ls).2]), x, .un]) ⟨.un, rfl, rfl⟩ ?_ ?_
  · rintro i d g s' hd ⟨x, rfl, rfl⟩
    rw [List.getElem?_map] at hd
    obtain ⟨l, hl, rfl⟩ := Option.map_eq_some_iff.mp hd
    have hm : l ∈ ls := List.mem_of_getElem? hl
    have hil := (List.getElem?_eq_some_iff.mp hl).1
    have hw := Rl.w_ok (r := r) (h.2 l hm)
    have m1 := mul_bt he1 (bt_of (n := 21) (i := (r.w l).1) (by omega) (by omega)) (by decide)
    have m2 := mul_bt he2 (bt_of (n := 21) (i := (r.w l).2) (by omega) (by omega)) (by decide)
    have f1 : sem tb (k + 2) 2 [.int (0 - e.1 * (r.w l).1), .int (if (wS r ls).1 > 1 then (wS r ls).1 else 1)] s' = some (.ok (frD (shP e r ls l).1), s') := least_eq (by split <;> omega) (bt.mono (n := 28) (bt_of (by split <;> omega) (by split <;> omega)) (by decide))
    have f2 : sem tb (k + 2) 2 [.int (0 - e.2 * (r.w l).2), .int (if (wS r ls).2 > 1 then (wS r ls).2 else 1)] s' = some (.ok (frD (shP e r ls l).2), s') := least_eq (by split <;> omega) (bt.mono (n := 28) (bt_of (by split <;> omega) (by split <;> omega)) (by decide))
    have hlen : min i ls.length < 1000000 := by have := h.1; omega
    refine ⟨_, rfl, ?_⟩
    simp only [Int.zero_sub, gt_iff_lt] at f1 f2
    simp [compL_cons, cmp1, setT, m1, m2, f1, f2, owned, appO, appF, hlen]
    rw [List.take_add_one]
    simp [hl, ptD]
  · rintro g s' ⟨x, rfl, rfl⟩
    simp [exE, frz, frzS]
end
section
variable {tb : Tb} [Has tb 7 cb_closing_of 2 1] [Has tb 23 cb_error_to 5 3]
/-- what is wanting -/
def erT (ls : List Leg) (a b : Int × Int) : Int × Int := (a.1 + sE ls - b.1, a.2 + sN ls - b.2)
theorem error_eq {k : Nat} {ls : List Leg} {a b : Int × Int} {s : S} (h : LegsOk ls) : sem tb (k + 2) 23 [legsD ls, i2 a, i2 b] s = some (.ok (i2 (erT ls a b)), s) := by
  rw [sem_of rfl]
  simp [cb_error_to, startG, cl_of h, setT, setAll, i2, erT]
def spB (a : Int × Int) : Prop := -1000000 ≤ a.1 ∧ a.1 ≤ 1000000 ∧ -1000000 ≤ a.2 ∧ a.2 ≤ 1000000
theorem erT_bt {ls : List Leg} {a b : Int × Int} (h : LegsOk ls) (ha : spB a) (hb : spB b) : bt (erT ls a b).1 27 ∧ bt (erT ls a b).2 27 := by
  have h1 := sum_bt (f := Leg.e) (B := 1000000) (xs := ls) fun x hx => ⟨(h.2 x hx).1, (h.2 x hx).2.1⟩
  have h2 := sum_bt (f := Leg.n) (B := 1000000) (xs := ls) fun x hx => ⟨(h.2 x hx).2.2.1, (h.2 x hx).2.2.2.1⟩
  have := h.1
  unfold spB at ha hb
  constructor
  · refine bt_of ?_ ?_ <;> simp only [erT, sE] <;> omega
  · refine bt_of ?_ ?_ <;> simp only [erT, sN] <;> omega
variable [Has tb 3 cb_is_whole 3 3] [HasG tb 2 (.int 1000000)] [Has tb 20 cb_look_spot 2 1]
theorem spot_ok {k : Nat} {a : Int × Int} {s : S} (ha : spB a) : sem tb (k + 2) 20 [i2 a] s = some (.ok .non, s) := by
  rw [sem_of rfl]
  obtain ⟨h1, h2, h3, h4⟩ := ha
  simp [cb_look_spot, startG, i2, compL_cons, cmp1, setT, gl_of, whole_eq, h1, h2, h3, h4, all2]
variable [HasG tb 16 (.tup [.str "equal", .str "long", .str "parts"])] [Has tb 22 cb_look_rule 1 1]
theorem rule_ok {k : Nat} {r : Rl} {s : S} : sem tb (k + 1) 22 [.str r.x] s = some (.ok .non, s) := by
  rw [sem_of rfl]
  have e : cmpD .nin (.str r.x) (.tup [.str "equal", .str "long", .str "parts"]) = some false := by
    cases r <;> decide +kernel
  simp [cb_look_rule, startG, gl_of, e]
variable [Has tb 4 cb_is_leg 2 1] [HasG tb 4 (.int 2000000)] [Has tb 5 cb_look_legs 2 1] [HasG tb 3 (.int 40)] [Has tb 25 cb_look_round 4 4]
theorem round_ok {k : Nat} {r : Rl} {ls : List Leg} {a b : Int × Int} {s : S} (h : LegsOk ls) (ha : spB a) (hb : spB b) : sem tb (k + 4) 25 [legsD ls, .str r.x, i2 a, i2 b] s = some (.ok .non, s) := by
  rw [sem_of rfl]
  simp [cb_look_round, startG, look_ok h, rule_ok, spot_ok ha, spot_ok hb]
variable [Has tb 1 cb_divisor 2 2] [Has tb 2 cb_least 3 2] [Has tb 21 cb_weights 3 2] [Has tb 24 cb_shares 8 3] [Has tb 26 cb_shared 4 4]
/-- the rule can share -/
def canS (r : Rl) (ls : List Leg) (e : Int × Int) : Prop := ((wS r ls).1 = 0 → e.1 = 0) ∧ ((wS r ls).2 = 0 → e.2 = 0)
theorem shared_eq {k : Nat} {r : Rl} {ls : List Leg} {a b : Int × Int} {s : S} (h : LegsOk ls) (ha : spB a) (hb : spB b) (hc : canS r ls (erT ls a b)) : sem tb (k + 5) 26 [legsD ls, .str r.x, i2 a, i2 b] s = some (.ok (.lst (ls.map fun l => ptD (shP (erT ls a b) r ls l))), s) := by
  rw [sem_of rfl]
  have hb2 := erT_bt h ha hb
  simp [cb_shared, startG, round_ok h ha hb, error_eq h, shares_eq h hb2.1 hb2.2 hc.1 hc.2]
variable [Has tb 31 cb_whole 1 1] [Has tb 32 cb_plus 2 2] [Has tb 33 cb_put_right 9 4]
def pos (a : Int × Int) (ts : List Pt) (i : Nat) : Pt := ((a.1 : Rat) + ((ts.take i).map (·.1)).sum, (a.2 : Rat) + ((ts.take i).map (·.2)).sum)
theorem leg_i {l : Leg} : idxD l.d (.int 0) = some (.int l.e) ∧ idxD l.d (.int 1) = some (.int l.n) ∧ idxD l.d (.int 2) = some (.int l.l) := ⟨rfl, rfl, rfl⟩
variable [Has tb 34 cb_nearest 1 1] [Has tb 35 cb_whole_points 6 4] [Has tb 36 cb_whole_legs 7 4]
omit [Has tb 7 cb_closing_of 2 1] [Has tb 23 cb_error_to 5 3] [Has tb 3 cb_is_whole 3 3] [HasG tb 2 (.int 1000000)] [Has tb 20 cb_look_spot 2 1] [HasG tb 16 (.tup [.str "equal", .str "long", .str "parts"])] [Has tb 22 cb_look_rule 1 1] [Has tb 4 cb_is_leg 2 1] [HasG tb 4 (.int 2000000)] [Has tb 5 cb_look_legs 2 1] [HasG tb 3 (.int 40)] [Has tb 25 cb_look_round 4 4] [Has tb 1 cb_divisor 2 2] [Has tb 2 cb_least 3 2] [Has tb 21 cb_weights 3 2] [Has tb 24 cb_shares 8 3] [Has tb 26 cb_shared 4 4] [Has tb 31 cb_whole 1 1] [Has tb 32 cb_plus 2 2] [Has tb 33 cb_put_right 9 4] [Has tb 35 cb_whole_points 6 4] [Has tb 36 cb_whole_legs 7 4] in
end
end FR
namespace FR
open PySem (Str)
section
variable {tb : Tb} [Has tb 9 cb_w_cell 2 2] [Has tb 10 cb_w_mix 3 2] [Has tb 11 cb_w_draw 3 3] [Has tb 12 cb_w_pick 3 3] [Has tb 19 cb_w_spot 3 2]
theorem W_spot {k n : Nat} {ns : List Int} {Q : D → S → Prop} (hn : n < 800000) (h : ∀ a : Int × Int, spB a → Q (i2 a) (some (n + 3))) : W (sem tb (k + 5) 19 [.scr ns, .town] (some n)) Q := by
  rw [sem_of rfl, W_run]
  simp only [cb_w_spot, startG]
  simp
  refine W_draw (by omega) (by decide) fun r r0 r1 => ?_
  simp
  refine W_pickI (fun j => -1000000 ≤ j ∧ j ≤ 1000000) (by omega) (by simp) (by simp; omega) fun e he => ?_
  refine W_pickI (fun j => -1000000 ≤ j ∧ j ≤ 1000000) (by omega) (by simp) (by simp; omega) fun f hf => ?_
  exact h (e, f) ⟨he.1, he.2, hf.1, hf.2⟩
end
/-! plain data is equal to itself -/
theorem eqvL_refl : ∀ {xs : List D}, (∀ x ∈ xs, D.eqv x x = true) → D.eqvL xs xs = true
  | [], _ => rfl
  | x :: xs, h => by
    show (D.eqv x x && D.eqvL xs xs) = true
    rw [h x List.mem_cons_self, eqvL_refl fun y hy => h y (List.mem_cons_of_mem _ hy)]
    rfl
theorem eqv_refl : ∀ {n : Nat} {d : D}, d.pl n = true → D.eqv d d = true
  | _, .non, _ => rfl
  | _, .bl b, _ => by simp [D.eqv]
  | _, .int i, _ => by simp [D.eqv]
  | _, .str x, _ => by simp [D.eqv]
  | 0, .tup xs, h => by simp [D.pl] at h
  | 0, .lst xs, h => by simp [D.pl] at h
  | n + 1, .tup xs, h => by
    show D.eqvL xs xs = true
    exact eqvL_refl fun x hx => eqv_refl (List.all_eq_true.mp h x hx)
  | n + 1, .lst xs, h => by
    show D.eqvL xs xs = true
    exact eqvL_refl fun x hx => eqv_refl (List.all_eq_true.mp h x hx)
  | 0, .dct _, h => by simp [D.pl] at h
  | n + 1, .dct _, h => by simp [D.pl] at h
  | 0, .exc _, h => by simp [D.pl] at h
  | n + 1, .exc _, h => by simp [D.pl] at h
  | 0, .fn _, h => by simp [D.pl] at h
  | n + 1, .fn _, h => by simp [D.pl] at h
  | 0, .town, h => by simp [D.pl] at h
  | n + 1, .town, h => by simp [D.pl] at h
  | 0, .scr _, h => by simp [D.pl] at h
  | n + 1, .scr _, h => by simp [D.pl] at h
  | 0, .ndc _ _, h => by simp [D.pl] at h
  | n + 1, .ndc _ _, h => by simp [D.pl] at h
theorem ne_self {d : D} (h : d.pl 8 = true) : cmpD .ne d d = some false := by
  unfold cmpD
  rw [h, eqv_refl h]
  rfl
/-! what is put to all comes to what is wanting -/
theorem cast_sum : ∀ {ws : List Int}, ((ws.sum : Int) : Rat) = (ws.map fun w => ((w : Int) : Rat)).sum
  | [] => rfl
  | w :: ws => by
    rw [List.map_cons, List.sum_cons, List.sum_cons, Rat.intCast_add, cast_sum]
theorem shr_val {e w S : Int} (h0 : 0 < S) : shr e w S = -(e : Rat) / (S : Rat) * (w : Rat) := by
  unfold shr
  have : (if S > 1 then S else 1) = S := by split <;> omega
  rw [this, Rat.divInt_eq_div, Int.zero_sub, Rat.intCast_neg, Rat.intCast_mul]
  grind
theorem sum_mulL {c : Rat} : ∀ {ws : List Rat}, (ws.map fun w => c * w).sum = c * ws.sum
  | [] => by
    show (0 : Rat) = c * 0
    grind
  | w :: ws => by
    rw [List.map_cons, List.sum_cons, List.sum_cons, sum_mulL]
    grind
theorem sum_shr {α : Type} {e S : Int} {f : α → Int} {xs : List α} (hS : (xs.map f).sum = S) (h0 : 0 ≤ S) (hz : S = 0 → e = 0) : (xs.map fun x => shr e (f x) S).sum = -(e : Rat) := by
  by_cases hp : 0 < S
  · have e1 : (xs.map fun x => shr e (f x) S) = ((xs.map f).map fun w => ((w : Int) : Rat)).map fun w => -(e : Rat) / (S : Rat) * w := by
      rw [List.map_map, List.map_map]
      exact List.map_congr_left fun x _ => shr_val hp
    rw [e1, sum_mulL, ← cast_sum, hS]
    have : (S : Rat) ≠ 0 := by
      intro h
      have := Rat.intCast_inj.mp (h.trans Rat.intCast_zero.symm)
      omega
    grind
  · have hS0 : S = 0 := by omega
    have he := hz hS0
    subst he
    have : (xs.map fun x => shr 0 (f x) S) = (xs.map fun _ => (0 : Rat)) := List.map_congr_left fun x _ => by
      unfold shr
      rw [Int.zero_mul, Int.sub_zero, Rat.zero_divInt]
    rw [this]
    have z : ∀ ys : List α, (ys.map fun _ => (0 : Rat)).sum = 0 := fun ys => by
      induction ys with
      | nil => rfl
      | cons y ys ih => rw [List.map_cons, List.sum_cons, ih, Rat.add_zero]
    rw [z]
    rfl
section
variable {tb : Tb} [Has tb 37 cb_w_near 2 1]
end
end FR
/-! FrClip: what a line leaves of a round; sums over it. -/
namespace FR
open PySem (Str)
def mixp (t : Rat) (p q : Pt) : Pt := (p.1 + t * (q.1 - p.1), p.2 + t * (q.2 - p.2))
theorem crs_mix {u v p q : Pt} {t : Rat} : crs u v (mixp t p q) = crs u v p + t * (crs u v q - crs u v p) := by
  unfold crs mixp
  grind
theorem crs_mix1 {o p q : Pt} {t : Rat} : crs o p (mixp t p q) = t * crs o p q := by
  unfold crs mixp
  grind
theorem crs_mix2 {o p q : Pt} {t : Rat} : crs o (mixp t p q) q = (1 - t) * crs o p q := by
  unfold crs mixp
  grind
theorem crs_swap {u v p : Pt} : crs v u p = - crs u v p := by
  unfold crs
  grind
theorem crs_self {u v : Pt} : crs u v u = 0 := by
  unfold crs
  grind
/-- whether a side goes over the line -/
def xg (a b : Rat) : Prop := (a < 0 ∧ 0 < b) ∨ (0 < a ∧ b < 0)
instance {a b : Rat} : Decidable (xg a b) := by unfold xg; infer_instance
/-- where -/
def xt (a b : Rat) : Rat := a / (a - b)
def clipE (f : Pt → Rat) (p q : Pt) : List Pt := (if xg (f p) (f q) then [mixp (xt (f p) (f q)) p q] else []) ++ (if 0 ≤ f q then [q] else [])
def clipG (f : Pt → Rat) : Pt → List Pt → List Pt
  | _, [] => []
  | p, q :: r => clipE f p q ++ clipG f q r
def clp (f : Pt → Rat) (l : List Pt) : List Pt := (prs l).flatMap fun e => clipE f e.1 e.2
theorem clipG_zip {f : Pt → Rat} : ∀ {x : Pt} {l : List Pt}, ((x :: l).dropLast.zip l).flatMap (fun e => clipE f e.1 e.2) = clipG f x l
  | x, [] => rfl
  | x, y :: r => by
    rw [List.dropLast_cons_of_ne_nil (List.cons_ne_nil y r), List.zip_cons_cons, List.flatMap_cons, clipG_zip]
    rfl
theorem clip_G {f : Pt → Rat} {l : List Pt} {z : Pt} (h : l.getLast? = some z) : clp f l = clipG f z l := by
  cases l with
  | nil => cases h
  | cons x l =>
    unfold clp prs prv
    rw [h]
    dsimp only
    rw [← clipG_zip]
    congr 2
def aff (f : Pt → Rat) : Prop := ∀ t p q, f (mixp t p q) = f p + t * (f q - f p)
theorem aff_x {f : Pt → Rat} (h : aff f) {p q : Pt} (x : xg (f p) (f q)) : f (mixp (xt (f p) (f q)) p q) = 0 := by
  rw [h]
  unfold xt
  have : f p - f q ≠ 0 := by
    unfold xg at x
    grind
  grind
/-- what is counted of a side -/
def psi (f : Pt → Rat) (G : Pt → Pt → Rat) (p q : Pt) : Rat :=
  if 0 ≤ f p then (if 0 ≤ f q then G p q else if 0 < f p then G p (mixp (xt (f p) (f q)) p q) else 0) else if 0 < f q then G (mixp (xt (f p) (f q)) p q) q else 0
theorem ch_cc {G : Pt → Pt → Rat} {x y : Pt} {r : List Pt} : ch G (x :: y :: r) = G x y + ch G (y :: r) := rfl
theorem clip_ch {f : Pt → Rat} (ha : aff f) {G : Pt → Pt → Rat} (hG : ∀ a b, f a = 0 → f b = 0 → G a b = 0) : ∀ {l : List Pt} {p L : Pt}, (0 ≤ f p → L = p) → (f p < 0 → f L = 0) →
    ch G (L :: clipG f p l) = ch (psi f G) (p :: l) ∧ ∀ z e, (p :: l).getLast? = some z → (L :: clipG f p l).getLast? = some e → (0 ≤ f z → e = z) ∧ (f z < 0 → f e = 0)
  | [], p, L, h1, h2 => ⟨rfl, fun z e hz he => by cases hz; cases he; exact ⟨h1, h2⟩⟩
  | q :: r, p, L, h1, h2 => by
    rw [ch_cc]
    have lst : ∀ {z : Pt}, (p :: q :: r).getLast? = some z → (q :: r).getLast? = some z := fun h => by rw [List.getLast?_cons_cons] at h; exact h
    have lc : ∀ {M : Pt} {t : List Pt}, (L :: M :: t).getLast? = (M :: t).getLast? := List.getLast?_cons_cons ..
    show ch G (L :: (clipE f p q ++ clipG f q r)) = _ ∧ ∀ z e, _ → (L :: (clipE f p q ++ clipG f q r)).getLast? = some e → _
    by_cases p0 : 0 ≤ f p
    · have := h1 p0
      subst this
      by_cases q0 : 0 ≤ f q
      · have hx : ¬ xg (f L) (f q) := by unfold xg; grind
        obtain ⟨i1, i2⟩ := clip_ch ha hG (l := r) (p := q) (L := q) (fun _ => rfl) (fun h => by grind)
        have ee : clipE f L q = [q] := by unfold clipE; rw [if_neg hx, if_pos q0]; rfl
        have ep : psi f G L q = G L q := by unfold psi; rw [if_pos p0, if_pos q0]
        rw [ee, List.singleton_append, ch_cc, i1, ep]
        refine ⟨rfl, fun z e hz he => i2 z e (lst hz) ?_⟩
        rw [lc] at he
        exact he
      · have q1 : f q < 0 := by grind
        by_cases p1 : 0 < f L
        · have hx : xg (f L) (f q) := .inr ⟨p1, q1⟩
          have hm := aff_x ha hx
          obtain ⟨i1, i2⟩ := clip_ch ha hG (l := r) (p := q) (L := mixp (xt (f L) (f q)) L q) (fun h => absurd h q0) (fun _ => hm)
          have ee : clipE f L q = [mixp (xt (f L) (f q)) L q] := by unfold clipE; rw [if_pos hx, if_neg q0]; rfl
          have ep : psi f G L q = G L (mixp (xt (f L) (f q)) L q) := by unfold psi; rw [if_pos p0, if_neg q0, if_pos p1]
          rw [ee, List.singleton_append, ch_cc, i1, ep]
          refine ⟨rfl, fun z e hz he => i2 z e (lst hz) ?_⟩
          rw [lc] at he
          exact he
        · have p2 : f L = 0 := by grind
          have hx : ¬ xg (f L) (f q) := by unfold xg; grind
          obtain ⟨i1, i2⟩ := clip_ch ha hG (l := r) (p := q) (L := L) (fun h => absurd h q0) (fun _ => p2)
          have ee : clipE f L q = [] := by unfold clipE; rw [if_neg hx, if_neg q0]; rfl
          have ep : psi f G L q = 0 := by unfold psi; rw [if_pos p0, if_neg q0, if_neg p1]
          rw [ee, List.nil_append, i1, ep, Rat.zero_add]
          exact ⟨rfl, fun z e hz he => i2 z e (lst hz) he⟩
    · have p1 : f p < 0 := by grind
      have l0 := h2 p1
      by_cases q0 : 0 < f q
      · have q1 : 0 ≤ f q := by grind
        have hx : xg (f p) (f q) := .inl ⟨p1, q0⟩
        have hm := aff_x ha hx
        obtain ⟨i1, i2⟩ := clip_ch ha hG (l := r) (p := q) (L := q) (fun _ => rfl) (fun h => by grind)
        have ee : clipE f p q = [mixp (xt (f p) (f q)) p q, q] := by unfold clipE; rw [if_pos hx, if_pos q1]; rfl
        have ep : psi f G p q = G (mixp (xt (f p) (f q)) p q) q := by unfold psi; rw [if_neg p0, if_pos q0]
        rw [ee, List.cons_append, List.singleton_append, ch_cc, ch_cc, i1, ep, hG _ _ l0 hm, Rat.zero_add]
        refine ⟨rfl, fun z e hz he => i2 z e (lst hz) ?_⟩
        rw [lc, List.getLast?_cons_cons] at he
        exact he
      · by_cases q1 : 0 ≤ f q
        · have q2 : f q = 0 := by grind
          have hx : ¬ xg (f p) (f q) := by unfold xg; grind
          obtain ⟨i1, i2⟩ := clip_ch ha hG (l := r) (p := q) (L := q) (fun _ => rfl) (fun h => by grind)
          have ee : clipE f p q = [q] := by unfold clipE; rw [if_neg hx, if_pos q1]; rfl
          have ep : psi f G p q = 0 := by unfold psi; rw [if_neg p0, if_neg q0]
          rw [ee, List.singleton_append, ch_cc, i1, ep, hG _ _ l0 q2]
          refine ⟨rfl, fun z e hz he => i2 z e (lst hz) ?_⟩
          rw [lc] at he
          exact he
        · have hx : ¬ xg (f p) (f q) := by unfold xg; grind
          obtain ⟨i1, i2⟩ := clip_ch ha hG (l := r) (p := q) (L := L) (fun h => absurd h q1) (fun _ => l0)
          have ee : clipE f p q = [] := by unfold clipE; rw [if_neg hx, if_neg q1]; rfl
          have ep : psi f G p q = 0 := by unfold psi; rw [if_neg p0, if_neg q0]
          rw [ee, List.nil_append, i1, ep, Rat.zero_add]
          exact ⟨rfl, fun z e hz he => i2 z e (lst hz) he⟩
theorem clip_cyc {f : Pt → Rat} (ha : aff f) {o : Pt} (ho : f o = 0) {G : Pt → Pt → Rat} (hG : ∀ a b, f a = 0 → f b = 0 → G a b = 0) {l : List Pt} : cyc G (clp f l) = cyc (psi f G) l := by
  cases hz : l.getLast? with
  | none =>
    rw [List.getLast?_eq_none_iff] at hz
    subst hz
    rfl
  | some z =>
    rw [clip_G hz]
    have hl : (z :: l).getLast? = some z := by
      cases l with
      | nil => cases hz
      | cons x l =>
        rw [List.getLast?_cons_cons]
        exact hz
    obtain ⟨L0, a1, a2⟩ : ∃ L0, (0 ≤ f z → L0 = z) ∧ (f z < 0 → f L0 = 0) := by
      by_cases h : 0 ≤ f z
      · exact ⟨z, fun _ => rfl, fun h2 => by grind⟩
      · exact ⟨o, fun h2 => absurd h2 h, fun _ => ho⟩
    have e0 : cyc (psi f G) l = ch (psi f G) (z :: l) := by
      unfold cyc
      rw [hz]
    rw [e0]
    obtain ⟨b1, b2⟩ := clip_ch ha hG (l := l) (p := z) (L := L0) a1 a2
    cases hc : clipG f z l with
    | nil =>
      rw [hc] at b1
      rw [← b1]
      rfl
    | cons x r =>
      rw [hc] at b2
      obtain ⟨e, he⟩ : ∃ e, (x :: r).getLast? = some e := ⟨_, List.getLast?_eq_some_getLast (List.cons_ne_nil x r)⟩
      obtain ⟨c1, c2⟩ := b2 z e hl (by rw [List.getLast?_cons_cons]; exact he)
      obtain ⟨d1, _⟩ := clip_ch ha hG (l := l) (p := z) (L := e) c1 c2
      rw [hc] at d1
      rw [← d1]
      unfold cyc
      rw [he]
/-! ### areas left of a line -/
def lam (a b : Rat) : Rat := if 0 ≤ a then (if 0 ≤ b then 1 else if 0 < a then a / (a - b) else 0) else if 0 < b then b / (b - a) else 0
theorem psi_crs {f : Pt → Rat} {o p q : Pt} : psi f (crs o) p q = lam (f p) (f q) * crs o p q := by
  unfold psi lam
  split
  · split
    · grind
    · split
      · rw [crs_mix1]
        rfl
      · grind
  · split
    · rw [crs_mix2]
      unfold xt
      have : f p - f q ≠ 0 := by grind
      have : f q - f p ≠ 0 := by grind
      grind
    · grind
theorem lam_comm {a b : Rat} : lam a b = lam b a := by
  unfold lam
  grind
theorem lam_neg {a b : Rat} (h : ¬ (a = 0 ∧ b = 0)) : lam a b + lam (-a) (-b) = 1 := by
  unfold lam
  by_cases h1 : a - b = 0
  · grind
  · have h2 : b - a ≠ 0 := by grind
    grind
theorem crs_aff {u v : Pt} : aff (crs u v) := fun t p q => crs_mix
theorem crs_col {u v a b : Pt} (h : u ≠ v) (ha : crs u v a = 0) (hb : crs u v b = 0) : crs u a b = 0 := by
  unfold crs at *
  by_cases h1 : v.1 - u.1 = 0
  · have h2 : v.2 - u.2 ≠ 0 := fun h2 => h (Prod.ext (by grind) (by grind))
    grind
  · grind
/-- twice the area left of u v -/
def lar (u v : Pt) (l : List Pt) : Rat := dar (clp (crs u v) l)
theorem lar_sum {u v : Pt} (h : u ≠ v) {l : List Pt} : lar u v l = cyc (fun p q => lam (crs u v p) (crs u v q) * crs u p q) l := by
  unfold lar
  rw [← cyc_crs (o := u), clip_cyc crs_aff crs_self fun a b ha hb => crs_col h ha hb]
  exact cyc_congr fun a b => psi_crs
theorem lar_both {u v : Pt} (h : u ≠ v) {l : List Pt} : lar u v l + lar v u l = dar l := by
  have e1 := lar_sum h (l := l)
  have e2 : lar v u l = cyc (fun p q => lam (crs v u p) (crs v u q) * crs u p q) l := by
    unfold lar
    rw [← cyc_crs (o := u), clip_cyc (o := v) crs_aff crs_self fun a b ha hb => crs_col h (by rw [crs_swap, ha]; rfl) (by rw [crs_swap, hb]; rfl)]
    exact cyc_congr fun a b => psi_crs
  rw [e1, e2, ← cyc_crs (o := u)]
  have := cyc_lin (f := fun p q => lam (crs u v p) (crs u v q) * crs u p q) (g := fun p q => lam (crs v u p) (crs v u q) * crs u p q) (c := 1) (l := l)
  rw [Rat.one_mul] at this
  rw [← this]
  refine cyc_congr fun a b => ?_
  rw [Rat.one_mul, crs_swap (u := u) (v := v) (p := a), crs_swap (u := u) (v := v) (p := b)]
  by_cases hz : crs u v a = 0 ∧ crs u v b = 0
  · rw [crs_col h hz.1 hz.2]
    grind
  · have := lam_neg hz
    grind
theorem lam_pn {x y : Rat} (h : 0 < x) (k : y ≤ 0) : lam x y = x / (x - y) := by
  unfold lam
  rw [if_pos (by grind)]
  by_cases hy : 0 ≤ y
  · have : y = 0 := by grind
    subst this
    rw [if_pos hy]
    grind
  · rw [if_neg hy, if_pos h]
theorem lam_in1 {x y t : Rat} (hx : 0 < x) (hy : y ≤ 0) (ht : 0 < t) (hm : x + t * (y - x) ≤ 0) : lam x (x + t * (y - x)) * t = lam x y := by
  rw [lam_pn hx hm, lam_pn hx hy, show x - (x + t * (y - x)) = t * (x - y) by grind]
  have h1 : x - y ≠ 0 := by grind
  have h2 : t * (x - y) ≠ 0 := by grind
  grind
theorem lam_in2 {x y t : Rat} (hx : x ≤ 0) (hy : 0 < y) (ht : 0 < 1 - t) (hm : x + t * (y - x) ≤ 0) : lam (x + t * (y - x)) y * (1 - t) = lam x y := by
  rw [lam_comm, lam_pn hy hm, lam_comm, lam_pn hy hx, show y - (x + t * (y - x)) = (1 - t) * (y - x) by grind]
  have h1 : y - x ≠ 0 := by grind
  have h2 : (1 - t) * (y - x) ≠ 0 := by grind
  grind
/-- beyond a higher line nothing is lost by a lower one -/
theorem lar_twice {u v w z : Pt} (huv : u ≠ v) (hwz : w ≠ z) (hle : ∀ p, crs u v p ≤ 0 → crs w z p ≤ 0) {l : List Pt} : lar w z (clp (crs u v) l) = lar w z l := by
  rw [lar_sum hwz, lar_sum hwz]
  have ps : ∀ {a b : Pt}, lam (crs w z a) (crs w z b) * crs w a b = psi (crs w z) (crs w) a b := psi_crs.symm
  rw [clip_cyc crs_aff crs_self (G := fun p q => lam (crs w z p) (crs w z q) * crs w p q) fun a b ha hb => ?_]
  · refine cyc_congr fun a b => ?_
    generalize hA : crs u v a = A
    generalize hB : crs u v b = B
    have nA : A ≤ 0 → crs w z a ≤ 0 := fun h => hle a (by rw [hA]; exact h)
    have nB : B ≤ 0 → crs w z b ≤ 0 := fun h => hle b (by rw [hB]; exact h)
    unfold psi
    rw [hA, hB]
    dsimp only
    have mz : A - B ≠ 0 → crs u v (mixp (xt A B) a b) ≤ 0 := fun h => by
      rw [crs_mix, hA, hB]
      unfold xt
      have : A + A / (A - B) * (B - A) = 0 := by grind
      rw [this]
      exact Rat.le_refl
    have lz : ∀ {x y : Rat}, x ≤ 0 → y ≤ 0 → (x < 0 ∨ y < 0) → lam x y = 0 := fun h1 h2 h3 => by unfold lam; grind
    have zz : ∀ {x y : Pt}, crs w z x ≤ 0 → crs w z y ≤ 0 → lam (crs w z x) (crs w z y) * crs w x y = 0 := fun {x y} h1 h2 => by
      by_cases h3 : crs w z x < 0 ∨ crs w z y < 0
      · rw [lz h1 h2 h3, Rat.zero_mul]
      · have e1 : crs w z x = 0 := by grind
        have e2 : crs w z y = 0 := by grind
        rw [crs_col hwz e1 e2, Rat.mul_zero]
    by_cases a0 : 0 ≤ A
    · rw [if_pos a0]
      by_cases b0 : 0 ≤ B
      · rw [if_pos b0]
      · rw [if_neg b0]
        have hb := nB (by grind)
        by_cases a1 : 0 < A
        · rw [if_pos a1]
          have hm : crs w z (mixp (xt A B) a b) ≤ 0 := hle _ (mz (by grind))
          by_cases c : 0 < crs w z a
          · have t0 : 0 < xt A B := by
              unfold xt
              rw [Rat.div_def]
              exact Rat.mul_pos a1 (Rat.inv_pos.mpr (by grind))
            have tl : 0 < 1 - xt A B := by
              have e : 1 - xt A B = (-B) * (A - B)⁻¹ := by
                unfold xt
                have : A - B ≠ 0 := by grind
                grind
              rw [e]
              exact Rat.mul_pos (by grind) (Rat.inv_pos.mpr (by grind))
            rw [crs_mix1, crs_mix]
            rw [crs_mix] at hm
            rw [← lam_in1 (t := xt A B) c hb t0 hm]
            grind
          · rw [zz (Rat.not_lt.mp c) hm, zz (Rat.not_lt.mp c) hb]
        · rw [if_neg a1]
          have := nA (by grind)
          rw [zz this hb]
    · rw [if_neg a0]
      have ha := nA (by grind)
      by_cases b1 : 0 < B
      · rw [if_pos b1]
        have hm : crs w z (mixp (xt A B) a b) ≤ 0 := hle _ (mz (by grind))
        by_cases c : 0 < crs w z b
        · have t1 : 0 < 1 - xt A B := by
            have e : 1 - xt A B = B * (B - A)⁻¹ := by
              unfold xt
              have : A - B ≠ 0 := by grind
              have : B - A ≠ 0 := by grind
              grind
            rw [e]
            exact Rat.mul_pos b1 (Rat.inv_pos.mpr (by grind))
          have t0 : 0 < xt A B := by
            have e : xt A B = (-A) * (B - A)⁻¹ := by
              unfold xt
              have : A - B ≠ 0 := by grind
              have : B - A ≠ 0 := by grind
              grind
            rw [e]
            exact Rat.mul_pos (by grind) (Rat.inv_pos.mpr (by grind))
          rw [crs_mix2, crs_mix]
          rw [crs_mix] at hm
          rw [← lam_in2 (t := xt A B) ha c t1 hm]
          grind
        · rw [zz hm (Rat.not_lt.mp c), zz ha (Rat.not_lt.mp c)]
      · rw [if_neg b1]
        rw [zz ha (nB (by grind))]
  · have h1 := hle a (by grind)
    have h2 := hle b (by grind)
    by_cases h3 : crs w z a < 0 ∨ crs w z b < 0
    · have : lam (crs w z a) (crs w z b) = 0 := by unfold lam; grind
      rw [this, Rat.zero_mul]
    · have e1 : crs w z a = 0 := by grind
      have e2 : crs w z b = 0 := by grind
      rw [crs_col hwz e1 e2, Rat.mul_zero]
end FR
/-! FrGr: fractions of a common denominator, bounded; what lines leave, walked. -/
namespace FR
open PySem (Str)
def dv (C : Nat) (q : Rat) : Prop := ∃ k : Int, q * (C : Rat) = (k : Rat)
def bd (B : Nat) (q : Rat) : Prop := -(B : Rat) ≤ q ∧ q ≤ (B : Rat)
def gr (C B : Nat) (q : Rat) : Prop := dv C q ∧ bd B q
theorem dv_mono {C D : Nat} {q : Rat} (h : dv C q) (k : C ∣ D) : dv D q := by
  obtain ⟨i, hi⟩ := h
  obtain ⟨m, rfl⟩ := k
  refine ⟨i * m, ?_⟩
  have e2 : ((m : Int) : Rat) = (m : Rat) := rfl
  rw [Rat.intCast_mul, ← hi, Rat.natCast_mul, e2, Rat.mul_assoc]
theorem dv_eq {C : Nat} {q : Rat} (h : dv C q) (h0 : 0 < C) : ∃ k : Int, q = Rat.divInt k C ∧ q * (C : Rat) = (k : Rat) := by
  obtain ⟨k, hk⟩ := h
  refine ⟨k, ?_, hk⟩
  have : (C : Rat) ≠ 0 := by
    intro e
    have := Rat.natCast_eq_zero_iff.mp e
    omega
  rw [Rat.divInt_eq_div, ← hk]
  have e2 : ((C : Int) : Rat) = (C : Rat) := rfl
  rw [e2]
  grind
theorem bd_mono {B D : Nat} {p : Rat} (h : bd B p) (k : B ≤ D) : bd D p := by
  unfold bd at *
  have : (B : Rat) ≤ (D : Rat) := Rat.natCast_le_natCast.mpr k
  grind
theorem gr.mono {C B E D : Nat} {q : Rat} (h : gr C B q) (k : C ∣ E) (l : B ≤ D) : gr E D q := ⟨dv_mono h.1 k, bd_mono h.2 l⟩
theorem gr.sz {C B c n : Nat} {q : Rat} (h : gr C B q) (h0 : 0 < C) (hc : C < 2 ^ c) (hn : B * C < 2 ^ n) : sz n c q := by
  obtain ⟨k, e, ek⟩ := dv_eq h.1 h0
  rw [e]
  have c0 : 0 < c := by
    rcases Nat.eq_zero_or_pos c with rfl | h
    · have : C < 1 := hc
      omega
    · exact h
  refine sz_di ?_ ?_ (by omega) c0
  · have hC : (0 : Rat) ≤ (C : Rat) := Rat.natCast_nonneg
    have b1 := Rat.mul_nonneg (a := (B : Rat) - q) (b := C) (by have := h.2.2; grind) hC
    have b2 := Rat.mul_nonneg (a := (B : Rat) + q) (b := C) (by have := h.2.1; grind) hC
    have e1 : (((B * C : Nat) : Int) : Rat) = (B : Rat) * (C : Rat) := Rat.natCast_mul ..
    have u1 : (k : Rat) ≤ (((B * C : Nat) : Int) : Rat) := by rw [e1]; grind
    have u2 : (((-((B * C : Nat) : Int)) : Int) : Rat) ≤ (k : Rat) := by rw [Rat.intCast_neg, e1]; grind
    have v1 := Rat.intCast_le_intCast.mp u1
    have v2 := Rat.intCast_le_intCast.mp u2
    unfold bt
    omega
  · unfold bt
    omega
theorem gr.fit {C B : Nat} {q : Rat} (h : gr C B q) (h0 : 0 < C) (hc : C < 2 ^ 4400) (hb : B < 2 ^ 395600) : fit q :=
  (h.sz (n := 400000) (c := 4400) h0 hc (by rw [show (400000 : Nat) = 395600 + 4400 from rfl, Nat.pow_add]; exact Nat.mul_lt_mul'' hb hc))
def grp (C B : Nat) (p : Pt) : Prop := gr C B p.1 ∧ gr C B p.2
theorem grp.mono {C B E D : Nat} {p : Pt} (h : grp C B p) (k : C ∣ E) (l : B ≤ D) : grp E D p := ⟨h.1.mono k l, h.2.mono k l⟩
/-- C small enough to reckon with -/
structure Fine (C B : Nat) : Prop where
  pos : 0 < C
  c : C < 2 ^ 2190
  b : B < 2 ^ 1000
theorem Fine.fit {C B : Nat} (f : Fine C B) {q : Rat} (h : gr C B q) : fit q := h.fit f.pos (Nat.lt_of_lt_of_le f.c (Nat.pow_le_pow_right (by decide) (by decide))) (Nat.lt_of_lt_of_le f.b (Nat.pow_le_pow_right (by decide) (by decide)))
theorem Fine.sq {C B : Nat} (f : Fine C B) : 0 < C * C ∧ C * C < 2 ^ 4400 := by
  refine ⟨Nat.mul_pos f.pos f.pos, Nat.lt_of_lt_of_le (Nat.mul_lt_mul'' f.c f.c) ?_⟩
  rw [← Nat.pow_add]
  exact Nat.pow_le_pow_right (by decide) (by decide)
theorem Fine.b2 {C B : Nat} (f : Fine C B) : B * B < 2 ^ 2000 := by
  have := Nat.mul_lt_mul'' f.b f.b
  rw [← Nat.pow_add] at this
  exact this
/-- up to a thousand squares together -/
theorem Fine.fit2 {C B m : Nat} (f : Fine C B) (hm : m ≤ 2 ^ 100) {q : Rat} (h : gr (C * C) (m * (B * B)) q) : FR.fit q := by
  refine h.fit f.sq.1 f.sq.2 (Nat.lt_of_le_of_lt (Nat.mul_le_mul hm (Nat.le_of_lt f.b2)) ?_)
  rw [← Nat.pow_add]
  exact Nat.pow_lt_pow_right (by decide) (by decide)
section
variable {tb : Tb} [Has tb 1 cb_divisor 2 2] [Has tb 2 cb_least 3 2] [Has tb 32 cb_plus 2 2] [Has tb 45 cb_minus 2 2] [Has tb 46 cb_times 2 2]
omit [Has tb 32 cb_plus 2 2] in
end
end FR
/-! FrCut: cut and cut_by walked; sizes of what is left. -/
namespace FR
open PySem (Str)
/-- small enough to be cut -/
structure FineC (C B : Nat) : Prop where
  pos : 0 < C
  c : C < 2 ^ 1000
  b : B < 2 ^ 100
theorem pw {a b : Nat} (h : a ≤ b) : 2 ^ a ≤ 2 ^ b := Nat.pow_le_pow_right (by decide) h
theorem FineC.fit {C B : Nat} (f : FineC C B) {q : Rat} (h : gr C (B + B) q) : fit q := h.fit f.pos (Nat.lt_of_lt_of_le f.c (pw (by decide))) (by
  have := f.b
  have : 2 ^ 101 ≤ 2 ^ 395600 := pw (by decide)
  omega)
theorem FineC.num {C B : Nat} (f : FineC C B) {q : Rat} (h : gr C (B + B) q) : bt q.num 1101 := (h.sz (n := 1101) (c := 1000) f.pos f.c (by
  have h1 : B + B < 2 ^ 101 := by have := f.b; omega
  have := Nat.mul_lt_mul'' h1 f.c
  rw [← Nat.pow_add] at this
  exact this)).1
theorem FineC.den {C B : Nat} (f : FineC C B) {q : Rat} (h : gr C (B + B) q) : q.den < 2 ^ 1000 := (h.sz (n := 1101) (c := 1000) f.pos f.c (by
  have h1 : B + B < 2 ^ 101 := by have := f.b; omega
  have := Nat.mul_lt_mul'' h1 f.c
  rw [← Nat.pow_add] at this
  exact this)).2
def hf (h : Rat) (up : Bool) (p : Pt) : Rat := if up then p.2 - h else h - p.2
theorem hf_crs {h : Rat} : hf h true = crs (0, h) (1, h) := by
  funext p
  unfold hf crs
  simp
  grind
theorem hf_crs2 {h : Rat} : hf h false = crs (1, h) (0, h) := by
  funext p
  unfold hf crs
  simp
  grind
@[simp] theorem setT_nm {g : G} {d : D} {i : Nat} : setT g d (.nm i) = some (g.set i (.dat d)) := rfl
section
variable {tb : Tb} [Has tb 1 cb_divisor 2 2] [Has tb 2 cb_least 3 2] [Has tb 32 cb_plus 2 2] [Has tb 45 cb_minus 2 2] [Has tb 46 cb_times 2 2] [Has tb 57 cb_sign 1 1]
end
end FR
/-! FrCutBy: cut_by walked; areas left of lines and between heights. -/
namespace FR
open PySem (Str)
theorem FineC.sq {C B : Nat} (f : FineC C B) : 0 < C * C ∧ C * C < 2 ^ 2000 := by
  refine ⟨Nat.mul_pos f.pos f.pos, ?_⟩
  have := Nat.mul_lt_mul'' f.c f.c
  rw [← Nat.pow_add] at this
  exact this
@[simp] theorem tup_lst {xs : List D} {s : S} : bifD .tuple [.lst xs] s = some (.tup xs) := rfl
section
variable {tb : Tb} [Has tb 1 cb_divisor 2 2] [Has tb 2 cb_least 3 2] [Has tb 32 cb_plus 2 2] [Has tb 45 cb_minus 2 2] [Has tb 46 cb_times 2 2] [Has tb 57 cb_sign 1 1] [Has tb 56 cb_cross 4 3] [Has tb 70 cb_over 2 2]
end
end FR
/-! FrLeft: left_area and within, walked. -/
namespace FR
open PySem (Str)
theorem hgt {h : Rat} {p : Pt} : crs (0, h) (1, h) p = p.2 - h := by
  unfold crs
  simp
  grind
theorem hgt_ne {h : Rat} : ((0, h) : Pt) ≠ (1, h) := fun e => by
  have : (0 : Rat) = 1 := congrArg Prod.fst e
  exact absurd this (by decide)
/-- between two heights -/
theorem between {l : List Pt} {lo hi : Rat} (h : lo ≤ hi) : dar (clp (hf hi false) (clp (hf lo true) l)) = lar (0, lo) (1, lo) l - lar (0, hi) (1, hi) l := by
  rw [hf_crs, hf_crs2]
  have e1 := lar_both (l := clp (crs (0, lo) (1, lo)) l) (hgt_ne (h := hi))
  have e2 := lar_twice (l := l) (hgt_ne (h := lo)) (hgt_ne (h := hi)) fun p hp => by
    rw [hgt] at hp ⊢
    grind
  have e3 : dar (clp (crs (1, hi) (0, hi)) (clp (crs (0, lo) (1, lo)) l)) = lar (1, hi) (0, hi) (clp (crs (0, lo) (1, lo)) l) := rfl
  have e4 : dar (clp (crs (0, lo) (1, lo)) l) = lar (0, lo) (1, lo) l := rfl
  rw [e3]
  grind
section
variable {tb : Tb} [Has tb 1 cb_divisor 2 2] [Has tb 2 cb_least 3 2] [Has tb 32 cb_plus 2 2] [Has tb 45 cb_minus 2 2] [Has tb 46 cb_times 2 2] [Has tb 57 cb_sign 1 1] [Has tb 47 cb_is_fraction 2 1] [Has tb 48 cb_is_point 2 1] [Has tb 49 cb_look_points 3 1] [HasG tb 9 (.int 40)] [Has tb 50 cb_double_area 5 1]
end
end FR
/-! FrNum: the laws' drawn numbers and points, bounded sharply. -/
namespace FR
open PySem (Str)
/-- a drawn number: of halves or thirds, from 0 to 12 -/
def nm (q : Rat) : Prop := dv 6 q ∧ 0 ≤ q ∧ q ≤ 12
def nmp (p : Pt) : Prop := nm p.1 ∧ nm p.2
theorem nm.gr {q : Rat} (h : nm q) : gr 6 16 q := by
  refine ⟨h.1, ?_⟩
  unfold bd
  have : ((16 : Nat) : Rat) = 16 := rfl
  have := h.2
  grind
theorem nmp.grp {p : Pt} (h : nmp p) : grp 6 16 p := ⟨h.1.gr, h.2.gr⟩
section
variable {tb : Tb} [Has tb 9 cb_w_cell 2 2] [Has tb 10 cb_w_mix 3 2] [Has tb 11 cb_w_draw 3 3] [Has tb 12 cb_w_pick 3 3] [Has tb 13 cb_w_least 5 2] [Has tb 52 cb_w_number 2 2]
variable [Has tb 53 cb_w_points 6 2]
end
end FR
/-! FrWh: wishes over while; the law's sorting of fractions. -/
namespace FR
open PySem (Str)
def whK (J : G → S → Prop) (Q : Fl → S → Prop) (f : Fl) (s : S) : Prop := match f with
  | .nx g => J g s
  | .ct g => J g s
  | .bk g => Q (.nx g) s
  | .rt d => Q (.rt d) s
@[simp] theorem whK_nx {J : G → S → Prop} {Q : Fl → S → Prop} {g : G} {s : S} : whK J Q (.nx g) s = J g s := rfl
@[simp] theorem whK_ct {J : G → S → Prop} {Q : Fl → S → Prop} {g : G} {s : S} : whK J Q (.ct g) s = J g s := rfl
@[simp] theorem whK_bk {J : G → S → Prop} {Q : Fl → S → Prop} {g : G} {s : S} : whK J Q (.bk g) s = Q (.nx g) s := rfl
@[simp] theorem whK_rt {J : G → S → Prop} {Q : Fl → S → Prop} {d : D} {s : S} : whK J Q (.rt d) s = Q (.rt d) s := rfl
section
variable {tb : Tb} [Has tb 13 cb_w_least 5 2] [Has tb 15 cb_w_minus 2 2] [Has tb 62 cb_w_sign 1 1] [Has tb 76 cb_w_sorted 4 1]
end
end FR
/-! FrHull: going around points, pure. -/
namespace FR
open PySem (Str)
/-- det of two ways -/
def dt (a b : Pt) : Rat := a.1 * b.2 - a.2 * b.1
def vec (a b : Pt) : Pt := (b.1 - a.1, b.2 - a.2)
/-- q is seen from v behind the way d, on the left -/
def Lft (d v q : Pt) : Prop := 0 < dt d (vec v q) ∨ ∃ β : Rat, 0 < β ∧ vec v q = (-β * d.1, -β * d.2)
theorem Lft.nn {d v q : Pt} (h : Lft d v q) : 0 ≤ dt d (vec v q) := by
  rcases h with h | ⟨β, _, e⟩
  · grind
  · rw [e]
    unfold dt
    grind
/-- all points lie to the left of the side a b, or on it -/
def Edge (ps : List Pt) (a b : Pt) : Prop := a ≠ b ∧ ∀ q ∈ ps, 0 ≤ crs a b q ∧ (crs a b q = 0 → ∃ t : Rat, 0 ≤ t ∧ t ≤ 1 ∧ q = mixp t a b)
/-- all points lie before the way d seen from v -/
def Seen (ps : List Pt) (d v : Pt) : Prop := ∀ q ∈ ps, q ≠ v → Lft d v q
theorem edge_seen {ps : List Pt} {a b : Pt} (h : Edge ps a b) : Seen ps (vec a b) b := by
  intro q hq hqb
  obtain ⟨h1, h2⟩ := h.2 q hq
  have e : dt (vec a b) (vec b q) = crs a b q := by
    unfold dt vec crs
    grind
  by_cases h0 : crs a b q = 0
  · obtain ⟨t, t0, t1, rfl⟩ := h2 h0
    have tn : t ≠ 1 := fun z => by
      subst z
      exact hqb (by
        unfold mixp
        exact Prod.ext (by dsimp only; grind) (by dsimp only; grind))
    refine .inr ⟨1 - t, by grind, ?_⟩
    unfold vec mixp
    exact Prod.ext (by dsimp only; grind) (by dsimp only; grind)
  · left
    rw [e]
    grind
/-- less: east, then north -/
def lexL (a b : Pt) : Prop := a.1 < b.1 ∨ a.1 = b.1 ∧ a.2 < b.2
instance {a b : Pt} : Decidable (lexL a b) := by unfold lexL; infer_instance
theorem lex_seen {ps : List Pt} {v : Pt} (h : ∀ q ∈ ps, ¬ lexL q v) : Seen ps (0, -1) v := by
  intro q hq hqv
  have hn := h q hq
  unfold lexL at hn
  rw [not_or] at hn
  by_cases h1 : v.1 < q.1
  · left
    unfold dt vec
    grind
  · have e : q.1 = v.1 := by grind
    right
    refine ⟨q.2 - v.2, ?_, ?_⟩
    · have : ¬ q.2 < v.2 := fun z => hn.2 ⟨e, z⟩
      have : q.2 ≠ v.2 := fun z => hqv (Prod.ext e z)
      grind
    · unfold vec
      exact Prod.ext (by dsimp only; grind) (by dsimp only; grind)
end FR
/-! FrHullW: the law's going around points, walked. -/
namespace FR
open PySem (Str)
section
variable {tb : Tb} [Has tb 13 cb_w_least 5 2] [Has tb 15 cb_w_minus 2 2] [Has tb 16 cb_w_times 2 2]
end
/-- what has been gone -/
structure Gone (ps l : List Pt) (v : Pt) : Prop where
  hd : l.head? = some v
  lex : ∀ q ∈ ps, ¬ lexL q v
  mem : ∀ q ∈ l, q ∈ ps
  ch : ∀ (i : Nat) (a b : Pt), l[i]? = some a → l[i + 1]? = some b → Edge ps a b ∧ b ≠ v
theorem Gone.seen {ps l : List Pt} {v z : Pt} (h : Gone ps l v) (hz : l.getLast? = some z) : ∃ d, Seen ps d z := by
  have hl : 0 < l.length := by
    cases l with
    | nil => cases hz
    | cons _ _ => exact Nat.succ_pos _
  rw [List.getLast?_eq_getElem?] at hz
  by_cases h1 : l.length = 1
  · rw [h1] at hz
    have : z = v := by
      have hd := h.hd
      rw [List.head?_eq_getElem?, hz] at hd
      exact Option.some.inj hd
    subst this
    exact ⟨_, lex_seen h.lex⟩
  · obtain ⟨a, ha⟩ : ∃ a, l[l.length - 2]? = some a := ⟨_, List.getElem?_eq_getElem (by omega)⟩
    have hb : l[l.length - 2 + 1]? = some z := by
      rw [show l.length - 2 + 1 = l.length - 1 by omega]
      exact hz
    exact ⟨_, edge_seen (h.ch _ a z ha hb).1⟩
/-- ended: back at the first, or nowhere else -/
def Ended (ps l : List Pt) (v : Pt) : Prop := (∃ z, l.getLast? = some z ∧ ((∀ q ∈ ps, q = z) ∨ Edge ps z v)) ∨ ps.length < l.length
@[simp] theorem is_non : cmpD .is_ .non .non = some true := rfl
@[simp] theorem is_pt {p : Pt} : cmpD .is_ (ptD p) .non = some false := rfl
section
variable {tb : Tb} [Has tb 13 cb_w_least 5 2] [Has tb 14 cb_w_plus 2 2] [Has tb 15 cb_w_minus 2 2] [Has tb 16 cb_w_times 2 2] [Has tb 17 cb_w_sum 3 1] [Has tb 41 cb_w_far_v1 3 2] [Has tb 54 cb_w_cross 4 3] [Has tb 62 cb_w_sign 1 1] [Has tb 63 cb_w_is_ahead 3 2]
theorem Gone.snoc {ps l : List Pt} {v z b : Pt} (h : Gone ps l v) (hz : l.getLast? = some z) (hb : b ∈ ps) (he : Edge ps z b) (hn : b ≠ v) : Gone ps (l ++ [b]) v where
  hd := by
    rw [List.head?_append, h.hd]
    rfl
  lex := h.lex
  mem := fun q hq => by
    rcases List.mem_append.mp hq with hq | hq
    · exact h.mem q hq
    · cases List.mem_singleton.mp hq
      exact hb
  ch := fun i x y e1 e2 => by
    by_cases hi : i + 1 < l.length
    · rw [List.getElem?_append_left (by omega)] at e1
      rw [List.getElem?_append_left hi] at e2
      exact h.ch i x y e1 e2
    · have hl : i + 1 < (l ++ [b]).length := (List.getElem?_eq_some_iff.mp e2).1
      rw [List.length_append, List.length_singleton] at hl
      have e : i + 1 = l.length := by omega
      rw [List.getElem?_append_right (by omega), e, Nat.sub_self] at e2
      cases e2
      rw [List.getElem?_append_left (by omega)] at e1
      rw [List.getLast?_eq_getElem?, show l.length - 1 = i by omega, e1] at hz
      cases hz
      exact ⟨he, hn⟩
end
end FR
/-! FrConv: the laws' convex rounds. -/
namespace FR
open PySem (Str)
def accO (acc : List D) : Option D → List D
  | none => acc
  | some e => acc ++ [e]
@[simp] theorem accO_some {acc : List D} {e : D} : accO acc (some e) = acc ++ [e] := rfl
@[simp] theorem accO_none {acc : List D} : accO acc none = acc := rfl
/-- a convex round: gone around some points -/
structure Conv (l : List Pt) : Prop where
  n3 : 3 ≤ l.length
  n40 : l.length ≤ 12
  nm : ∀ p ∈ l, nmp p
  go : ∃ ps v, Gone ps l v ∧ Ended ps l v ∧ (∀ p ∈ ps, nmp p)
theorem neC_get : ∀ {l : List Pt}, (∀ (i : Nat) (a b : Pt), l[i]? = some a → l[i + 1]? = some b → a ≠ b) → neC l
  | [], _ => trivial
  | [x], _ => trivial
  | x :: y :: r, h => ⟨h 0 x y rfl rfl, neC_get (l := y :: r) fun i a b e1 e2 => h (i + 1) a b e1 e2⟩
theorem Gone.ok {ps l : List Pt} {v : Pt} (h : Gone ps l v) (h3 : 3 ≤ l.length) (h4 : l.length ≤ 40) : PtsOk l := by
  refine ⟨⟨h3, h4⟩, neC_prs (neC_get fun i a b e1 e2 => (h.ch i a b e1 e2).1.1) fun x z hx hz => ?_⟩
  rw [h.hd] at hx
  cases hx
  rw [List.getLast?_eq_getElem?] at hz
  obtain ⟨a, ha⟩ : ∃ a, l[l.length - 2]? = some a := ⟨_, List.getElem?_eq_getElem (by omega)⟩
  exact Ne.symm (h.ch (l.length - 2) a z ha (by rw [show l.length - 2 + 1 = l.length - 1 by omega]; exact hz)).2
theorem Conv.ok {l : List Pt} (h : Conv l) : PtsOk l := by
  obtain ⟨ps, v, g, _⟩ := h.go
  exact g.ok h.n3 (Nat.le_trans h.n40 (by decide))
def bare : List Pt := [(0, 1), (Rat.divInt 7 2, 0), (5, 4)]
section
variable {tb : Tb} [Has tb 9 cb_w_cell 2 2] [Has tb 10 cb_w_mix 3 2] [Has tb 11 cb_w_draw 3 3] [Has tb 12 cb_w_pick 3 3] [Has tb 13 cb_w_least 5 2] [Has tb 14 cb_w_plus 2 2] [Has tb 15 cb_w_minus 2 2] [Has tb 16 cb_w_times 2 2] [Has tb 17 cb_w_sum 3 1] [Has tb 41 cb_w_far_v1 3 2] [Has tb 52 cb_w_number 2 2] [Has tb 54 cb_w_cross 4 3] [Has tb 62 cb_w_sign 1 1] [Has tb 63 cb_w_is_ahead 3 2] [Has tb 64 cb_w_hull 6 1]
end
end FR
/-! FrRef: what is caught, told by its word. -/
namespace FR
open PySem (Str)
def wordOf (c : Nat) : Str := match c with
  | 1 => "legs" | 2 => "rule" | 3 => "point" | 4 => "sights" | 5 => "known" | 6 => "loose" | 7 => "number" | _ => "text"
def refD (c : Nat) : D := .tup [.str "refused", .str (wordOf c)]
theorem sub_of {tb : Tb} [H : HasS tb] {c d : Nat} (hc : c < 9) (hd : d < 9) : tb.sub c d = some (isSub c d) := H.h ⟨c, hc⟩ ⟨d, hd⟩
theorem refusal_eq {tb : Tb} [HasS tb] [Has tb 27 cb_w_refusal 3 1] {k c : Nat} {s : S} (h1 : 1 ≤ c) (h2 : c ≤ 8) : sem tb (k + 1) 27 [.exc c] s = some (.ok (refD c), s) := by
  rw [sem_of rfl]
  have i0 : cmpD .is_ (.exc c) .non = some false := rfl
  have sb : ∀ d, d < 9 → tb.sub c d = some (isSub c d) := fun d hd => sub_of (by omega) hd
  have cases8 : c = 1 ∨ c = 2 ∨ c = 3 ∨ c = 4 ∨ c = 5 ∨ c = 6 ∨ c = 7 ∨ c = 8 := by omega
  have self : tb.sub c c = some (isSub c c) := sub_of (by omega) (by omega)
  simp only [cb_w_refusal, startG]
  have ad : ∀ xs ys : List D, xs.length + ys.length ≤ 100 → binD .add (.lst xs) (.lst ys) = some (.lst (xs ++ ys)) := fun xs ys h => add_lst (by unfold SZ; omega)
  rcases cases8 with rfl | rfl | rfl | rfl | rfl | rfl | rfl | rfl <;>
    simp [i0, sb, self, isSub, ad, mthT, mthD, D.pl, D.eqv, refD, wordOf, List.findIdx?_cons, List.countP_cons] <;> rfl
end FR
/-! FrRefL: what are no legs, no rules, no points of whole numbers. -/
namespace FR
open PySem (Str)
@[simp] theorem isi_non_t : isiD .non .tuple = some false := rfl
@[simp] theorem isi_non_l : isiD .non .list = some false := rfl
@[simp] theorem isi_non_i : isiD .non .int = some false := rfl
@[simp] theorem isi_non_s : isiD .non .str = some false := rfl
@[simp] theorem isi_str_t {x : Str} : isiD (.str x) .tuple = some false := rfl
@[simp] theorem isi_str_l {x : Str} : isiD (.str x) .list = some false := rfl
@[simp] theorem isi_str_i {x : Str} : isiD (.str x) .int = some false := rfl
@[simp] theorem isi_int_t {i : Int} : isiD (.int i) .tuple = some false := rfl
@[simp] theorem isi_int_l {i : Int} : isiD (.int i) .list = some false := rfl
@[simp] theorem isi_int_s {i : Int} : isiD (.int i) .str = some false := rfl
@[simp] theorem isi_bl_i {b : Bool} : isiD (.bl b) .int = some true := rfl
@[simp] theorem isi_bl_b {b : Bool} : isiD (.bl b) .bool = some true := rfl
@[simp] theorem isi_lst_t {xs : List D} : isiD (.lst xs) .tuple = some false := rfl
@[simp] theorem isi_tup_s {xs : List D} : isiD (.tup xs) .str = some false := rfl
section
variable (tb : Tb)
end
section
variable {tb : Tb} [Has tb 3 cb_is_whole 3 3]
variable [Has tb 4 cb_is_leg 2 1] [HasG tb 4 (.int 2000000)] [HasG tb 2 (.int 1000000)]
variable [Has tb 5 cb_look_legs 2 1] [HasG tb 3 (.int 40)]
variable [Has tb 20 cb_look_spot 2 1]
end
section
variable {tb : Tb} [Has tb 22 cb_look_rule 1 1] [HasG tb 16 (.tup [.str "equal", .str "long", .str "parts"])]
end
theorem rule_okN {tb : Tb} [Has tb 22 cb_look_rule 1 1] [HasG tb 16 (.tup [.str "equal", .str "long", .str "parts"])] {k : Nat} {r : Rl} {s : S} : sem tb (k + 1) 22 [.str r.x] s = some (.ok .non, s) := by
  rw [sem_of rfl]
  have e : cmpD .nin (.str r.x) (.tup [.str "equal", .str "long", .str "parts"]) = some false := by
    cases r <;> decide +kernel
  simp [cb_look_rule, startG, gl_of, e]
theorem spot_okN {tb : Tb} [Has tb 3 cb_is_whole 3 3] [HasG tb 2 (.int 1000000)] [Has tb 20 cb_look_spot 2 1] {k : Nat} {a : Int × Int} {s : S} (ha : spB a) : sem tb (k + 2) 20 [i2 a] s = some (.ok .non, s) := by
  rw [sem_of rfl]
  obtain ⟨h1, h2, h3, h4⟩ := ha
  simp [cb_look_spot, startG, i2, compL_cons, cmp1, setT, gl_of, whole_eq, h1, h2, h3, h4, all2]
/-! ### looked at together -/
section
variable (tb : Tb)
end
section
variable {tb : Tb} [Has tb 25 cb_look_round 4 4]
variable [Has tb 3 cb_is_whole 3 3] [Has tb 4 cb_is_leg 2 1] [HasG tb 4 (.int 2000000)] [HasG tb 2 (.int 1000000)] [Has tb 5 cb_look_legs 2 1] [HasG tb 3 (.int 40)]
variable [Has tb 22 cb_look_rule 1 1] [HasG tb 16 (.tup [.str "equal", .str "long", .str "parts"])]
variable [Has tb 20 cb_look_spot 2 1]
end
section
variable {tb : Tb} [Has tb 26 cb_shared 4 4] [Has tb 33 cb_put_right 9 4] [Has tb 35 cb_whole_points 6 4] [Has tb 36 cb_whole_legs 7 4]
end
/-! ### what can't be shared -/
section
variable {tb : Tb} [Has tb 21 cb_weights 3 2] [Has tb 24 cb_shares 8 3]
theorem shares_bad {k : Nat} {r : Rl} {ls : List Leg} {e : Int × Int} {s : S} (h : LegsOk ls) (hz : ¬ canS r ls e) : sem tb (k + 3) 24 [legsD ls, .str r.x, i2 e] s = some (.exn 2, s) := by
  rw [sem_of rfl]
  have w0 := weights_eq (tb := tb) (k := k + 1) (r := r) (ls := ls) (s := s) (by have := h.1; omega)
  have lz : ls.length ≤ SZ := by have := h.1; unfold SZ; omega
  have cA : ∀ a b c d e' f g, compL (cmp1 (enOf tb (k + 2)) [a, b, c, d, e', f, g, .dat (.int 0)] (.nm 6) (.cst (.bl true)) (.idx (.var 6) (.var 7))) (ls.map fun l => i2 (r.w l)) s = some (.ok (ls.map fun l => D.int (r.w l).1), s) := fun a b c d e' f g => compL_map fun x hx => by simp [cmp1, setT]
  have cB : ∀ a b c d e' f g, compL (cmp1 (enOf tb (k + 2)) [a, b, c, d, e', f, g, .dat (.int 1)] (.nm 6) (.cst (.bl true)) (.idx (.var 6) (.var 7))) (ls.map fun l => i2 (r.w l)) s = some (.ok (ls.map fun l => D.int (r.w l).2), s) := fun a b c d e' f g => compL_map fun x hx => by simp [cmp1, setT]
  have sA : bifD .sum [.lst (ls.map fun l => D.int (r.w l).1)] s = some (.int (wS r ls).1) := sum_map
  have sB : bifD .sum [.lst (ls.map fun l => D.int (r.w l).2)] s = some (.int (wS r ls).2) := sum_map
  have any2 : ∀ a b : Bool, bifD .any [.lst [.bl a, .bl b]] s = some (.bl (a || b)) := fun a b => by cases a <;> cases b <;> rfl
  have q1 : ∀ (w x : Int) (s : S), (if w = 0 then (some (R.ok (D.bl (!x == 0)), s) : EV D) else some (R.ok (D.bl (w == 0)), s)) = some (.ok (.bl (decide (w = 0 ∧ x ≠ 0))), s) := fun w x s => by
    by_cases z : w = 0
    · rw [if_pos z]
      by_cases y : x = 0
      · simp [z, y]
      · simp [z, y]
    · rw [if_neg z]
      simp [z]
  simp only [cb_shares, startG]
  simp [w0, compL_cons, cmp1, setT, cA, cB, bigL_map lz, sA, sB, -evS_for]
  have hb : (decide ((wS r ls).1 = 0 ∧ e.1 ≠ 0) || decide ((wS r ls).2 = 0 ∧ e.2 ≠ 0)) = true := by
    unfold canS at hz
    rw [Bool.or_eq_true, decide_eq_true_eq, decide_eq_true_eq]
    by_cases z1 : (wS r ls).1 = 0 → e.1 = 0
    · right
      have : ¬ ((wS r ls).2 = 0 → e.2 = 0) := fun z2 => hz ⟨z1, z2⟩
      rw [Classical.not_imp] at this
      exact this
    · left
      rw [Classical.not_imp] at z1
      exact z1
  rw [q1]
  generalize decide ((wS r ls).1 = 0 ∧ e.1 ≠ 0) = b1 at *
  simp [compL_cons, cmp1, setT, -evS_for]
  rw [q1]
  generalize decide ((wS r ls).2 = 0 ∧ e.2 ≠ 0) = b2 at *
  simp [any2, hb, -Bool.or_eq_true]
end
section
variable {tb : Tb} [Has tb 7 cb_closing_of 2 1] [Has tb 23 cb_error_to 5 3] [Has tb 3 cb_is_whole 3 3] [HasG tb 2 (.int 1000000)] [Has tb 20 cb_look_spot 2 1] [HasG tb 16 (.tup [.str "equal", .str "long", .str "parts"])] [Has tb 22 cb_look_rule 1 1] [Has tb 4 cb_is_leg 2 1] [HasG tb 4 (.int 2000000)] [Has tb 5 cb_look_legs 2 1] [HasG tb 3 (.int 40)] [Has tb 25 cb_look_round 4 4] [Has tb 21 cb_weights 3 2] [Has tb 24 cb_shares 8 3]
theorem round_okN {k : Nat} {r : Rl} {ls : List Leg} {a b : Int × Int} {s : S} (h : LegsOk ls) (ha : spB a) (hb : spB b) : sem tb (k + 4) 25 [legsD ls, .str r.x, i2 a, i2 b] s = some (.ok .non, s) := by
  rw [sem_of rfl]
  simp [cb_look_round, startG, look_ok h, rule_okN, spot_okN ha, spot_okN hb]
theorem error_eqN {k : Nat} {ls : List Leg} {a b : Int × Int} {s : S} (h : LegsOk ls) : sem tb (k + 2) 23 [legsD ls, i2 a, i2 b] s = some (.ok (i2 (erT ls a b)), s) := error_eq h
variable [Has tb 31 cb_whole 1 1] [Has tb 26 cb_shared 4 4] [Has tb 33 cb_put_right 9 4] [Has tb 35 cb_whole_points 6 4] [Has tb 36 cb_whole_legs 7 4]
end
end FR
/-! FrEv2: the evaluator's equations for dicts, sets, stores. -/
namespace FR
open PySem (Str)
section
variable {en : En} {g : G} {s : S}
def ownJ (sl : Option Sl) (k : List (Ky × D) → EV D) : EV D := match ownDc sl with
  | some ds => k ds
  | none => none
@[simp] theorem ownJ_dct {ds : List (Ky × D)} {k : List (Ky × D) → EV D} : ownJ (some (.dat (.dct ds))) k = k ds := by rfl
@[simp] theorem ownJ_own {ds : List (Ky × D)} {k : List (Ky × D) → EV D} : ownJ (some (.ownD ds)) k = k ds := by rfl
@[simp] theorem evE_odix {i : Nat} {e : CE} : evE en (.odix i e) g s = ownJ g[i]? fun kvs => rb (evE en e g s) fun y s => rp ((keyD y).bind (getK kvs)) s := by rfl
@[simp] theorem evE_ssort {a : CE} : evE en (.ssort a) g s = rb (evE en a g s) fun x s => rp (setSortD x) s := by rfl
@[simp] theorem evE_slen {a : CE} : evE en (.slen a) g s = rb (evE en a g s) fun x s => rp (setLenD x) s := by rfl
@[simp] theorem evE_ksort {a : CE} : evE en (.ksort a) g s = rb (evE en a g s) fun x s => rp (keySortD x) s := by rfl
@[simp] theorem evE_klist {a : CE} : evE en (.klist a) g s = rb (evE en a g s) fun x s => rp ((keysL x).map D.lst) s := by rfl
@[simp] theorem evE_compK {tg : Tgt} {it ifs elt : CE} : evE en (.compK tg it ifs elt) g s = rb (evE en it g s) fun x s => rb (rp (keysD x) s) fun ds s => rb (compL (cmp1 en g tg ifs elt) ds s) bigL := by rfl
@[simp] theorem evE_oin {n : Bool} {i : Nat} {e : CE} : evE en (.oin n i e) g s = ownJ g[i]? fun kvs => rb (evE en e g s) fun y s => rp ((keyD y).map fun k => .bl (if n then !(getK kvs k).isSome else (getK kvs k).isSome)) s := by rfl
@[simp] theorem evE_bck {a : CE} : evE en (.bck a) g s = rb (evE en a g s) fun x s => rp (bckD x) s := by rfl
@[simp] theorem evE_lsr {c y z : Str} {es : CEs} {a : CE} : evE en (.lsr c es a y z) g s = rb (rb (rb (evEs en es g s) fun ds s => rb (rb (evE en a g s) fun x s => rp (rplD y z x) s) fun d s => some (.ok (ds ++ [d]), s)) fun ds s => some (.ok (.str c :: ds), s)) fun ds s => if ds.length ≤ SZ then some (.ok (.lst ds), s) else none := by rfl
@[simp] theorem evE_two {a : CE} : evE en (.two a) g s = rb (evE en a g s) fun x s => rp (twoD x) s := by rfl
@[simp] theorem evE_rngl {lo hi : CE} : evE en (.rngl lo hi) g s = rb (evE en lo g s) fun x s => rb (evE en hi g s) fun y s => rp ((rngD x y).map D.lst) s := by rfl
@[simp] theorem evE_dctd {k : Cst} {a : CE} : evE en (.dctd k a) g s = rb (evE en a g s) fun x s => rp ((cstK k).map fun k => .dct [(k, x)]) s := by rfl
@[simp] theorem evE_callO {f h : Nat} {es : CEs} : evE en (.callO f h es) g s = rb (evEs en es g s) fun ds s => rb (en.ΦF h ds s) fun d s => en.ΦO f [d] s := by rfl
@[simp] theorem evE_bad : evE en .bad g s = none := by rfl
@[simp] theorem evS_bad : evS en .bad g s = none := by rfl
@[simp] theorem evE_ilist {a : CE} : evE en (.ilist a) g s = rb (evE en a g s) fun x s => rp (itemL x) s := by rfl
@[simp] theorem evE_dget {a k d : CE} : evE en (.dget a k d) g s = rb (evE en a g s) fun x s => if isDctD x then rb (evE en k g s) fun y s => rb (evE en d g s) fun z s => rp (dgetD x y z) s else none := by rfl
@[simp] theorem evE_fnv {f : Nat} : evE en (.fnv f) g s = some (.ok (.fn f), s) := by rfl
def fnK (d : Option D) (k : Nat → EV D) : EV D := match d with
  | some (.fn f) => k f
  | _ => none
@[simp] theorem fnK_fn {f : Nat} {k : Nat → EV D} : fnK (some (.fn f)) k = k f := by rfl
@[simp] theorem evE_callV {i : Nat} {es : CEs} : evE en (.callV i es) g s = fnK (g.rd i) fun f => rb (nox (evEs en es g s)) fun ds s => en.Φ f ds s := by
  show (match g.rd i with | some (.fn f) => rb (nox (evEs en es g s)) fun ds s => en.Φ f ds s | _ => none) = _
  unfold fnK
  cases g.rd i with
  | none => rfl
  | some d => cases d <;> rfl
/-- behind the value and the place of a store -/
def stK (g : G) (L : List Nat) (i : Nat) (d j : D) (s : S) : EV Fl := match (if d.lf && j.lf then g else frz g L)[i]?, j with
      | some (.own ds), .int k => rb (rp (setL ds k d) s) fun ds s => some (.ok (.nx ((if d.lf && j.lf then g else frz g L).set i (.own ds))), s)
      | some (.ownD ks), .non => if ks.length < SZ then some (.ok (.nx ((if d.lf && j.lf then g else frz g L).set i (.dat (.ndc ks d)))), s) else none
      | some (.ownD ks), _ => rb (rp (keyD j) s) fun k s => if ks.length < SZ then some (.ok (.nx ((if d.lf && j.lf then g else frz g L).set i (.ownD (putK ks k d)))), s) else none
      | _, _ => none
@[simp] theorem evS_sti {L : List Nat} {i : Nat} {e v : CE} : evS en (.sti L i e v) g s = if ownB g[i]? then rb (evE en v (frz g L) s) fun d s => rb (evE en e (frz g L) s) fun j s => stK g L i d j s else none := by rfl
@[simp] theorem ownB_own {ds : List D} : ownB (some (.own ds)) = true := by rfl
@[simp] theorem ownB_ownD {ds : List (Ky × D)} : ownB (some (.ownD ds)) = true := by rfl
def lkG (g : G) (i : Nat) : G := match g[i]? with | some (.ownD ks) => g.set i (.dat (.dct ks)) | _ => g
@[simp] theorem evS_lkd {i : Nat} : evS en (.lkd i) g s = some (.ok (.nx (lkG g i)), s) := by rfl
def kkG (g : G) (i : Nat) : G := match g[i]? with | some (.ownD ks) => g.set i (.lkD ks) | _ => g
@[simp] theorem evS_lkk {i : Nat} : evS en (.lkk i) g s = some (.ok (.nx (kkG g i)), s) := by rfl
def ukG (g : G) (i : Nat) : G := match g[i]? with | some (.lkD ks) => if D.hkK (ks.map (·.1)) ks then g else (clrG (ks.map (·.1)) g).set i (.ownD ks) | _ => g
@[simp] theorem evS_ulk {i : Nat} : evS en (.ulk i) g s = some (.ok (.nx (ukG g i)), s) := by rfl
@[simp] theorem rd_lkD {ks : List (Ky × D)} {g : List Sl} : G.rd (.lkD ks :: g) 0 = some (.dct ks) := rfl
@[simp] theorem evS_forK {L : List Nat} {tg : Tgt} {it : CE} {b : CSs} : evS en (.forK L tg it b) g s = rb (evE en it (frz g L) s) fun x s => rb (rp (keysD x) s) fun ds s => forL tg (evSs en b) ds (frz g L) s := by rfl
end
@[simp] theorem keysD_ndc {kvs : List (Ky × D)} {d : D} : keysD (.ndc kvs d) = some ((kvs.map fun kv => Ky.d kv.1) ++ [.non]) := by rfl
@[simp] theorem keysD_dct {kvs : List (Ky × D)} : keysD (.dct kvs) = some (kvs.map fun kv => Ky.d kv.1) := by rfl
@[simp] theorem keyD_str {x : Str} : keyD (.str x) = some (.inr x) := by rfl
@[simp] theorem keyD_int {x : Int} : keyD (.int x) = some (.inl x) := by rfl
@[simp] theorem len_dct {xs : List (Ky × D)} {s : S} : bifD .len [.dct xs] s = some (.int xs.length) := by rfl
@[simp] theorem len_str {x : Str} {s : S} : bifD .len [.str x] s = if x.length ≤ 100000 then some (.int x.length) else none := by rfl
/-! lists of our own lists -/
def aplJ (o : Option (List (List D) × Nat)) (k : List (List D) → Nat → EV Fl) : EV Fl := match o with
  | some (dss, n) => k dss n
  | none => none
@[simp] theorem aplJ_some {dss : List (List D)} {n : Nat} {k : List (List D) → Nat → EV Fl} : aplJ (some (dss, n)) k = k dss n := rfl
section
variable {en : En} {g : G} {s : S}
@[simp] theorem evS_ndl {i : Nat} {tg : Tgt} {it : CE} : evS en (.ndl i tg it) g s = rb (evE en it g s) fun d s => rb (rp (ndlG g i d tg) s) fun g s => some (.ok (.nx g), s) := by rw [evS]
@[simp] theorem evS_apl {i j : Nat} {e : CE} : evS en (.apl i j e) g s = aplJ (aplB g i j) fun dss k => rb (evE en e (g.set i .un) s) fun d s => rb (rp (aplF dss k d) s) fun dss s => some (.ok (.nx (g.set i (.ownN dss))), s) := by
  rw [evS]
  cases aplB g i j <;> rfl
@[simp] theorem evS_shn {i : Nat} : evS en (.shn i) g s = some (.ok (.nx (shnG g i)), s) := by rw [evS]
end
end FR
namespace FR
open PySem (Str)
def wc (r : Rl) (c : Bool) (l : Leg) : Int := if c then (r.w l).2 else (r.w l).1
def ec (e : Int × Int) (c : Bool) : Int := if c then e.2 else e.1
def bi (c : Bool) : Int := if c then 1 else 0
def Sc (r : Rl) (ls : List Leg) (c : Bool) : Int := ec (wS r ls) c
def apD (r : Rl) (ls : List Leg) (e : Int × Int) (c : Bool) (l : Leg) : D := frD (shr (ec e c) (wc r c l) (Sc r ls c))
theorem loads_eq {k : Nat} {r : Rl} {ls : List Leg} {c : Bool} {s : S} (hl : ls.length ≤ 1000) : sem tb_k02 (k + 1) 29 [legsD ls, .str r.x, .int (bi c)] s = some (.ok (.lst (ls.map fun l => .int (wc r c l))), s) := by
  rw [sem_of rfl]
  have lz : ls.length ≤ SZ := by unfold SZ; omega
  have ab : ∀ x : Int, (if x < 0 then -x else x) = (x.natAbs : Int) := fun x => by split <;> omega
  have c1 : ∀ a b c', compL (cmp1 (enOf tb_k02 k) [a, b, c', .un] (.nm 3) (.cst (.bl true)) (.cst (.int 1))) (ls.map Leg.d) s = some (.ok (ls.map fun l => .int (wc .eq c l)), s) := fun a b c' => compL_map fun x hx => by cases c <;> simp [cmp1, setT, wc, Rl.w]
  have ib : ∀ l : Leg, idxD l.d (.int (bi c)) = some (.int (if c then l.n else l.e)) := fun l => by cases c <;> rfl
  simp only [cb_w_loads, startG, legsD]
  cases r with
  | eq =>
    have e1 : cmpD .eq (.str Rl.eq.x) (.str "equal") = some true := by decide +kernel
    simp [e1, c1, bigL_map lz]
  | long =>
    have e1 : cmpD .eq (.str Rl.long.x) (.str "equal") = some false := by decide +kernel
    have e2 : cmpD .eq (.str Rl.long.x) (.str "long") = some true := by decide +kernel
    have c2 : ∀ a c', compL (cmp1 (enOf tb_k02 k) [a, .dat (.str Rl.long.x), c', .un] (.nm 3) (.cst (.bl true)) (.ite (.cmp .eq (.var 1) (.cst (.str "long"))) (.idx (.var 3) (.cst (.int 2))) (.bif .abs (.cons (.idx (.var 3) (.var 2)) (.nil))))) (ls.map Leg.d) s = some (.ok (ls.map fun l => .int (wc .long c l)), s) := fun a c' => compL_map fun x hx => by cases c <;> simp [cmp1, setT, wc, Rl.w, e2, Leg.d]
    simp [e1, c2, bigL_map lz]
  | parts =>
    have e1 : cmpD .eq (.str Rl.parts.x) (.str "equal") = some false := by decide +kernel
    have e2 : cmpD .eq (.str Rl.parts.x) (.str "long") = some false := by decide +kernel
    have c3 : ∀ a, compL (cmp1 (enOf tb_k02 k) [a, .dat (.str Rl.parts.x), .dat (.int (bi c)), .un] (.nm 3) (.cst (.bl true)) (.ite (.cmp .eq (.var 1) (.cst (.str "long"))) (.idx (.var 3) (.cst (.int 2))) (.bif .abs (.cons (.idx (.var 3) (.var 2)) (.nil))))) (ls.map Leg.d) s = some (.ok (ls.map fun l => .int (wc .parts c l)), s) := fun a => compL_map fun x hx => by cases c <;> simp [cmp1, setT, wc, Rl.w, e2, ib, ab]
    simp [e1, c3, bigL_map lz]
theorem aplB_of {g : G} {i j n : Nat} {dss : List (List D)} (h1 : g[i]? = some (.ownN dss)) (h2 : g.rd j = some (.int (n : Int))) (h3 : n < dss.length) (h4 : noN (g.set i .un) = true) : aplB g i j = some (dss, n) := by
  unfold aplB
  rw [h1, h2]
  dsimp only
  rw [if_pos ⟨by omega, by simpa using h3, h4⟩, Int.toNat_natCast]
def midL (ls : List Leg) (f h : Leg → List D) (i : Nat) : List (List D) := (ls.take i).map f ++ (ls.drop i).map h
theorem midL_n {ls : List Leg} {f h : Leg → List D} : midL ls f h ls.length = ls.map f := by simp [midL]
theorem midL_len {ls : List Leg} {f h : Leg → List D} {i : Nat} : (midL ls f h i).length = ls.length := by
  simp [midL]
  omega
theorem midL_set {ls : List Leg} {f h : Leg → List D} {i : Nat} {l : Leg} (e : ls[i]? = some l) : (midL ls f h i)[i]? = some (h l) ∧ (midL ls f h i).set i (f l) = midL ls f h (i + 1) := by
  obtain ⟨hi, e2⟩ := List.getElem?_eq_some_iff.mp e
  have hd : ls.drop i = l :: ls.drop (i + 1) := by rw [List.drop_eq_getElem_cons hi, e2]
  have ht : ls.take (i + 1) = ls.take i ++ [l] := by rw [List.take_add_one, e]; rfl
  have hlen : ((ls.take i).map f).length = i := by simp; omega
  unfold midL
  rw [hd, ht]
  constructor
  · rw [List.getElem?_append_right (by omega), hlen, Nat.sub_self]
    rfl
  · rw [List.set_append_right _ _ (by omega), hlen, Nat.sub_self]
    simp
def du_b : CSs := .cons (.asg [] 6 (.bin .sub (.bin .sub (.idx (.var 3) (.var 5)) (.idx (.var 2) (.var 5))) (.bif .sum (.cons (.comp (.nm 9) (.var 0) (.cst (.bl true)) (.idx (.var 9) (.var 5))) (.nil))))) (.cons (.asg [] 7 (.call 29 (.cons (.var 0) (.cons (.var 1) (.cons (.var 5) (.nil)))))) (.cons (.ifs [] (.and (.cmp .eq (.bif .sum (.cons (.var 7) (.nil))) (.cst (.int 0))) (.cmp .ne (.var 6) (.cst (.int 0)))) (.cons (.ret [] (.tup (.cons (.cst (.str "refused")) (.cons (.cst (.str "rule")) (.nil))))) (.nil)) (.nil)) (.cons (.forR [] (.nm 8) (.cst (.int 0)) (.bif .len (.cons (.var 0) (.nil))) (.cons (.apl 4 8 (.call 13 (.cons (.bin .mul (.var 6) (.idx (.var 7) (.var 8))) (.cons (.bif .max2 (.cons (.cst (.int 1)) (.cons (.bif .sum (.cons (.var 7) (.nil))) (.nil)))) (.nil))))) (.nil))) (.nil))))
def duG (ls : List Leg) (r : Rl) (a b : Int × Int) (dss : List (List D)) (x5 x6 x7 x8 : Sl) : G := [.dat (legsD ls), .dat (.str r.x), .dat (i2 a), .dat (i2 b), .ownN dss, x5, x6, x7, x8, .un, .un]
theorem due_turn {k : Nat} {r : Rl} {ls : List Leg} {a b : Int × Int} {s : S} (hls : LegsOk ls) (ha : spB a) (hb : spB b) (c : Bool) (h : Leg → List D) (hh : ∀ l, (h l).length ≤ 2) {x6 x7 x8 : Sl} (n6 : x6.isN = false) (n7 : x7.isN = false) (n8 : x8.isN = false) :
    W (evSs (enOf tb_k02 (k + 5)) du_b (duG ls r a b (ls.map h) (.dat (.int (bi c))) x6 x7 x8) s) fun f s' => s' = s ∧ ((Sc r ls c = 0 ∧ ec (erT ls a b) c ≠ 0) ∧ f = .rt (refD 2) ∨ ¬ (Sc r ls c = 0 ∧ ec (erT ls a b) c ≠ 0) ∧ ∃ y6 y7 y8, y6.isN = false ∧ y7.isN = false ∧ y8.isN = false ∧
      f = .nx (duG ls r a b (ls.map fun l => h l ++ [apD r ls (erT ls a b) c l]) (.dat (.int (bi c))) y6 y7 y8)) := by
  have hb2 := erT_bt hls ha hb
  have hbe : bt (ec (erT ls a b) c) 27 := by cases c; exact hb2.1; exact hb2.2
  have bS := wS_b (r := r) hls
  have hS : 0 ≤ Sc r ls c ∧ Sc r ls c ≤ 80000000 := by cases c; exact ⟨bS.1, bS.2.1⟩; exact ⟨bS.2.2.1, bS.2.2.2⟩
  have lz : ls.length ≤ SZ := by have := hls.1; unfold SZ; omega
  have ll : ∀ s, bifD .len [legsD ls] s = some (.int ls.length) := fun s => by
    unfold legsD
    rw [len_lst, List.length_map]
  have lo : ∀ s, _ := fun s => loads_eq (k := k + 4) (r := r) (ls := ls) (c := c) (s := s) (by have := hls.1; omega)
  have cl : ∀ a0 a1 a2 a3 a4 a6 a7 a8 a9 a10 s, compL (cmp1 (enOf tb_k02 (k + 5)) [a0, a1, a2, a3, a4, .dat (.int (bi c)), a6, a7, a8, a9, a10] (.nm 9) (.cst (.bl true)) (.idx (.var 9) (.var 5))) (ls.map Leg.d) s = some (.ok (ls.map fun l => D.int (if c then l.n else l.e)), s) := fun a0 a1 a2 a3 a4 a6 a7 a8 a9 a10 s => compL_map fun x hx => by cases c <;> simp [cmp1, setT, bi, leg_i]
  have sA : ∀ s, bifD .sum [.lst (ls.map fun l => D.int (if c then l.n else l.e))] s = some (.int (if c then sN ls else sE ls)) := fun s => by
    cases c
    · exact sum_map
    · exact sum_map
  have sB : ∀ s, bifD .sum [.lst (ls.map fun l => D.int (wc r c l))] s = some (.int (Sc r ls c)) := fun s => by
    cases c
    · exact sum_map
    · exact sum_map
  have ia : ∀ p : Int × Int, idxD (i2 p) (.int (bi c)) = some (.int (ec p c)) := fun p => by cases c <;> rfl
  have we : ec b c - ec a c - (if c then sN ls else sE ls) = 0 - ec (erT ls a b) c := by
    cases c <;> simp only [ec, erT] <;> simp <;> omega
  have r0 : rngD (.int 0) (.int ls.length) = some (rangeD 0 ls.length) := rng_ok (by decide) (by have := hls.1; unfold SZ; omega)
  generalize hE : ec (erT ls a b) c = E at *
  generalize hSS : Sc r ls c = SS at *
  simp -implicitDefEqProofs [du_b, duG, ia, legsD, cl, bigL_map lz, sA, we]
  rw [show D.lst (ls.map Leg.d) = legsD ls from rfl]
  simp -implicitDefEqProofs [lo, sB, -evS_forR]
  have q1 : (if SS = 0 then (some (R.ok (D.bl !-E == 0), s) : EV D) else some (R.ok (D.bl (SS == 0)), s)) = some (.ok (.bl (decide (SS = 0 ∧ E ≠ 0))), s) := by
    by_cases z : SS = 0
    · rw [if_pos z]
      by_cases y : E = 0
      · simp [z, y]
      · simp [z, y]
    · rw [if_neg z]
      simp [z]
  rw [q1, W_ok, tru_bl, W_ok]
  by_cases hz : SS = 0 ∧ E ≠ 0
  · rw [decide_eq_true hz, if_pos rfl]
    simp
    exact ⟨hz, rfl⟩
  · rw [decide_eq_false hz, if_neg Bool.false_ne_true]
    simp -implicitDefEqProofs [ll, r0]
    refine W_range (I := fun i g s' => ∃ y, y.isN = false ∧ s' = s ∧ g = duG ls r a b (midL ls (fun l => h l ++ [apD r ls (erT ls a b) c l]) h i) (.dat (.int (bi c))) (.dat (.int (-E))) (.dat (.lst (ls.map fun l => D.int (wc r c l)))) y) ⟨x8, n8, rfl, rfl⟩ ?_ ?_
    · rintro i g s' hi ⟨y, hy, rfl, rfl⟩
      have hi2 : i < ls.length := by omega
      obtain ⟨l, hg⟩ : ∃ l, ls[i]? = some l := ⟨_, List.getElem?_eq_getElem hi2⟩
      have hm : l ∈ ls := List.mem_of_getElem? hg
      have hw := Rl.w_ok (r := r) (hls.2 l hm)
      have hwb : bt (wc r c l) 21 := by cases c; exact bt_of (by have := hw.1; simp only [wc]; simp; omega) (by simp only [wc]; simp; omega); exact bt_of (by simp only [wc]; simp; omega) (by simp only [wc]; simp; omega)
      obtain ⟨m1, m2⟩ := midL_set (f := fun l => h l ++ [apD r ls (erT ls a b) c l]) (h := h) hg
      have ml := midL_len (ls := ls) (f := fun l => h l ++ [apD r ls (erT ls a b) c l]) (h := h) (i := i)
      have ix : atL (ls.map fun l => D.int (wc r c l)) (i : Int) = some (.int (wc r c l)) := by
        rw [at_nat, List.getElem?_map, hg]
        rfl
      have mm := mul_bt (bt_neg hbe) hwb (by decide)
      have f1 : ∀ s, sem tb_k02 (k + 5) 13 [.int (-E * wc r c l), .int (if SS > 1 then SS else 1)] s = some (.ok (apD r ls (erT ls a b) c l), s) := fun s => by
        rw [wleast_eq (by split <;> omega) (bt.mono (n := 28) (bt_of (by split <;> omega) (by split <;> omega)) (by decide))]
        unfold apD shr
        rw [hE, hSS, Int.zero_sub, Int.neg_mul]
      rw [Int.zero_add]
      have ab := aplB_of (g := (duG ls r a b (midL ls (fun l => h l ++ [apD r ls (erT ls a b) c l]) h i) (.dat (.int (bi c))) (.dat (.int (-E))) (.dat (.lst (ls.map fun l => D.int (wc r c l)))) y).set 8 (.dat (.int (i : Int)))) (i := 4) (j := 8) (n := i) rfl rfl (by rw [ml]; exact hi2) (by simp [duG, noN, Sl.isN])
      have af : aplF (midL ls (fun l => h l ++ [apD r ls (erT ls a b) c l]) h i) i (apD r ls (erT ls a b) c l) = some (midL ls (fun l => h l ++ [apD r ls (erT ls a b) c l]) h (i + 1)) := by
        unfold aplF
        rw [m1, Option.bind_some, if_pos (by have := hh l; unfold SZ; omega), m2]
      simp -implicitDefEqProofs [ab]
      simp -implicitDefEqProofs [duG, ix, mm, sB, f1, af]
      rfl
    · rintro g s' ⟨y, hy, rfl, rfl⟩
      rw [Int.sub_zero, Int.toNat_natCast, midL_n]
      simp -implicitDefEqProofs
      exact ⟨fun z => by
        by_cases y : E = 0
        · exact y
        · exact absurd ⟨z, y⟩ hz, _, rfl, _, rfl, _, hy, rfl⟩
theorem due_bad {k : Nat} {r : Rl} {ls : List Leg} {a b : Int × Int} {s : S} (hls : LegsOk ls) (ha : spB a) (hb : spB b) : sem tb_k02 (k + 6) 30 [legsD ls, .str r.x, i2 a, i2 b] s = some (.ok (open Classical in if canS r ls (erT ls a b) then .tup [.str "found", .lst (ls.map fun l => ptD (shP (erT ls a b) r ls l))] else refD 2), s) := by
  refine of_W ?_
  rw [sem_of rfl, W_run]
  have t0 := fun s {x6 x7 x8 : Sl} n6 n7 n8 => due_turn (k := k) (r := r) (s := s) hls ha hb false (fun _ => []) (fun _ => by decide) (x6 := x6) (x7 := x7) (x8 := x8) n6 n7 n8
  have t1 := fun s {x6 x7 x8 : Sl} n6 n7 n8 => due_turn (k := k) (r := r) (s := s) hls ha hb true (fun l => [apD r ls (erT ls a b) false l]) (fun _ => by simp) (x6 := x6) (x7 := x7) (x8 := x8) n6 n7 n8
  have nd : ndlG [.dat (legsD ls), .dat (.str r.x), .dat (i2 a), .dat (i2 b), .un, .un, .un, .un, .un, .un, .un] 4 (legsD ls) (.nm 9) = some (duG ls r a b (ls.map fun _ => []) .un .un .un .un) := by
    unfold ndlG
    rw [show itemsD (legsD ls) = some (ls.map Leg.d) from rfl, Option.bind_some, if_pos ⟨by rw [List.length_map]; have := hls.1; unfold SZ; omega, by simp [noN, Sl.isN], by simp [setT]⟩, List.map_map]
    rfl
  simp only [cb_w_due_v2, startG]
  simp -implicitDefEqProofs [nd]
  have wN : ∀ (c : Bool), ¬ (Sc r ls c = 0 ∧ ec (erT ls a b) c ≠ 0) ↔ (Sc r ls c = 0 → ec (erT ls a b) c = 0) := fun c => by
    rw [not_and, Classical.not_not]
  have canI : canS r ls (erT ls a b) ↔ ¬ (Sc r ls false = 0 ∧ ec (erT ls a b) false ≠ 0) ∧ ¬ (Sc r ls true = 0 ∧ ec (erT ls a b) true ≠ 0) := by
    rw [wN, wN]
    rfl
  refine W_forL (b := evSs (enOf tb_k02 (k + 5)) du_b) (I := fun i g s' => s' = s ∧ ∃ x5 x6 x7 x8, x6.isN = false ∧ x7.isN = false ∧ x8.isN = false ∧ ((i = 0 ∧ g = duG ls r a b (ls.map fun _ => []) x5 x6 x7 x8) ∨
    (i = 1 ∧ ¬ (Sc r ls false = 0 ∧ ec (erT ls a b) false ≠ 0) ∧ g = duG ls r a b (ls.map fun l => [apD r ls (erT ls a b) false l]) x5 x6 x7 x8) ∨
    (i = 2 ∧ canS r ls (erT ls a b) ∧ x5.isN = false ∧ g = duG ls r a b (ls.map fun l => [apD r ls (erT ls a b) false l, apD r ls (erT ls a b) true l]) x5 x6 x7 x8))) ⟨rfl, _, _, _, _, rfl, rfl, rfl, .inl ⟨rfl, rfl⟩⟩ ?_ ?_
  · rintro i d g s' hd ⟨rfl, x5, x6, x7, x8, n6, n7, n8, h⟩
    rcases h with ⟨rfl, rfl⟩ | ⟨rfl, h0, rfl⟩ | ⟨rfl, _⟩
    · cases hd
      refine ⟨_, rfl, ?_⟩
      refine (t0 s' n6 n7 n8).mono ?_
      rintro f s2 ⟨rfl, ⟨h1, rfl⟩ | ⟨h1, y6, y7, y8, m6, m7, m8, rfl⟩⟩
      · have : ¬ canS r ls (erT ls a b) := fun z => (canI.mp z).1 h1
        simp [this]
      · exact ⟨rfl, _, y6, y7, y8, m6, m7, m8, .inr (.inl ⟨rfl, h1, rfl⟩)⟩
    · cases hd
      refine ⟨_, rfl, ?_⟩
      refine (t1 s' n6 n7 n8).mono ?_
      rintro f s2 ⟨rfl, ⟨h1, rfl⟩ | ⟨h1, y6, y7, y8, m6, m7, m8, rfl⟩⟩
      · have : ¬ canS r ls (erT ls a b) := fun z => (canI.mp z).2 h1
        simp [this]
      · exact ⟨rfl, _, y6, y7, y8, m6, m7, m8, .inr (.inr ⟨rfl, canI.mpr ⟨h0, h1⟩, rfl, rfl⟩)⟩
    · cases hd
  · rintro g s' ⟨rfl, x5, x6, x7, x8, n6, n7, n8, h⟩
    rcases h with ⟨h, _⟩ | ⟨h, _⟩ | ⟨_, hc, n5, rfl⟩
    · cases h
    · cases h
    have sh : shnG (duG ls r a b (ls.map fun l => [apD r ls (erT ls a b) false l, apD r ls (erT ls a b) true l]) x5 x6 x7 x8) 4 = [.dat (legsD ls), .dat (.str r.x), .dat (i2 a), .dat (i2 b), .dat (.lst (ls.map fun l => .lst [apD r ls (erT ls a b) false l, apD r ls (erT ls a b) true l])), x5, x6, x7, x8, .un, .un] := by
      unfold shnG
      rw [show (duG ls r a b (ls.map fun l => [apD r ls (erT ls a b) false l, apD r ls (erT ls a b) true l]) x5 x6 x7 x8)[4]? = some (.ownN (ls.map fun l => [apD r ls (erT ls a b) false l, apD r ls (erT ls a b) true l])) from rfl]
      dsimp only
      rw [if_pos (by simp [duG, noN, n5, n6, n7, n8]; simp [Sl.isN]), List.map_map]
      rfl
    have cm : ∀ a0 a1 a2 a3 a4 a5 a6 a7 a8 a9 s, compL (cmp1 (enOf tb_k02 (k + 5)) [a0, a1, a2, a3, a4, a5, a6, a7, a8, a9, .un] (.nm 10) (.cst (.bl true)) (.bif .tuple (.cons (.var 10) (.nil)))) (ls.map fun l => .lst [apD r ls (erT ls a b) false l, apD r ls (erT ls a b) true l]) s = some (.ok (ls.map fun l => ptD (shP (erT ls a b) r ls l)), s) := fun a0 a1 a2 a3 a4 a5 a6 a7 a8 a9 s => compL_map fun x hx => by
      simp [cmp1, setT]
      rfl
    simp -implicitDefEqProofs [sh, cm, hc, bigL_map (show ls.length ≤ SZ by have := hls.1; unfold SZ; omega)]
def k02_b : CSs := .cons (.asg [] 7 (.call 30 (.cons (.var 2) (.cons (.var 6) (.cons (.var 3) (.cons (.var 4) (.nil))))))) (.cons (.asg [] 8 (.call 28 (.cons (.var 2) (.cons (.var 6) (.cons (.var 3) (.cons (.var 4) (.nil))))))) (.cons (.ifs [] (.cmp .ne (.var 8) (.var 7)) (.cons (.ret [] (.cst (.bl false))) (.nil)) (.nil)) (.cons (.asg [] 9 (.call 28 (.cons (.bin .add (.slc (.var 2) (.var 5) (.cst .non)) (.slc (.var 2) (.cst .non) (.var 5))) (.cons (.var 6) (.cons (.var 3) (.cons (.var 4) (.nil))))))) (.cons (.ifs [] (.cmp .eq (.idx (.var 7) (.cst (.int 0))) (.cst (.str "refused"))) (.cons (.ifs [] (.cmp .ne (.var 9) (.var 7)) (.cons (.ret [] (.cst (.bl false))) (.nil)) (.nil)) (.cons (.cnt) (.nil))) (.nil)) (.cons (.ifs [] (.cmp .ne (.var 9) (.tup (.cons (.cst (.str "found")) (.cons (.bin .add (.slc (.idx (.var 7) (.cst (.int 1))) (.var 5) (.cst .non)) (.slc (.idx (.var 7) (.cst (.int 1))) (.cst .non) (.var 5))) (.nil))))) (.cons (.ret [] (.cst (.bl false))) (.nil)) (.nil)) (.cons (.forR [] (.nm 10) (.cst (.int 0)) (.cst (.int 2)) (.cons (.asg [] 11 (.call 17 (.cons (.comp (.nm 12) (.idx (.var 8) (.cst (.int 1))) (.cst (.bl true)) (.idx (.var 12) (.var 10))) (.nil)))) (.cons (.ifs [] (.cmp .ne (.var 11) (.tup (.cons (.bin .sub (.bin .sub (.idx (.var 4) (.var 10)) (.idx (.var 3) (.var 10))) (.bif .sum (.cons (.comp (.nm 13) (.var 2) (.cst (.bl true)) (.idx (.var 13) (.var 10))) (.nil)))) (.cons (.cst (.int 1)) (.nil))))) (.cons (.ret [] (.cst (.bl false))) (.nil)) (.nil)) (.nil)))) (.nil)))))))
def fnd (ps : List Pt) : D := .tup [.str "found", .lst (ps.map ptD)]
theorem shared_bad {r : Rl} {ls : List Leg} {a b : Int × Int} (h : LegsOk ls) (ha : spB a) (hb : spB b) (hc : ¬ canS r ls (erT ls a b)) {k : Nat} {s : S} : sem tb_k02 (k + 5) 26 [legsD ls, .str r.x, i2 a, i2 b] s = some (.exn 2, s) := by
  rw [sem_of rfl]
  simp [cb_shared, startG, round_okN h ha hb, error_eqN h, shares_bad h hc]
noncomputable def DU (r : Rl) (ls : List Leg) (a b : Int × Int) : D := open Classical in if canS r ls (erT ls a b) then fnd (ls.map (shP (erT ls a b) r ls)) else refD 2
theorem due_eq {k : Nat} {r : Rl} {ls : List Leg} {a b : Int × Int} {s : S} (hls : LegsOk ls) (ha : spB a) (hb : spB b) : sem tb_k02 (k + 6) 30 [legsD ls, .str r.x, i2 a, i2 b] s = some (.ok (DU r ls a b), s) := by
  rw [due_bad hls ha hb]
  unfold DU fnd
  rw [List.map_map]
  rfl
theorem told_eq2 {k : Nat} {r : Rl} {ls : List Leg} {a b : Int × Int} {s : S} (hls : LegsOk ls) (ha : spB a) (hb : spB b) : sem tb_k02 (k + 6) 28 [legsD ls, .str r.x, i2 a, i2 b] s = some (.ok (DU r ls a b), s) := by
  rw [sem_of rfl]
  by_cases hc : canS r ls (erT ls a b)
  · have h := shared_eq (tb := tb_k02) (k := k) (s := s) hls ha hb hc
    unfold DU fnd
    rw [if_pos hc, List.map_map]
    simp [cb_w_told, startG, h, trK]
  · have h := shared_bad (k := k) (s := s) hls ha hb hc
    have r := refusal_eq (tb := tb_k02) (k := k + 4) (c := 2) (s := s) (by decide) (by decide)
    have sb0 : tb_k02.sub 2 0 = some true := by
      rw [sub_of (by omega) (by decide)]
      rfl
    unfold DU
    rw [if_neg hc]
    simp [cb_w_told, startG, h, trK, sb0, r, show cmpD .is_ (.exc 2) .non = some false from rfl]
theorem fnd_pl {ps : List Pt} : (fnd ps).pl 8 = true := by
  have : ∀ p : Pt, (ptD p).pl 6 = true := fun p => rfl
  show ((D.str "found").pl 7 && (((D.lst (ps.map ptD)).pl 7) && true)) = true
  rw [show (D.str "found").pl 7 = true from by decide +kernel]
  show (true && ((ps.map ptD).all (D.pl 6) && true)) = true
  simp [this]
theorem ref_pl : (refD 2).pl 8 = true := by decide +kernel
def rotL (ls : List Leg) (n : Nat) : List Leg := ls.drop n ++ ls.take n
theorem rot_perm {ls : List Leg} {n : Nat} : (rotL ls n).Perm ls := by
  unfold rotL
  refine List.perm_append_comm.trans ?_
  rw [List.take_append_drop]
theorem rot_ok {ls : List Leg} {n : Nat} (h : LegsOk ls) : LegsOk (rotL ls n) := ⟨by rw [rot_perm.length_eq]; exact h.1, fun x hx => h.2 x (rot_perm.mem_iff.mp hx)⟩
theorem rot_sum {f : Leg → Int} {ls : List Leg} {n : Nat} : ((rotL ls n).map f).sum = (ls.map f).sum := by
  unfold rotL
  rw [List.map_append, List.sum_append, Int.add_comm, ← List.sum_append, ← List.map_append, List.take_append_drop]
theorem rot_wS {r : Rl} {ls : List Leg} {n : Nat} : wS r (rotL ls n) = wS r ls := by
  unfold wS
  rw [rot_sum, rot_sum]
theorem rot_er {ls : List Leg} {n : Nat} {a b : Int × Int} : erT (rotL ls n) a b = erT ls a b := by
  unfold erT sE sN
  rw [rot_sum, rot_sum]
theorem rot_shP {e : Int × Int} {r : Rl} {ls : List Leg} {n : Nat} : shP e r (rotL ls n) = shP e r ls := by
  funext l
  unfold shP
  rw [rot_wS]
def k02G (ns : List Int) (ls : List Leg) (a b : Int × Int) (n : Nat) (x6 x7 x8 x9 x10 x11 x12 x13 : Sl) : G := [.dat (.scr ns), .dat .town, .dat (legsD ls), .dat (i2 a), .dat (i2 b), .dat (.int (n : Int)), x6, x7, x8, x9, x10, x11, x12, x13]
theorem k02_turn {ns : List Int} {r : Rl} {ls : List Leg} {a b : Int × Int} {n : Nat} {s : S} {x7 x8 x9 x10 x11 : Sl} (hls : LegsOk ls) (ha : spB a) (hb : spB b) (hn : n < ls.length) :
    W (evSs (enOf tb_k02 30) k02_b (k02G ns ls a b n (.dat (.str r.x)) x7 x8 x9 x10 x11 .un .un) s) (stepK (fun g s' => s' = s ∧ ∃ x6 x7 x8 x9 x10 x11, g = k02G ns ls a b n x6 x7 x8 x9 x10 x11 .un .un) fun _ _ => False) := by
  have du := due_eq (k := 24) (r := r) (s := s) hls ha hb
  have to := told_eq2 (k := 24) (r := r) (s := s) hls ha hb
  have tr := told_eq2 (k := 24) (r := r) (s := s) (rot_ok (n := n) hls) ha hb
  have dr : DU r (rotL ls n) a b = open Classical in if canS r ls (erT ls a b) then fnd ((rotL ls n).map (shP (erT ls a b) r ls)) else refD 2 := by
    unfold DU canS
    rw [rot_er, rot_wS, rot_shP]
  have s1 : slcD (legsD ls) (some (n : Int)) none = some (legsD (ls.drop n)) := by
    unfold legsD
    rw [slc_lst, cutL_map, cut_from (by omega) (by omega), Int.toNat_natCast]
  have s2 : slcD (legsD ls) none (some (n : Int)) = some (legsD (ls.take n)) := by
    unfold legsD
    rw [slc_lst, cutL_map, cut_to (by omega), Int.toNat_natCast]
  have s3 : binD .add (legsD (ls.drop n)) (legsD (ls.take n)) = some (legsD (rotL ls n)) := by
    unfold legsD rotL
    rw [add_lst (by simp [SZ]; have := hls.1; omega), List.map_append]
  have sp : partD (.int (n : Int)) = some (some (n : Int)) := rfl
  simp -implicitDefEqProofs [k02_b, k02G, du, to, s1, s2, s3, sp, tr, dr]
  by_cases hc : canS r ls (erT ls a b)
  · have e1 : DU r ls a b = fnd (ls.map (shP (erT ls a b) r ls)) := if_pos hc
    have n1 := ne_self (fnd_pl (ps := ls.map (shP (erT ls a b) r ls)))
    have n2 : cmpD .eq (.str "found") (.str "refused") = some false := by decide +kernel
    have n3 : ∀ ps, idxD (fnd ps) (.int 0) = some (.str "found") := fun ps => rfl
    have n4 : ∀ ps, idxD (fnd ps) (.int 1) = some (.lst (ps.map ptD)) := fun ps => rfl
    have s6 : binD .add (.lst (List.drop n ((ls.map (shP (erT ls a b) r ls)).map ptD))) (.lst (List.take n ((ls.map (shP (erT ls a b) r ls)).map ptD))) = some (.lst (((rotL ls n).map (shP (erT ls a b) r ls)).map ptD)) := by
      rw [add_lst (by simp [SZ]; have := hls.1; omega)]
      unfold rotL
      simp
    have s4 : slcD (.lst ((ls.map (shP (erT ls a b) r ls)).map ptD)) (some (n : Int)) none = some (.lst (List.drop n ((ls.map (shP (erT ls a b) r ls)).map ptD))) := by
      rw [slc_lst, cut_from (by omega) (by simp; omega), Int.toNat_natCast]
    have s5 : slcD (.lst ((ls.map (shP (erT ls a b) r ls)).map ptD)) none (some (n : Int)) = some (.lst (List.take n ((ls.map (shP (erT ls a b) r ls)).map ptD))) := by
      rw [slc_lst, cut_to (by omega), Int.toNat_natCast]
    have n5 : cmpD .ne (fnd ((rotL ls n).map (shP (erT ls a b) r ls))) (.tup [.str "found", .lst (((rotL ls n).map (shP (erT ls a b) r ls)).map ptD)]) = some false := ne_self fnd_pl
    simp -implicitDefEqProofs [e1, hc, n1, n2, n3, n4, s4, s5, s6, n5, s1, s2, s3, sp, tr, dr, -List.map_map, -evS_forR]
    have hb2 := erT_bt hls ha hb
    have bS := wS_b (r := r) hls
    have lz : ls.length ≤ SZ := by have := hls.1; unfold SZ; omega
    have sk : ∀ (c : Bool) (s : S), sem tb_k02 30 17 [.lst (ls.map fun l => frD (shr (ec (erT ls a b) c) (wc r c l) (Sc r ls c)))] s = some (.ok (.tup [.int (-(ec (erT ls a b) c)), .int 1]), s) := fun c s => by
      have z1 : ∀ q ∈ ls.map (fun l => shr (ec (erT ls a b) c) (wc r c l) (Sc r ls c)), sz 49 28 q := fun q hq => by
        obtain ⟨l, hl, rfl⟩ := List.mem_map.mp hq
        have hw := Rl.w_ok (r := r) (hls.2 l hl)
        cases c
        · exact shr_sz hb2.1 (bt_of (by simp only [wc]; simp; omega) (by simp only [wc]; simp; omega)) bS.2.1
        · exact shr_sz hb2.2 (bt_of (by simp only [wc]; simp; omega) (by simp only [wc]; simp; omega)) bS.2.2.2
      have w := wsum_eq (tb := tb_k02) (k := 27) (qs := ls.map fun l => shr (ec (erT ls a b) c) (wc r c l) (Sc r ls c)) (s := s) (fun q hq => (z1 q hq).fit) (fitS_of z1 (m := 40) (by rw [List.length_map]; exact hls.1.2) (by decide) (by decide))
      rw [List.map_map] at w
      have e := sum_shr (e := ec (erT ls a b) c) (S := Sc r ls c) (f := wc r c) (xs := ls) (by cases c <;> rfl) (by cases c; exact bS.1; exact bS.2.2.1) (by cases c; exact hc.1; exact hc.2)
      rw [e] at w
      rw [show (D.lst (ls.map fun l => frD (shr (ec (erT ls a b) c) (wc r c l) (Sc r ls c)))) = D.lst (ls.map (frD ∘ fun l => shr (ec (erT ls a b) c) (wc r c l) (Sc r ls c))) from rfl, w]
      have : (-(ec (erT ls a b) c : Int) : Rat) = ((-(ec (erT ls a b) c) : Int) : Rat) := by simp
      rw [this]
      rfl
    have cl : ∀ (c : Bool) a0 a1 a3 a4 a5 a6 a7 a8 a9 a11 a12 a13 s, compL (cmp1 (enOf tb_k02 30) [a0, a1, .dat (legsD ls), a3, a4, a5, a6, a7, a8, a9, .dat (.int (bi c)), a11, a12, a13] (.nm 13) (.cst (.bl true)) (.idx (.var 13) (.var 10))) (ls.map Leg.d) s = some (.ok (ls.map fun l => D.int (if c then l.n else l.e)), s) := fun c a0 a1 a3 a4 a5 a6 a7 a8 a9 a11 a12 a13 s => compL_map fun x hx => by cases c <;> simp [cmp1, setT, bi, leg_i]
    have cq : ∀ (c : Bool) a0 a1 a2 a3 a4 a5 a6 a7 a8 a9 a11 a12 a13 s, compL (cmp1 (enOf tb_k02 30) [a0, a1, a2, a3, a4, a5, a6, a7, a8, a9, .dat (.int (bi c)), a11, a12, a13] (.nm 12) (.cst (.bl true)) (.idx (.var 12) (.var 10))) ((ls.map (shP (erT ls a b) r ls)).map ptD) s = some (.ok (ls.map fun l => frD (shr (ec (erT ls a b) c) (wc r c l) (Sc r ls c))), s) := fun c a0 a1 a2 a3 a4 a5 a6 a7 a8 a9 a11 a12 a13 s => by
      rw [List.map_map]
      exact compL_map fun x hx => by cases c <;> simp [cmp1, setT, bi] <;> rfl
    have sA : ∀ (c : Bool) s, bifD .sum [.lst (ls.map fun l => D.int (if c then l.n else l.e))] s = some (.int (if c then sN ls else sE ls)) := fun c s => by
      cases c
      · exact sum_map
      · exact sum_map
    have ia : ∀ (p : Int × Int) (c : Bool), idxD (i2 p) (.int (bi c)) = some (.int (ec p c)) := fun p c => by cases c <;> rfl
    have we : ∀ c : Bool, ec b c - ec a c - (if c then sN ls else sE ls) = -(ec (erT ls a b) c) := fun c => by
      cases c <;> simp only [ec, erT] <;> simp <;> omega
    have ne1 : ∀ x : Int, cmpD .ne (.tup [.int x, .int 1]) (.tup [.int x, .int 1]) = some false := fun x => ne_self rfl
    have il : itemsD (legsD ls) = some (ls.map Leg.d) := rfl
    have n6 : itemsD (.lst ((ls.map (shP (erT ls a b) r ls)).map ptD)) = some ((ls.map (shP (erT ls a b) r ls)).map ptD) := rfl
    rw [evS_forR]
    simp -implicitDefEqProofs [-List.map_map]
    refine W_forL (I := fun i g s' => s' = s ∧ ∃ y10 y11, g = [.dat (.scr ns), .dat .town, .dat (legsD ls), .dat (i2 a), .dat (i2 b), .dat (.int n), .dat (.str r.x), .dat (fnd (ls.map (shP (erT ls a b) r ls))), .dat (fnd (ls.map (shP (erT ls a b) r ls))), .dat (fnd ((rotL ls n).map (shP (erT ls a b) r ls))), y10, y11, .un, .un]) ⟨rfl, _, _, rfl⟩ ?_ ?_
    · rintro i d g s' hd ⟨rfl, y10, y11, rfl⟩
      obtain ⟨c, rfl⟩ : ∃ c, d = .int (bi c) := by
        match i, hd with
        | 0, hd => cases hd; exact ⟨false, rfl⟩
        | 1, hd => cases hd; exact ⟨true, rfl⟩
        | i + 2, hd => cases hd
      refine ⟨_, rfl, ?_⟩
      simp -implicitDefEqProofs [n4, n6, cq, bigL_map lz, sk, ia, il, cl, sA, we, ne1, -List.map_map]
    · rintro g s' ⟨rfl, y10, y11, rfl⟩
      simp -implicitDefEqProofs
  · have e1 : DU r ls a b = refD 2 := if_neg hc
    have n1 := ne_self ref_pl
    have n2 : cmpD .eq (.str "refused") (.str "refused") = some true := by decide +kernel
    have n3 : idxD (refD 2) (.int 0) = some (.str "refused") := rfl
    simp -implicitDefEqProofs [e1, hc, n1, n2, n3, s1, s2, s3, sp, tr, dr]
theorem law_k02 : LawT tb_k02 fd_k02_law 1 30 := by
  refine lawT_of fun ns => ?_
  have en : fd_k02_law.N.length = 14 := rfl
  rw [en]
  simp only [fd_k02_law, lawG, startG]
  simp -implicitDefEqProofs [-evS_for]
  refine k01_legs (by decide) fun ls m hls hm => ?_
  refine W_spot (by omega) fun a ha => ?_
  refine W_spot (by omega) fun b hb => ?_
  have ll : ∀ s, bifD .len [legsD ls] s = some (.int ls.length) := fun s => by
    unfold legsD
    rw [len_lst, List.length_map]
  simp -implicitDefEqProofs only [ll, rp_some, W_ok]
  refine W_draw (by omega) (by have := hls.1; omega) fun u u0 u1 => ?_
  simp -implicitDefEqProofs [-evS_for]
  refine W_draw (by omega) (by decide) fun v v0 v1 => ?_
  obtain ⟨n, rfl⟩ : ∃ n : Nat, u = n := ⟨u.toNat, by omega⟩
  have lz : ls.length ≤ SZ := by have := hls.1; unfold SZ; omega
  have il : itemsD (legsD ls) = some (ls.map Leg.d) := rfl
  have sA : ∀ s, bifD .sum [.lst (ls.map fun l => D.int l.e)] s = some (.int (sE ls)) := fun s => sum_map
  have sB : ∀ s, bifD .sum [.lst (ls.map fun l => D.int l.n)] s = some (.int (sN ls)) := fun s => sum_map
  simp only [eq_int, Option.map_some, rp_some, W_ok, tru_bl]
  refine W.mono (Q := fun f s' => s' = some (m + 3 + 3 + 1 + 1) ∧ ∃ p q : Int, f = .nx (k02G ns ls a (p, q) n .un .un .un .un .un .un .un .un)) ?_ ?_
  · by_cases hv : v = 0
    · subst hv
      simp -implicitDefEqProofs [il, comp_e, comp_n, bigL_map lz, sA, sB]
      exact ⟨_, _, rfl⟩
    · rw [show (v == 0) = false from beq_eq_false_iff_ne.mpr hv]
      simp -implicitDefEqProofs
      exact ⟨b.1, b.2, rfl⟩
  clear hb
  rintro f s ⟨rfl, p, q, rfl⟩
  simp -implicitDefEqProofs [k02G, -evS_for]
  have q1 : ∀ s : S, (if 1000000 < (if p < 0 then -p else p) then (some (R.ok (D.bl (decide (1000000 < if p < 0 then -p else p))), s) : EV D) else some (R.ok (D.bl (decide (1000000 < if q < 0 then -q else q))), s)) = some (.ok (.bl (decide (¬ (-1000000 ≤ p ∧ p ≤ 1000000 ∧ -1000000 ≤ q ∧ q ≤ 1000000)))), s) := fun s => by
    by_cases h : 1000000 < (if p < 0 then -p else p)
    · rw [if_pos h, decide_eq_true h]
      congr 5
      symm
      rw [decide_eq_true_eq]
      split at h <;> omega
    · rw [if_neg h]
      congr 5
      apply propext
      split at h <;> split <;> omega
  rw [q1, W_ok, tru_bl, W_ok]
  obtain ⟨c, hcb, ec⟩ : ∃ c : Int × Int, spB c ∧ (if decide (¬ (-1000000 ≤ p ∧ p ≤ 1000000 ∧ -1000000 ≤ q ∧ q ≤ 1000000)) = true then a else (p, q)) = c := by
    refine ⟨_, ?_, rfl⟩
    split
    · exact ha
    · rename_i h
      rw [decide_eq_true_eq, Classical.not_not] at h
      exact h
  refine W.mono (Q := fun f s' => s' = some (m + 3 + 3 + 1 + 1) ∧ f = .nx (k02G ns ls a c n .un .un .un .un .un .un .un .un)) ?_ ?_
  · split at ec
    · rename_i h
      rw [h, if_pos rfl, W_ok, ec]
      exact ⟨rfl, rfl⟩
    · rename_i h
      rw [if_neg h, W_ok, ec]
      exact ⟨rfl, rfl⟩
  clear ec q1
  rintro f s ⟨rfl, rfl⟩
  rw [seqK_nx, evSs_cons, W_rb, evS_for]
  simp -implicitDefEqProofs
  refine W_forL (b := evSs (enOf tb_k02 30) k02_b) (I := fun i g s' => s' = some (m + 3 + 3 + 1 + 1) ∧ ∃ x6 x7 x8 x9 x10 x11, g = k02G ns ls a c n x6 x7 x8 x9 x10 x11 .un .un) ⟨rfl, _, _, _, _, _, _, rfl⟩ ?_ ?_
  · rintro i d g s hd ⟨rfl, x6, x7, x8, x9, x10, x11, rfl⟩
    obtain ⟨r, rfl⟩ : ∃ r : Rl, d = .str r.x := by
      match i, hd with
      | 0, hd => cases hd; exact ⟨.eq, rfl⟩
      | 1, hd => cases hd; exact ⟨.long, rfl⟩
      | 2, hd => cases hd; exact ⟨.parts, rfl⟩
      | i + 3, hd => cases hd
    refine ⟨_, rfl, ?_⟩
    refine (k02_turn (ns := ns) (r := r) (s := some (m + 3 + 3 + 1 + 1)) (x7 := x7) (x8 := x8) (x9 := x9) (x10 := x10) (x11 := x11) hls ha hcb (by omega)).mono ?_
    intro f s h
    cases f with
    | nx g => exact h
    | ct g => exact h
    | bk g => exact h.elim
    | rt d => exact h.elim
  · rintro g s ⟨rfl, x6, x7, x8, x9, x10, x11, rfl⟩
    simp -implicitDefEqProofs
end FR
theorem PySem.Challenge.cw_fieldrounds_k02_whole_shares_holds : PySem.Challenge.rw_fieldrounds_k02_whole_shares.Holds := by
  exact cw_head_k02 FR.law_k02

