import PyProof.Rows.All
import Wide.All
import OpenK.AllK
import Wide.FinOn
import KE.KStateDown
import HandS.ForMost
import HandS.ForExc
import HandS.More
import HandS.Conv
import HandS.DeepEq
import HandS.Small
import HandS.SetFor
import HandS.TupSets
import KE.KDictSum
import HandS.Wide
import HandS.Flow
import HandS.Style
import HandS.TupAny
import HandS.Deep
import HandS.IsInst
import HandS.ExcIs
import HandS.NoneIn
import HandS.CallSlots
import HandS.Defaults
import HandS.HeadHook1
import HandS.HeadHook2
import HandS.HeadEnd
import HandS.Head0
import HandS.Head1
import HandS.Head2
import PySem.Challenge.RW_fieldrounds_k43_whole_seen
set_option Elab.async false
set_option linter.all false
set_option maxRecDepth 100000
set_option maxHeartbeats 0
set_option exponentiation.threshold 100000
/-! FrCore: data, the core syntax, its evaluator. -/
namespace FR
open PySem (Str)

/-! ### data -/
inductive D where
  | non
  | bl (b : Bool)
  | int (i : Int)
  | str (x : Str)
  | tup (xs : List D)
  | lst (xs : List D)
  | dct (kvs : List ((Int ⊕ Str) × D))
  | exc (c : Nat)
  | fn (f : Nat)
  | town
  | scr (ns : List Int)
  deriving Inhabited

/-! keys of dicts -/
abbrev Ky := Int ⊕ Str
def Ky.d : Ky → D
  | .inl i => .int i
  | .inr x => .str x
def keyD : D → Option Ky
  | .int i => some (.inl i)
  | .str x => some (.inr x)
  | _ => none
def getK (kvs : List (Ky × D)) (k : Ky) : Option D := (kvs.find? fun kv => decide (kv.1 = k)).map (·.2)
def putK (kvs : List (Ky × D)) (k : Ky) (v : D) : List (Ky × D) :=
  if (kvs.any fun kv => decide (kv.1 = k)) = true then kvs.map (fun kv => if kv.1 = k then (kv.1, v) else kv) else kvs ++ [(k, v)]
def dropK (kvs : List (Ky × D)) (k : Ky) : List (Ky × D) := kvs.filter fun kv => decide (kv.1 ≠ k)
def mergeK (kvs more : List (Ky × D)) : List (Ky × D) := more.foldl (fun acc kv => putK acc kv.1 kv.2) kvs
/-! how Python's == goes over data -/
mutual
def D.eqv : D → D → Bool
  | .non, e => match e with | .non => true | _ => false
  | .bl a, e => match e with | .bl b => a == b | .int j => (if a then 1 else 0) == j | _ => false
  | .int i, e => match e with | .int j => i == j | .bl b => i == (if b then 1 else 0) | _ => false
  | .str x, e => match e with | .str y => x == y | _ => false
  | .tup xs, e => match e with | .tup ys => D.eqvL xs ys | _ => false
  | .lst xs, e => match e with | .lst ys => D.eqvL xs ys | _ => false
  | .dct xs, e => match e with | .dct ys => xs.length == ys.length && D.eqvK xs ys | _ => false
  | .exc c, e => match e with | .exc d => c == d | _ => false
  | .fn c, e => match e with | .fn d => c == d | _ => false
  | .town, e => match e with | .town => true | _ => false
  | .scr _, _ => false
def D.eqvL : List D → List D → Bool
  | [], ys => match ys with | [] => true | _ :: _ => false
  | x :: xs, ys => match ys with | [] => false | y :: ys => D.eqv x y && D.eqvL xs ys
def D.eqvK : List ((Int ⊕ Str) × D) → List ((Int ⊕ Str) × D) → Bool
  | [], _ => true
  | (k, x) :: xs, ys => (match getK ys k with | some y => D.eqv x y | none => false) && D.eqvK xs ys
end

/-- no dict, error, def, town within; of depth n at most -/
def D.pl : Nat → D → Bool
  | _, .non => true
  | _, .bl _ => true
  | _, .int _ => true
  | _, .str x => decide (x.length ≤ 100000) && x.cps.all (· < 0x110000)
  | 0, _ => false
  | n + 1, .tup xs => xs.all (D.pl n)
  | n + 1, .lst xs => xs.all (D.pl n)
  | _, _ => false

/-- a dict of such data -/
def valsPl (kvs : List (Ky × D)) : Bool := kvs.all fun kv => kv.2.pl 7
def eqDct : D → D → Option Bool
  | .dct xs, .dct ys => if valsPl xs && valsPl ys then some (D.eqv (.dct xs) (.dct ys)) else none
  | _, _ => none

/-! no list, dict or town within -/
mutual
def D.lf : D → Bool
  | .lst _ => false
  | .dct _ => false
  | .town => false
  | .scr _ => false
  | .tup xs => D.lfL xs
  | _ => true
def D.lfL : List D → Bool
  | [] => true
  | x :: xs => x.lf && D.lfL xs
end

def D.truth : D → Option Bool
  | .non => some false
  | .bl b => some b
  | .int i => some (i != 0)
  | .str x => if x.length ≤ 100000 then some (x.length != 0) else none
  | .tup xs => some (!xs.isEmpty)
  | .lst xs => some (!xs.isEmpty)
  | .scr xs => some (!xs.isEmpty)
  | _ => none

/-! ### values and the town's count -/
inductive R (α : Type) where
  | ok (a : α)
  | exn (c : Nat)
abbrev S := Option Nat
abbrev EV (α : Type) := Option (R α × S)

def rb {α β : Type} (o : EV α) (f : α → S → EV β) : EV β := match o with
  | some (.ok a, s) => f a s
  | some (.exn c, s) => some (.exn c, s)
  | none => none
@[simp] theorem rb_ok {α β : Type} (a : α) (s : S) (f : α → S → EV β) : rb (some (.ok a, s)) f = f a s := rfl
@[simp] theorem rb_exn {α β : Type} (c : Nat) (s : S) (f : α → S → EV β) : rb (some (.exn c, s)) f = some (.exn c, s) := rfl
@[simp] theorem rb_none {α β : Type} (f : α → S → EV β) : rb none f = none := rfl
theorem rb_rb {α β γ : Type} (o : EV α) (f : α → S → EV β) (k : β → S → EV γ) : rb (rb o f) k = rb o fun a s => rb (f a s) k := by
  cases o with
  | none => rfl
  | some p =>
    obtain ⟨r, s⟩ := p
    cases r <;> rfl
def rp {α : Type} (o : Option α) (s : S) : EV α := match o with
  | some a => some (.ok a, s)
  | none => none
@[simp] theorem rp_some {α : Type} (a : α) (s : S) : rp (some a) s = some (.ok a, s) := rfl
@[simp] theorem rp_none {α : Type} (s : S) : rp (none : Option α) s = none := rfl

/-! ### operations on data -/
def SZ : Nat := 1000000
inductive Op where | add | sub | mul | fdiv | mod | pow
  deriving DecidableEq
inductive Cm where | eq | ne | lt | le | gt | ge | isin | nin | is_ | isn
  deriving DecidableEq
inductive Bf where | len | abs | sum | all | any | max2 | min2 | int | str | tuple | list | min1 | sorted | dict | setsorted | setlen
  deriving DecidableEq
inductive Ty where | int | bool | tuple | list | str | dict | ve | cls (c : Nat)
  deriving DecidableEq
inductive Mt where | keys | items | index | count | join | split | get1 | get2 | replace
  deriving DecidableEq

def mulOk (i j : Int) : Bool := decide (i.natAbs.log2 + j.natAbs.log2 < 1000000)
def divOk (j : Int) : Bool := decide (j ≠ 0 ∧ j.natAbs.log2 < 9000)

def addD : D → D → Option D
  | .int i, .int j => some (.int (i + j))
  | .str x, .str y => if x.length + y.length ≤ 100000 then some (.str (x ++ y)) else none
  | .lst xs, .lst ys => if xs.length + ys.length ≤ SZ then some (.lst (xs ++ ys)) else none
  | .tup xs, .tup ys => if xs.length + ys.length ≤ SZ then some (.tup (xs ++ ys)) else none
  | _, _ => none
def repD (xs : List D) (k : Int) : List D := (List.replicate k.toNat xs).flatten
def mulD : D → D → Option D
  | .int i, .int j => if mulOk i j then some (.int (i * j)) else none
  | .lst xs, .int k => if xs.length * k.toNat ≤ SZ ∧ k.natAbs ≤ SZ then some (.lst (repD xs k)) else none
  | _, _ => none
def binD : Op → D → D → Option D
  | .add, x, y => addD x y
  | .sub, .int i, .int j => some (.int (i - j))
  | .mul, x, y => mulD x y
  | .fdiv, .int i, .int j => if divOk j then some (.int (i.fdiv j)) else none
  | .mod, .int i, .int j => if j = 0 then none else some (.int (i.fmod j))
  | .pow, .int i, .int j => if 0 ≤ j ∧ j ≤ 1000 ∧ i.natAbs < 2 ^ 64 then some (.int (i ^ j.toNat)) else none
  | _, _, _ => none

def flatD : D → Bool
  | .non => true | .bl _ => true | .int _ => true | .str _ => true | _ => false
def inD (x : D) : D → Option Bool
  | .lst ys => if x.pl 8 && ys.all (D.pl 8) then some (ys.any fun y => D.eqv y x) else none
  | .tup ys => if flatD x && ys.all flatD then some (ys.any fun y => D.eqv y x) else none
  | .dct kvs => (keyD x).map fun k => (getK kvs k).isSome
  | .str z => (match x with | .str c => (match c.cps.toList with | [k] => some (decide (k ∈ z.cps.toList)) | _ => none) | _ => none)
  | _ => none
def isNonD : D → Bool
  | .non => true
  | _ => false
def ltD : D → D → Option Bool
  | .int i, .int j => some (decide (i < j))
  | _, _ => none
def leD : D → D → Option Bool
  | .int i, .int j => some (decide (i ≤ j))
  | _, _ => none
def cmpD (o : Cm) (x y : D) : Option Bool := match o with
  | .eq => if x.pl 8 && y.pl 8 then some (D.eqv x y) else eqDct x y
  | .ne => if x.pl 8 && y.pl 8 then some (!D.eqv x y) else (eqDct x y).map (!·)
  | .lt => ltD x y
  | .le => leD x y
  | .gt => ltD y x
  | .ge => leD y x
  | .isin => inD x y
  | .nin => (inD x y).map (!·)
  | .is_ => (match y with | .non => some (isNonD x) | _ => none)
  | .isn => (match y with | .non => some (!isNonD x) | _ => none)

def atL {α : Type} (xs : List α) (i : Int) : Option α :=
  if 0 ≤ i then xs[i.toNat]? else if -(xs.length : Int) ≤ i then xs[(i + xs.length).toNat]? else none
def idxD : D → D → Option D
  | .lst xs, .int i => atL xs i
  | .tup xs, .int i => atL xs i
  | .scr xs, .int i => (atL xs i).map D.int
  | .dct kvs, .int i => getK kvs (.inl i)
  | .dct kvs, .str x => getK kvs (.inr x)
  | _, _ => none
/-- a slice's end, brought into the list -/
def clip (n : Nat) (d : Nat) : Option Int → Nat
  | none => d
  | some i => if i < 0 then (i + n).toNat else min i.toNat n
def cutL {α : Type} (xs : List α) (lo hi : Option Int) : List α :=
  (xs.drop (clip xs.length 0 lo)).take (clip xs.length xs.length hi - clip xs.length 0 lo)
def slcD (x : D) (l h : Option Int) : Option D := match x with
  | .lst xs => some (.lst (cutL xs l h))
  | .tup xs => some (.tup (cutL xs l h))
  | _ => none
def partD : D → Option (Option Int)
  | .int i => some (some i)
  | _ => none
def revD : D → Option D
  | .lst xs => some (.lst xs.reverse)
  | _ => none

def intsD : List D → Option (List Int)
  | [] => some []
  | .int i :: r => (intsD r).map (i :: ·)
  | _ :: _ => none
def boolsD : List D → Option (List Bool)
  | [] => some []
  | .bl b :: r => (boolsD r).map (b :: ·)
  | _ :: _ => none

def lenD : D → S → Option D
  | .lst xs, _ => some (.int xs.length)
  | .tup xs, _ => some (.int xs.length)
  | .dct xs, _ => some (.int xs.length)
  | .scr xs, _ => some (.int xs.length)
  | .str x, _ => if x.length ≤ 100000 then some (.int x.length) else none
  | .town, some n => some (.int n)
  | _, _ => none
def absD : D → S → Option D
  | .int i, _ => some (.int (if i < 0 then -i else i))
  | _, _ => none
def sumD : D → S → Option D
  | .lst xs, _ => (intsD xs).map fun ns => .int ns.sum
  | _, _ => none
def allD : D → S → Option D
  | .lst xs, _ => (boolsD xs).map fun bs => .bl (bs.all id)
  | _, _ => none
def anyD : D → S → Option D
  | .lst xs, _ => (boolsD xs).map fun bs => .bl (bs.any id)
  | _, _ => none
def intD : D → S → Option D
  | .int i, _ => some (.int i)
  | .bl b, _ => some (.int (if b then 1 else 0))
  | _, _ => none
def tupleD : D → S → Option D
  | .lst xs, _ => some (.tup xs)
  | .tup xs, _ => some (.tup xs)
  | _, _ => none
def listD : D → S → Option D
  | .lst xs, _ => some (.lst xs)
  | .tup xs, _ => some (.lst xs)
  | _, _ => none
def max2D : D → D → S → Option D
  | .int i, .int j, _ => some (.int (if j > i then j else i))
  | _, _, _ => none
def min2D : D → D → S → Option D
  | .int i, .int j, _ => some (.int (if j < i then j else i))
  | _, _, _ => none
def strsD : List D → Option (List Str)
  | [] => some []
  | .str x :: r => (strsD r).map (x :: ·)
  | _ :: _ => none
/-- texts by their signs -/
def leS (x y : Str) : Bool := !decide (y.cps.toList < x.cps.toList)
def insS (x : Str) : List Str → List Str
  | [] => [x]
  | y :: r => if leS x y then x :: y :: r else y :: insS x r
def sortS : List Str → List Str
  | [] => []
  | x :: r => insS x (sortS r)
def insI (x : Int) : List Int → List Int
  | [] => [x]
  | y :: r => if x ≤ y then x :: y :: r else y :: insI x r
def sortI : List Int → List Int
  | [] => []
  | x :: r => insI x (sortI r)
/-- each once -/
def onceS : List Str → List Str
  | [] => []
  | x :: r => if x ∈ r then onceS r else x :: onceS r
def sortedL (xs : List D) : Option D := match strsD xs with
  | some ks => if ks.length < 64 then some (.lst ((sortS ks).map D.str)) else none
  | none => match intsD xs with
    | some ns => if ns.length < 64 then some (.lst ((sortI ns).map D.int)) else none
    | none => none
def setSortD : D → Option D
  | .lst xs => (strsD xs).bind fun ks => if ks.length < 64 then some (.lst ((sortS (onceS ks)).map D.str)) else none
  | _ => none
def setLenD : D → Option D
  | .lst xs => (strsD xs).bind fun ks => if ks.length < 64 then some (.int (onceS ks).length) else none
  | _ => none
def keySortD : D → Option D
  | .dct kvs => (strsD (kvs.map fun kv => Ky.d kv.1)).bind fun ks => if ks.length < 64 then some (.lst ((sortS ks).map D.str)) else none
  | _ => none
def sortedD : D → S → Option D
  | .lst xs, _ => sortedL xs
  | .dct kvs, _ => keySortD (.dct kvs)
  | _, _ => none
def keysD : D → Option (List D)
  | .dct kvs => some (kvs.map fun kv => Ky.d kv.1)
  | _ => none
def pairD : D → Option (Ky × D)
  | .tup [k, v] => (keyD k).map fun k => (k, v)
  | _ => none
def pairsD : List D → Option (List (Ky × D))
  | [] => some []
  | d :: r => (pairD d).bind fun p => (pairsD r).map (p :: ·)
def dictD : D → S → Option D
  | .lst xs, _ => (pairsD xs).bind fun ps => if ps.length ≤ 1000 then some (.dct (mergeK [] ps)) else none
  | .dct kvs, _ => some (.dct kvs)
  | _, _ => none
def one1 (f : D → S → Option D) : List D → S → Option D
  | [x], s => f x s
  | _, _ => none
def two2 (f : D → D → S → Option D) : List D → S → Option D
  | [x, y], s => f x y s
  | _, _ => none
def bifD : Bf → List D → S → Option D
  | .len => one1 lenD
  | .abs => one1 absD
  | .sum => one1 sumD
  | .all => one1 allD
  | .any => one1 anyD
  | .max2 => two2 max2D
  | .min2 => two2 min2D
  | .int => one1 intD
  | .tuple => one1 tupleD
  | .list => one1 listD
  | .sorted => one1 sortedD
  | .dict => one1 dictD
  | _ => fun _ _ => none

def isiD : D → Ty → Option Bool
  | .non, .cls _ => none
  | .non, _ => some false
  | .bl _, .bool => some true
  | .bl _, .int => some true
  | .bl _, .cls _ => none
  | .bl _, _ => some false
  | .int _, .int => some true
  | .int _, .cls _ => none
  | .int _, _ => some false
  | .str _, .str => some true
  | .str _, .cls _ => none
  | .str _, _ => some false
  | .tup _, .tuple => some true
  | .tup _, .cls _ => none
  | .tup _, _ => some false
  | .lst _, .list => some true
  | .lst _, .cls _ => none
  | .lst _, _ => some false
  | .dct _, .dict => some true
  | .dct _, .cls _ => none
  | .dct _, _ => some false
  | _, _ => none

/-- the same, errors too -/
def isiE (sub : Nat → Nat → Option Bool) (d : D) (t : Ty) : Option Bool := match d, t with
  | .exc c, .cls c' => sub c c'
  | .exc c, .ve => (sub c c).map fun _ => true
  | d, t => isiD d t
/-- whose methods they are -/
def mthT : Mt → D → Bool
  | .index, .lst _ => true
  | .count, .lst _ => true
  | _, _ => false
/-- methods that change nothing -/
def mthD : Mt → D → List D → Option D
  | .index, .lst xs, [y] => if y.pl 8 && xs.all (D.pl 8) then (xs.findIdx? fun x => D.eqv x y).map fun (i : Nat) => D.int (i : Int) else none
  | .count, .lst xs, [y] => if y.pl 8 && xs.all (D.pl 8) then some (.int (xs.countP fun x => D.eqv x y : Nat)) else none
  | _, _, _ => none
/-- what is walked -/
def signsD (x : Str) : List D := x.cps.toList.map fun c => .str ⟨#[c]⟩
def itemsD : D → Option (List D)
  | .lst xs => some xs
  | .tup xs => some xs
  | .str x => if x.length ≤ 1000 then some (signsD x) else none
  | _ => none
def rangeD (lo hi : Int) : List D := (List.range (hi - lo).toNat).map fun (i : Nat) => .int (lo + i)
def rngD : D → D → Option (List D)
  | .int i, .int j => if i.natAbs ≤ SZ ∧ j.natAbs ≤ SZ then some (rangeD i j) else none
  | _, _ => none

/-! ### the core syntax -/
inductive Tgt where
  | nm (i : Nat)
  | tp (is : List Nat)
  deriving DecidableEq
inductive Cst where
  | non | bl (b : Bool) | int (i : Int) | str (x : Str)
def Cst.d : Cst → D
  | .non => .non
  | .bl b => .bl b
  | .int i => .int i
  | .str x => .str x
mutual
inductive CE where
  | cst (c : Cst)
  | var (i : Nat)
  | glo (g : Nat)
  | bin (o : Op) (a b : CE)
  | neg (a : CE)
  | not (a : CE)
  | cmp (o : Cm) (a b : CE)
  | chn (o p : Cm) (a b c : CE)
  | and (a b : CE)
  | or (a b : CE)
  | ite (t a b : CE)
  | tup (es : CEs)
  | lst (es : CEs)
  | idx (a i : CE)
  | slc (a lo hi : CE)
  | rev (a : CE)
  | call (f : Nat) (es : CEs)
  | bif (f : Bf) (es : CEs)
  | isi (a : CE) (t : Ty)
  | comp (tg : Tgt) (it : CE) (ifs : CE) (elt : CE)
  | compR (tg : Tgt) (lo hi : CE) (ifs : CE) (elt : CE)
  | mth (m : Mt) (a : CE) (es : CEs)
  | oidx (i : Nat) (e : CE)
  | olen (i : Nat)
  | dct0
  | odix (i : Nat) (e : CE)
  | ssort (a : CE)
  | slen (a : CE)
  | ksort (a : CE)
  | klist (a : CE)
  | compK (tg : Tgt) (a : CE) (ifs : CE) (elt : CE)
  | rngl (lo hi : CE)
  | dctd (k : Cst) (a : CE)
  | callO (f g : Nat) (es : CEs)
inductive CEs where
  | nil
  | cons (e : CE) (es : CEs)
end

def CE.isAnd : CE → Bool
  | .and _ _ => true
  | _ => false
def CE.isOr : CE → Bool
  | .or _ _ => true
  | _ => false
def CE.isIte : CE → Bool
  | .ite _ _ _ => true
  | _ => false
def CE.isTrue : CE → Bool
  | .cst (.bl true) => true
  | _ => false
def CE.isZero : CE → Bool
  | .cst (.int 0) => true
  | _ => false
def CE.isNon : CE → Bool
  | .cst .non => true
  | _ => false

/-! ### slots -/
inductive Sl where
  | un
  | dat (d : D)
  | own (ds : List D)
  | ownD (kvs : List ((Int ⊕ Str) × D))
abbrev G := List Sl
def G.rd (g : G) (i : Nat) : Option D := match g[i]? with
  | some (.dat d) => some d
  | _ => none
def setAll : G → List Nat → List D → Option G
  | g, [], ds => match ds with | [] => some g | _ :: _ => none
  | g, i :: is, ds => match ds with | [] => none | d :: r => setAll (g.set i (.dat d)) is r
def setT (g : G) (d : D) : Tgt → Option G
  | .nm i => some (g.set i (.dat d))
  | .tp is => match d with | .tup ds => setAll g is ds | .lst ds => setAll g is ds | _ => none
def frzS : Sl → Sl
  | .own ds => .dat (.lst ds)
  | s => s
/-- the slots L are shared from here on -/
def frz (g : G) : List Nat → G
  | [] => g
  | i :: L => frz (match g[i]? with | some s => g.set i (frzS s) | none => g) L

/-- a list in a slot, our own or not -/
def ownL : Option Sl → Option (List D)
  | some (.own ds) => some ds
  | some (.dat (.lst ds)) => some ds
  | _ => none
/-- a dict in a slot, our own or not -/
def ownDc : Option Sl → Option (List (Ky × D))
  | some (.ownD ds) => some ds
  | some (.dat (.dct ds)) => some ds
  | _ => none
def cstK : Cst → Option Ky
  | .int i => some (.inl i)
  | .str x => some (.inr x)
  | _ => none
/-! ### the evaluator -/
abbrev Fs := Nat → List D → S → EV D
def compL (f : D → S → EV (Option D)) : List D → S → EV (List D)
  | [], s => some (.ok [], s)
  | d :: ds, s => match f d s with
    | some (.ok none, s1) => compL f ds s1
    | some (.ok (some e), s1) => rb (compL f ds s1) fun es s2 => some (.ok (e :: es), s2)
    | _ => none
/-- where no error may leave -/
def nox {α : Type} : EV α → EV α
  | some (.exn _, _) => none
  | o => o
def tru (d : D) (s : S) : EV Bool := rp d.truth s

/-- what is called, the module's constants, which error is one of which class -/
structure En where
  Φ : Fs
  gl : Nat → D
  sub : Nat → Nat → Option Bool
  ΦF : Fs
  ΦO : Fs
section
variable (en : En)
mutual
def evE : CE → G → S → EV D
  | .cst c, _, s => some (.ok c.d, s)
  | .var i, g, s => rp (g.rd i) s
  | .glo i, _, s => some (.ok (en.gl i), s)
  | .bin o a b, g, s => rb (evE a g s) fun x s => rb (evE b g s) fun y s => rp (binD o x y) s
  | .neg a, g, s => rb (evE a g s) fun x s => rp (match x with | .int i => some (.int (-i)) | _ => none) s
  | .not a, g, s => rb (evE a g s) fun x s => rb (tru x s) fun b s => some (.ok (.bl (!b)), s)
  | .cmp o a b, g, s => rb (evE a g s) fun x s => rb (evE b g s) fun y s => rp ((cmpD o x y).map D.bl) s
  | .chn o p a b c, g, s => rb (evE a g s) fun x s => rb (evE b g s) fun y s => rb (rp (cmpD o x y) s) fun k s =>
      if k then rb (evE c g s) fun z s => rp ((cmpD p y z).map D.bl) s else some (.ok (.bl false), s)
  | .and a b, g, s => rb (evE a g s) fun x s => rb (tru x s) fun t s => if t then evE b g s else some (.ok x, s)
  | .or a b, g, s => rb (evE a g s) fun x s => rb (tru x s) fun t s => if t then some (.ok x, s) else evE b g s
  | .ite t a b, g, s => rb (evE t g s) fun x s => rb (tru x s) fun t s => if t then evE a g s else evE b g s
  | .tup es, g, s => rb (evEs es g s) fun ds s => if ds.length ≤ SZ then some (.ok (.tup ds), s) else none
  | .lst es, g, s => rb (evEs es g s) fun ds s => if ds.length ≤ SZ then some (.ok (.lst ds), s) else none
  | .idx a i, g, s => rb (evE a g s) fun x s => rb (evE i g s) fun y s => rp (idxD x y) s
  | .slc a lo hi, g, s => rb (evE a g s) fun x s =>
      rb (if lo.isNon then some (.ok none, s) else rb (evE lo g s) fun l s => rp (partD l) s) fun l s =>
      rb (if hi.isNon then some (.ok none, s) else rb (evE hi g s) fun h s => rp (partD h) s) fun h s => rp (slcD x l h) s
  | .rev a, g, s => rb (evE a g s) fun x s => rp (revD x) s
  | .call f es, g, s => rb (evEs es g s) fun ds s => en.Φ f ds s
  | .bif f es, g, s => rb (evEs es g s) fun ds s => rp (bifD f ds s) s
  | .isi a t, g, s => rb (evE a g s) fun x s => rp ((isiE en.sub x t).map D.bl) s
  | .comp tg it ifs elt, g, s => rb (evE it g s) fun x s => rb (rp (itemsD x) s) fun ds s => rb (compL (fun d s =>
      match setT g d tg with
      | none => none
      | some g1 => rb (evE ifs g1 s) fun c s => rb (tru c s) fun t s => if t then rb (evE elt g1 s) fun e s => some (.ok (some e), s) else some (.ok none, s)) ds s)
      fun es s => if es.length ≤ SZ then some (.ok (.lst es), s) else none
  | .compR tg lo hi ifs elt, g, s => rb (evE lo g s) fun x s => rb (evE hi g s) fun y s => rb (rp (rngD x y) s) fun ds s => rb (compL (fun d s =>
      match setT g d tg with
      | none => none
      | some g1 => rb (evE ifs g1 s) fun c s => rb (tru c s) fun t s => if t then rb (evE elt g1 s) fun e s => some (.ok (some e), s) else some (.ok none, s)) ds s)
      fun es s => if es.length ≤ SZ then some (.ok (.lst es), s) else none
  | .mth m a es, g, s => rb (evE a g s) fun x s => if mthT m x then rb (evEs es g s) fun ds s => rp (mthD m x ds) s else none
  | .oidx i e, g, s => (match ownL g[i]? with
      | some ds => rb (evE e g s) fun y s => rp (match y with | .int k => atL ds k | _ => none) s
      | none => none)
  | .olen i, g, s => rp ((ownL g[i]?).map fun ds => .int ds.length) s
  | .dct0, _, s => some (.ok (.dct []), s)
  | .odix i e, g, s => (match ownDc g[i]? with
      | some kvs => rb (evE e g s) fun y s => rp ((keyD y).bind (getK kvs)) s
      | none => none)
  | .ssort a, g, s => rb (evE a g s) fun x s => rp (setSortD x) s
  | .slen a, g, s => rb (evE a g s) fun x s => rp (setLenD x) s
  | .ksort a, g, s => rb (evE a g s) fun x s => rp (keySortD x) s
  | .klist a, g, s => rb (evE a g s) fun x s => rp ((keysD x).map D.lst) s
  | .compK tg it ifs elt, g, s => rb (evE it g s) fun x s => rb (rp (keysD x) s) fun ds s => rb (compL (fun d s =>
      match setT g d tg with
      | none => none
      | some g1 => rb (evE ifs g1 s) fun c s => rb (tru c s) fun t s => if t then rb (evE elt g1 s) fun e s => some (.ok (some e), s) else some (.ok none, s)) ds s)
      fun es s => if es.length ≤ SZ then some (.ok (.lst es), s) else none
  | .rngl lo hi, g, s => rb (evE lo g s) fun x s => rb (evE hi g s) fun y s => rp ((rngD x y).map D.lst) s
  | .dctd k a, g, s => rb (evE a g s) fun x s => rp ((cstK k).map fun k => .dct [(k, x)]) s
  | .callO f h es, g, s => rb (evEs es g s) fun ds s => rb (en.ΦF h ds s) fun d s => en.ΦO f [d] s
def evEs : CEs → G → S → EV (List D)
  | .nil, _, s => some (.ok [], s)
  | .cons e es, g, s => rb (evE e g s) fun d s => rb (evEs es g s) fun ds s => some (.ok (d :: ds), s)
end
end

/-! ### statements -/
/-- what an except suite does: the error caught in slot i is put into slot k; or a constant is -/
inductive Hd where
  | exc (i k : Nat)
  | cst (k : Nat) (c : Cst)
mutual
inductive CS where
  | asg (L : List Nat) (i : Nat) (e : CE)
  | own (L : List Nat) (i : Nat) (e : CE)
  | oif (i : Nat) (t : CE) (e : CE)
  | tas (L : List Nat) (is : List Nat) (e : CE)
  | par (L : List Nat) (is : List Nat) (es : CEs)
  | app (L : List Nat) (i : Nat) (e : CE)
  | tap (i : Nat)
  | ext (L : List Nat) (i : Nat) (e : CE)
  | pop (i : Nat)
  | pop0 (i : Nat) (is : List Nat)
  | popk (L : List Nat) (i : Nat) (e : CE)
  | swp (i a b : Nat)
  | lkd (i : Nat)
  | sti (L : List Nat) (i : Nat) (e v : CE)
  | ex (L : List Nat) (e : CE)
  | ifs (L : List Nat) (t : CE) (a b : CSs)
  | for_ (L : List Nat) (tg : Tgt) (it : CE) (b : CSs)
  | forR (L : List Nat) (tg : Tgt) (lo hi : CE) (b : CSs)
  | forK (L : List Nat) (tg : Tgt) (it : CE) (b : CSs)
  | whl (L : List Nat) (t : CE) (b : CSs)
  | ret (L : List Nat) (e : CE)
  | rtn
  | rse (c : Nat)
  | tr (L : List Nat) (j : Nat) (e : CE) (c : Nat) (h : Hd)
  | pas
  | cnt
  | brk
inductive CSs where
  | nil
  | cons (c : CS) (cs : CSs)
end

inductive Fl where
  | nx (g : G)
  | rt (d : D)
  | ct (g : G)
  | bk (g : G)

def forL (tg : Tgt) (b : G → S → EV Fl) : List D → G → S → EV Fl
  | [], g, s => some (.ok (.nx g), s)
  | d :: ds, g, s => match setT g d tg with
    | none => none
    | some g1 => rb (b g1 s) fun f s1 => match f with
      | .nx g2 => forL tg b ds g2 s1
      | .ct g2 => forL tg b ds g2 s1
      | .bk g2 => some (.ok (.nx g2), s1)
      | .rt d => some (.ok (.rt d), s1)
def whF (t : G → S → EV Bool) (b : G → S → EV Fl) : Nat → G → S → EV Fl
  | 0, _, _ => none
  | n + 1, g, s => rb (t g s) fun c s => if c then rb (b g s) fun f s1 => (match f with
      | .nx g2 => whF t b n g2 s1
      | .ct g2 => whF t b n g2 s1
      | .bk g2 => some (.ok (.nx g2), s1)
      | .rt d => some (.ok (.rt d), s1)) else some (.ok (.nx g), s)
theorem whF_mono (t : G → S → EV Bool) (b : G → S → EV Fl) : ∀ (n : Nat) (g : G) (s : S) (r : R Fl × S), whF t b n g s = some r → whF t b (n + 1) g s = some r
  | 0, _, _, _, h => by cases h
  | n + 1, g, s, r, h => by
    rw [whF] at h ⊢
    cases e : t g s with
    | none => rw [e] at h; cases h
    | some p =>
      rw [e] at h
      obtain ⟨c, s1⟩ := p
      cases c with
      | exn c => exact h
      | ok c =>
        cases c with
        | false => exact h
        | true =>
          simp only [rb_ok, if_true] at h ⊢
          cases e2 : b g s1 with
          | none => rw [e2] at h; cases h
          | some p =>
            rw [e2] at h
            obtain ⟨f, s2⟩ := p
            cases f with
            | exn c => exact h
            | ok f =>
              cases f with
              | nx g2 => exact whF_mono t b n g2 s2 r h
              | ct g2 => exact whF_mono t b n g2 s2 r h
              | bk g2 => exact h
              | rt d => exact h
theorem whF_le (t : G → S → EV Bool) (b : G → S → EV Fl) {n m : Nat} {g : G} {s : S} {r : R Fl × S} (h : n ≤ m) (e : whF t b n g s = some r) : whF t b m g s = some r := by
  induction h with
  | refl => exact e
  | step _ ih => exact whF_mono t b _ g s r ih
open Classical in
noncomputable def whO (t : G → S → EV Bool) (b : G → S → EV Fl) (g : G) (s : S) : EV Fl :=
  if h : ∃ (r : R Fl × S) (n : Nat), whF t b n g s = some r then some (Classical.choose h) else none
theorem whO_of {t : G → S → EV Bool} {b : G → S → EV Fl} {g : G} {s : S} {r : R Fl × S} {n : Nat} (h : whF t b n g s = some r) : whO t b g s = some r := by
  unfold whO
  have hx : ∃ (r : R Fl × S) (n : Nat), whF t b n g s = some r := ⟨r, n, h⟩
  rw [dif_pos hx]
  obtain ⟨m, e⟩ := Classical.choose_spec hx
  have e1 := whF_le t b (Nat.le_max_left n m) h
  have e2 := whF_le t b (Nat.le_max_right n m) e
  exact e2.symm.trans e1
theorem whO_fuel {t : G → S → EV Bool} {b : G → S → EV Fl} {g : G} {s : S} {r : R Fl × S} (h : whO t b g s = some r) : ∃ n, whF t b n g s = some r := by
  unfold whO at h
  split at h
  · rename_i hx
    obtain ⟨m, e⟩ := Classical.choose_spec hx
    cases h
    exact ⟨m, e⟩
  · cases h

section
variable (en : En)
/-- an expression at a statement's head, the slots L shared meanwhile, and from then on if a list comes of it -/
def exE (L : List Nat) (e : CE) (g : G) (s : S) (k : D → G → S → EV Fl) : EV Fl :=
  rb (evE en e (frz g L) s) fun d s => k d (if d.lf then g else frz g L) s
def testE (L : List Nat) (e : CE) (g : G) (s : S) : EV Bool := rb (evE en e (frz g L) s) fun d s => tru d s
def owned (g : G) (i : Nat) (k : EV Fl) : EV Fl := match g[i]? with
  | some (.own _) => k
  | _ => none
/-- whether a slot holds something of our own -/
def ownB : Option Sl → Bool
  | some (.own _) => true
  | some (.ownD _) => true
  | _ => false
def ownDB : Option Sl → Bool
  | some (.ownD _) => true
  | _ => false
def appO (g : G) (i : Nat) (f : List D → Option (List D)) : Option G := match g[i]? with
  | some (.own ds) => (f ds).map fun es => g.set i (.own es)
  | _ => none
def appF (d : D) (ds : List D) : Option (List D) := if ds.length < SZ then some (ds ++ [d]) else none
def extF (d : D) (ds : List D) : Option (List D) := match d with
  | .lst es => if ds.length + es.length < SZ then some (ds ++ es) else none
  | _ => none
def setL (ds : List D) (i : Int) (v : D) : Option (List D) :=
  if 0 ≤ i ∧ i < ds.length then some (ds.set i.toNat v) else if i < 0 ∧ -(ds.length : Int) ≤ i then some (ds.set (i + ds.length).toNat v) else none
/-- the items at two places exchanged -/
def swpL (ds : List D) (i j : Int) : Option (List D) := match atL ds j, atL ds i with
  | some x, some y => (setL ds i x).bind fun es => setL es j y
  | _, _ => none
/-- an error of a try's body, looked at by its clause -/
def trK (sub : Nat → Nat → Option Bool) (c : Nat) (h : Hd) (g : G) (o : EV Fl) : EV Fl := match o with
  | some (.exn c', s1) => (match sub c' c, h with
      | some true, .exc i k => some (.ok (.nx (((g.set i .un).set k (.dat (.exc c'))).set i .un)), s1)
      | some true, .cst k v => some (.ok (.nx (g.set k (.dat v.d))), s1)
      | some false, _ => some (.exn c', s1)
      | none, _ => none)
  | o => o
mutual
noncomputable def evS : CS → G → S → EV Fl
  | .asg L i e, g, s => exE en L e g s fun d g s => some (.ok (.nx (g.set i (.dat d))), s)
  | .own L i e, g, s => rb (evE en e (frz g L) s) fun d s => match d with
      | .lst ds => some (.ok (.nx ((if D.lfL ds then g else frz g L).set i (.own ds))), s)
      | .dct ks => some (.ok (.nx ((if D.lfL (ks.map (·.2)) then g else frz g L).set i (.ownD ks))), s)
      | _ => none
  | .oif i t e, g, s => rb (testE en [] t g s) fun c s => if c then (rb (evE en e (frz g []) s) fun d s => match d with
      | .lst ds => some (.ok (.nx ((if D.lfL ds then g else frz g []).set i (.own ds))), s)
      | .dct ks => some (.ok (.nx ((if D.lfL (ks.map (·.2)) then g else frz g []).set i (.ownD ks))), s)
      | _ => none) else (match ownL g[i]? with
      | some _ => some (.ok (.nx g), s)
      | none => none)
  | .tas L is e, g, s => exE en L e g s fun d g s => rb (rp (setT g d (.tp is)) s) fun g s => some (.ok (.nx g), s)
  | .par L is es, g, s => rb (evEs en es (frz g L) s) fun ds s => rb (rp (setAll (if D.lfL ds then g else frz g L) is ds) s) fun g s => some (.ok (.nx g), s)
  | .app L i e, g, s => owned g i (exE en L e g s fun d g s => rb (rp (appO g i (appF d)) s) fun g s => some (.ok (.nx g), s))
  | .tap i, g, s => match g[i]?, s with
      | some (.dat .town), some n => if n < SZ then some (.ok (.nx g), some (n + 1)) else none
      | _, _ => none
  | .ext L i e, g, s => owned g i (exE en L e g s fun d g s => rb (rp (appO g i (extF d)) s) fun g s => some (.ok (.nx g), s))
  | .pop i, g, s => rb (rp (appO g i fun ds => match ds with | [] => none | _ :: _ => some ds.dropLast) s) fun g s => some (.ok (.nx g), s)
  | .pop0 i is, g, s => (match g[i]? with
      | some (.own (d :: ds)) => rb (rp (setT (g.set i (.own ds)) d (.tp is)) s) fun g s => some (.ok (.nx g), s)
      | _ => none)
  | .sti L i e v, g, s => if ownB g[i]? then rb (evE en v (frz g L) s) fun d s => rb (evE en e (frz g L) s) fun j s => (match (if d.lf && j.lf then g else frz g L)[i]?, j with
      | some (.own ds), .int k => rb (rp (setL ds k d) s) fun ds s => some (.ok (.nx ((if d.lf && j.lf then g else frz g L).set i (.own ds))), s)
      | some (.ownD ks), _ => rb (rp (keyD j) s) fun k s => if ks.length < SZ then some (.ok (.nx ((if d.lf && j.lf then g else frz g L).set i (.ownD (putK ks k d)))), s) else none
      | _, _ => none) else none
  | .lkd i, g, s => some (.ok (.nx (match g[i]? with | some (.ownD ks) => g.set i (.dat (.dct ks)) | _ => g)), s)
  | .popk L i e, g, s => if ownDB g[i]? then rb (evE en e (frz g L) s) fun j s => (match (if j.lf then g else frz g L)[i]? with
      | some (.ownD ks) => rb (rp (keyD j) s) fun k s => if (getK ks k).isSome then some (.ok (.nx ((if j.lf then g else frz g L).set i (.ownD (dropK ks k)))), s) else none
      | _ => none) else none
  | .swp i a b, g, s => (match g[i]?, g.rd a, g.rd b with
      | some (.own ds), some (.int p), some (.int q) => rb (rp (swpL ds p q) s) fun ds s => some (.ok (.nx (g.set i (.own ds))), s)
      | _, _, _ => none)
  | .ex L e, g, s => exE en L e g s fun _ g s => some (.ok (.nx g), s)
  | .ifs L t a b, g, s => rb (testE en L t g s) fun c s => if c then evSs a g s else evSs b g s
  | .for_ L tg it b, g, s => rb (evE en it (frz g L) s) fun x s => rb (rp (itemsD x) s) fun ds s => forL tg (evSs b) ds (frz g L) s
  | .forR L tg lo hi b, g, s => rb (evE en lo (frz g L) s) fun x s => rb (evE en hi (frz g L) s) fun y s => rb (rp (rngD x y) s) fun ds s => forL tg (evSs b) ds (frz g L) s
  | .forK L tg it b, g, s => rb (evE en it (frz g L) s) fun x s => rb (rp (keysD x) s) fun ds s => forL tg (evSs b) ds (frz g L) s
  | .whl L t b, g, s => whO (testE en L t) (evSs b) g s
  | .ret L e, g, s => exE en L e g s fun d _ s => some (.ok (.rt d), s)
  | .rtn, _, s => some (.ok (.rt .non), s)
  | .rse c, _, s => some (.exn c, s)
  | .tr L j e c h, g, s => trK en.sub c h g (exE en L e g s fun d g s => some (.ok (.nx (g.set j (.dat d))), s))
  | .pas, g, s => some (.ok (.nx g), s)
  | .cnt, g, s => some (.ok (.ct g), s)
  | .brk, g, s => some (.ok (.bk g), s)
noncomputable def evSs : CSs → G → S → EV Fl
  | .nil, g, s => some (.ok (.nx g), s)
  | .cons c cs, g, s => rb (evS c g s) fun f s => match f with
      | .nx g => evSs cs g s
      | f => some (.ok f, s)
end
end

/-! ### a text's defs -/
structure Fd where
  name : Str
  ps : List Str
  N : List Str
  body : CSs
def startG (n : Nat) (ds : List D) : G := ds.map Sl.dat ++ List.replicate (n - ds.length) .un
def runB (o : EV Fl) : EV D := rb o fun f s => match f with
  | .nx _ => some (.ok .non, s)
  | .rt d => some (.ok d, s)
  | _ => none
structure Tb where
  fs : Nat → Option Fd
  gl : Nat → D
  gn : Nat → Option Str
  sub : Nat → Nat → Option Bool
  cn : Nat → Option Str
/-- a body that ends by handing its own list out: what is ahead, the list's slot -/
def unret : CSs → Option (CSs × Nat)
  | .nil => none
  | .cons c cs => (match c, cs with
      | .ret [i] (.var j), .nil => if i = j then some (.nil, i) else none
      | c, cs => (unret cs).map fun p => (.cons c p.1, p.2))
def runF (i : Nat) (o : EV Fl) : EV D := rb o fun f s => match f with
  | .nx g => (match g[i]? with | some (.own ds) => some (.ok (.lst ds), s) | _ => none)
  | _ => none
def startO (n : Nat) (ds : List D) : G := match ds with
  | [.lst xs] => (startG n ds).set 0 (.own xs)
  | _ => []
noncomputable def sem3 (tb : Tb) : Nat → Fs × Fs × Fs
  | 0 => (fun _ _ _ => none, fun _ _ _ => none, fun _ _ _ => none)
  | k + 1 => (fun f ds s => match tb.fs f with
      | none => none
      | some fd => if ds.length = fd.ps.length then runB (evSs ⟨(sem3 tb k).1, tb.gl, tb.sub, (sem3 tb k).2.1, (sem3 tb k).2.2⟩ fd.body (startG fd.N.length ds) s) else none,
    fun f ds s => match tb.fs f with
      | none => none
      | some fd => match unret fd.body with
        | none => none
        | some p => if ds.length = fd.ps.length then runF p.2 (evSs ⟨(sem3 tb k).1, tb.gl, tb.sub, (sem3 tb k).2.1, (sem3 tb k).2.2⟩ p.1 (startG fd.N.length ds) s) else none,
    fun f ds s => match tb.fs f with
      | none => none
      | some fd => if fd.ps.length = 1 then (match ds with
        | [.lst xs] => runB (evSs ⟨(sem3 tb k).1, tb.gl, tb.sub, (sem3 tb k).2.1, (sem3 tb k).2.2⟩ fd.body (startO fd.N.length ds) s)
        | _ => none) else none)
noncomputable def sem (tb : Tb) (k : Nat) : Fs := (sem3 tb k).1
noncomputable def semF (tb : Tb) (k : Nat) : Fs := (sem3 tb k).2.1
noncomputable def semO (tb : Tb) (k : Nat) : Fs := (sem3 tb k).2.2
noncomputable abbrev enOf (tb : Tb) (k : Nat) : En := ⟨sem tb k, tb.gl, tb.sub, semF tb k, semO tb k⟩
theorem sem_succ (tb : Tb) (k f : Nat) (ds : List D) (s : S) : sem tb (k + 1) f ds s = match tb.fs f with
    | none => none
    | some fd => if ds.length = fd.ps.length then runB (evSs (enOf tb k) fd.body (startG fd.N.length ds) s) else none := rfl
theorem semF_succ (tb : Tb) (k f : Nat) (ds : List D) (s : S) : semF tb (k + 1) f ds s = match tb.fs f with
    | none => none
    | some fd => match unret fd.body with
      | none => none
      | some p => if ds.length = fd.ps.length then runF p.2 (evSs (enOf tb k) p.1 (startG fd.N.length ds) s) else none := rfl
theorem semO_succ (tb : Tb) (k f : Nat) (ds : List D) (s : S) : semO tb (k + 1) f ds s = match tb.fs f with
    | none => none
    | some fd => if fd.ps.length = 1 then (match ds with
      | [.lst xs] => runB (evSs (enOf tb k) fd.body (startO fd.N.length ds) s)
      | _ => none) else none := rfl
theorem sem_zero (tb : Tb) (f : Nat) (ds : List D) (s : S) : sem tb 0 f ds s = none := rfl
/-- the law's slots behind its first statement, the town in slot i -/
def lawG (n i : Nat) (ns : List Int) : G := (startG n [.scr ns]).set i (.dat .town)
end FR
/-! FrTb: a claim's table. -/
namespace FR
open PySem (Str)
structure DfC where
  id : Nat
  pos : Nat
  fd : Fd
structure GlC where
  id : Nat
  name : Str
  val : Cst
structure TuC where
  id : Nat
  name : Str
  vals : List Cst
def tuFind (ts : List TuC) (i : Nat) : Option TuC := ts.find? fun d => d.id == i
def fsOf (ds : List DfC) (f : Nat) : Option Fd := (ds.find? fun d => d.id == f).map DfC.fd
def glFind (gs : List GlC) (i : Nat) : Option GlC := gs.find? fun d => d.id == i
def cnOf (cs : List (Nat × Str)) (c : Nat) : Option Str := (cs.find? fun d => d.1 == c).map (·.2)
/-- all errors are below class 0, none below another -/
def isSub (c c' : Nat) : Bool := c' == 0 || c == c'
def mkTb (ds : List DfC) (gs : List GlC) (ts : List TuC) (cs : List (Nat × Str)) : Tb where
  fs := fsOf ds
  gl := fun i => match glFind gs i with
    | some g => g.val.d
    | none => match tuFind ts i with
      | some t => .tup (t.vals.map Cst.d)
      | none => .non
  gn := fun i => match glFind gs i with
    | some g => some g.name
    | none => (tuFind ts i).map TuC.name
  sub := fun c c' => if (cnOf cs c).isSome && (cnOf cs c').isSome then some (isSub c c') else none
  cn := cnOf cs
class Has (tb : Tb) (f : Nat) (body : outParam CSs) (n p : outParam Nat) : Prop where
  h : ∃ fd : Fd, tb.fs f = some fd ∧ fd.body = body ∧ fd.N.length = n ∧ fd.ps.length = p
class HasG (tb : Tb) (i : Nat) (d : outParam D) : Prop where
  h : tb.gl i = d
/-- all the errors' classes are of the table -/
class HasS (tb : Tb) : Prop where
  h : ∀ c d : Fin 9, tb.sub c.val d.val = some (isSub c.val d.val)
theorem sem_of {tb : Tb} {f : Nat} {body : CSs} {n p : Nat} [H : Has tb f body n p] {k : Nat} {ds : List D} {s : S} (h : ds.length = p) : sem tb (k + 1) f ds s = runB (evSs (enOf tb k) body (startG n ds) s) := by
  obtain ⟨fd, e, rfl, rfl, rfl⟩ := H.h
  rw [sem_succ, e]
  exact if_pos h
def LawT (tb : Tb) (fd : Fd) (i k : Nat) : Prop := ∀ ns : List Int, ns.length ≤ 63 → ∃ s', runB (evSs (enOf tb k) fd.body (lawG fd.N.length i ns) (some 0)) = some (.ok (.bl true), s')
end FR
/-! FrSort: texts and ints in order, each once. -/
namespace FR
open PySem (Str)
theorem leS_iff {x y : Str} : leS x y = true ↔ ¬ y.cps.toList < x.cps.toList := by
  unfold leS
  rw [Bool.not_eq_true', decide_eq_false_iff_not]
theorem leS_refl (x : Str) : leS x x = true := leS_iff.mpr (List.lt_irrefl _)
theorem leS_total (x y : Str) : leS x y = true ∨ leS y x = true := by
  rw [leS_iff, leS_iff]
  rcases List.le_total x.cps.toList y.cps.toList with h | h
  · exact .inl h
  · exact .inr h
theorem leS_trans {x y z : Str} (h : leS x y = true) (k : leS y z = true) : leS x z = true := by
  rw [leS_iff] at *
  exact List.le_trans h k
theorem leS_anti {x y : Str} (h : leS x y = true) (k : leS y x = true) : x = y := by
  rw [leS_iff] at *
  have e : x.cps.toList = y.cps.toList := List.le_antisymm h k
  obtain ⟨⟨a⟩⟩ := x
  obtain ⟨⟨b⟩⟩ := y
  have e : a = b := e
  rw [e]
/-- in order -/
def SrtS (l : List Str) : Prop := l.Pairwise fun x y => leS x y = true
theorem insS_perm (x : Str) : ∀ l : List Str, (insS x l).Perm (x :: l)
  | [] => List.Perm.refl _
  | y :: r => by
    unfold insS
    split
    · exact List.Perm.refl _
    · exact ((insS_perm x r).cons y).trans (List.Perm.swap x y r)
theorem insS_srt (x : Str) : ∀ {l : List Str}, SrtS l → SrtS (insS x l)
  | [], _ => List.pairwise_singleton _ _
  | y :: r, h => by
    obtain ⟨h1, h2⟩ := List.pairwise_cons.mp h
    unfold insS
    split
    · rename_i hx
      refine List.pairwise_cons.mpr ⟨fun z hz => ?_, h⟩
      rcases List.mem_cons.mp hz with rfl | hz
      · exact hx
      · exact leS_trans hx (h1 z hz)
    · rename_i hx
      refine List.pairwise_cons.mpr ⟨fun z hz => ?_, insS_srt x h2⟩
      rcases List.mem_cons.mp ((insS_perm x r).mem_iff.mp hz) with rfl | hz
      · exact (leS_total z y).resolve_left hx
      · exact h1 z hz
theorem sortS_perm : ∀ l : List Str, (sortS l).Perm l
  | [] => List.Perm.refl _
  | x :: r => (insS_perm x _).trans ((sortS_perm r).cons x)
theorem sortS_srt : ∀ l : List Str, SrtS (sortS l)
  | [] => List.Pairwise.nil
  | x :: r => insS_srt x (sortS_srt r)
theorem perm_uniq {α : Type} {le : α → α → Prop} (anti : ∀ x y, le x y → le y x → x = y) (refl : ∀ x, le x x) : ∀ {l m : List α}, l.Perm m → l.Pairwise le → m.Pairwise le → l = m
  | [], m, p, _, _ => (List.nil_perm.mp p).symm
  | x :: l, [], p, _, _ => absurd p.length_eq (by simp)
  | x :: l, y :: m, p, h, k => by
    obtain ⟨h1, h2⟩ := List.pairwise_cons.mp h
    obtain ⟨k1, k2⟩ := List.pairwise_cons.mp k
    have e : x = y := by
      have a : le x y := by
        rcases List.mem_cons.mp (p.mem_iff.mpr List.mem_cons_self : y ∈ x :: l) with e | z
        · rw [e]
          exact refl _
        · exact h1 y z
      have b : le y x := by
        rcases List.mem_cons.mp (p.mem_iff.mp List.mem_cons_self : x ∈ y :: m) with e | z
        · rw [e]
          exact refl _
        · exact k1 x z
      exact anti x y a b
    subst e
    rw [perm_uniq anti refl (List.Perm.cons_inv p) h2 k2]
theorem srt_uniq {l m : List Str} (p : l.Perm m) (h : SrtS l) (k : SrtS m) : l = m := perm_uniq (fun _ _ => leS_anti) leS_refl p h k
theorem sort_of {l m : List Str} (p : l.Perm m) (h : SrtS l) : l = sortS m := srt_uniq (p.trans (sortS_perm m).symm) h (sortS_srt m)
theorem sortS_of_perm {l m : List Str} (p : l.Perm m) : sortS l = sortS m := sort_of ((sortS_perm l).trans p) (sortS_srt l)
theorem mem_sortS {l : List Str} {x : Str} : x ∈ sortS l ↔ x ∈ l := (sortS_perm l).mem_iff
/-! ints -/
theorem insI_perm (x : Int) : ∀ l : List Int, (insI x l).Perm (x :: l)
  | [] => List.Perm.refl _
  | y :: r => by
    unfold insI
    split
    · exact List.Perm.refl _
    · exact ((insI_perm x r).cons y).trans (List.Perm.swap x y r)
theorem insI_srt (x : Int) : ∀ {l : List Int}, l.Pairwise (· ≤ ·) → (insI x l).Pairwise (· ≤ ·)
  | [], _ => List.pairwise_singleton _ _
  | y :: r, h => by
    obtain ⟨h1, h2⟩ := List.pairwise_cons.mp h
    unfold insI
    split
    · rename_i hx
      refine List.pairwise_cons.mpr ⟨fun z hz => ?_, h⟩
      rcases List.mem_cons.mp hz with rfl | hz
      · exact hx
      · exact Int.le_trans hx (h1 z hz)
    · rename_i hx
      refine List.pairwise_cons.mpr ⟨fun z hz => ?_, insI_srt x h2⟩
      rcases List.mem_cons.mp ((insI_perm x r).mem_iff.mp hz) with rfl | hz
      · omega
      · exact h1 z hz
theorem sortI_perm : ∀ l : List Int, (sortI l).Perm l
  | [] => List.Perm.refl _
  | x :: r => (insI_perm x _).trans ((sortI_perm r).cons x)
theorem sortI_srt : ∀ l : List Int, (sortI l).Pairwise (· ≤ ·)
  | [] => List.Pairwise.nil
  | x :: r => insI_srt x (sortI_srt r)
theorem sortI_of {l m : List Int} (p : l.Perm m) (h : l.Pairwise (· ≤ ·)) : l = sortI m := perm_uniq (le := (· ≤ ·)) (fun _ _ => Int.le_antisymm) Int.le_refl (p.trans (sortI_perm m).symm) h (sortI_srt m)
/-! each once -/
theorem mem_onceS {x : Str} : ∀ {l : List Str}, x ∈ onceS l ↔ x ∈ l
  | [] => Iff.rfl
  | y :: r => by
    unfold onceS
    split
    · rename_i h
      rw [mem_onceS, List.mem_cons]
      exact ⟨.inr, fun z => z.elim (fun e => e ▸ h) id⟩
    · rw [List.mem_cons, List.mem_cons, mem_onceS]
theorem nodup_onceS : ∀ l : List Str, (onceS l).Nodup
  | [] => List.nodup_nil
  | y :: r => by
    unfold onceS
    split
    · exact nodup_onceS r
    · rename_i h
      exact List.nodup_cons.mpr ⟨fun z => h (mem_onceS.mp z), nodup_onceS r⟩
theorem once_perm {l m : List Str} (n : l.Nodup) (h : ∀ x, x ∈ l ↔ x ∈ m) : l.Perm (onceS m) := (List.perm_ext_iff_of_nodup n (nodup_onceS m)).mpr fun x => (h x).trans mem_onceS.symm
theorem once_len (l : List Str) : (onceS l).length ≤ l.length := by
  induction l with
  | nil => exact Nat.le_refl _
  | cons y r ih =>
    unfold onceS
    split
    · simp
      omega
    · simp
      exact ih
end FR
namespace FR
open PySem (Str)
def cb_divisor : CSs := .cons (.whl [] (.var 1) (.cons (.par [] [0, 1] (.cons (.var 1) (.cons (.bin .mod (.var 0) (.var 1)) (.nil)))) (.nil))) (.cons (.ret [] (.bif .abs (.cons (.var 0) (.nil)))) (.nil))
def cb_least : CSs := .cons (.ifs [] (.cmp .lt (.var 1) (.cst (.int 0))) (.cons (.par [] [0, 1] (.cons (.bin .sub (.cst (.int 0)) (.var 0)) (.cons (.bin .sub (.cst (.int 0)) (.var 1)) (.nil)))) (.nil)) (.nil)) (.cons (.asg [] 2 (.call 1 (.cons (.var 0) (.cons (.var 1) (.nil))))) (.cons (.ret [] (.tup (.cons (.bin .fdiv (.var 0) (.var 2)) (.cons (.bin .fdiv (.var 1) (.var 2)) (.nil))))) (.nil)))
def cb_is_whole : CSs := .cons (.ret [] (.and (.isi (.var 0) .int) (.and (.not (.isi (.var 0) .bool)) (.chn .le .le (.var 1) (.var 0) (.var 2))))) (.nil)
def cb_is_leg : CSs := .cons (.ifs [] (.or (.not (.isi (.var 0) .tuple)) (.or (.cmp .ne (.bif .len (.cons (.var 0) (.nil))) (.cst (.int 3))) (.not (.call 3 (.cons (.idx (.var 0) (.cst (.int 2))) (.cons (.cst (.int 1)) (.cons (.glo 4) (.nil)))))))) (.cons (.ret [] (.cst (.bl false))) (.nil)) (.nil)) (.cons (.ret [] (.bif .all (.cons (.comp (.nm 1) (.slc (.var 0) (.cst .non) (.cst (.int 2))) (.cst (.bl true)) (.call 3 (.cons (.var 1) (.cons (.bin .sub (.cst (.int 0)) (.glo 2)) (.cons (.glo 2) (.nil)))))) (.nil)))) (.nil))
def cb_look_legs : CSs := .cons (.ifs [] (.or (.not (.isi (.var 0) .list)) (.or (.not (.chn .le .le (.cst (.int 1)) (.bif .len (.cons (.var 0) (.nil))) (.glo 3))) (.not (.bif .all (.cons (.comp (.nm 1) (.var 0) (.cst (.bl true)) (.call 4 (.cons (.var 1) (.nil)))) (.nil)))))) (.cons (.rse 1) (.nil)) (.nil)) (.nil)
def cb_closing : CSs := .cons (.ex [] (.call 5 (.cons (.var 0) (.nil)))) (.cons (.ret [] (.call 7 (.cons (.var 0) (.nil)))) (.nil))
def cb_closing_of : CSs := .cons (.ret [] (.tup (.cons (.bif .sum (.cons (.comp (.nm 1) (.var 0) (.cst (.bl true)) (.idx (.var 1) (.cst (.int 0)))) (.nil))) (.cons (.bif .sum (.cons (.comp (.nm 1) (.var 0) (.cst (.bl true)) (.idx (.var 1) (.cst (.int 1)))) (.nil))) (.nil))))) (.nil)
def cb_sharpness : CSs := .cons (.ex [] (.call 5 (.cons (.var 0) (.nil)))) (.cons (.tas [] [2, 3] (.call 7 (.cons (.var 0) (.nil)))) (.cons (.asg [] 1 (.bif .sum (.cons (.comp (.nm 4) (.var 0) (.cst (.bl true)) (.idx (.var 4) (.cst (.int 2)))) (.nil)))) (.cons (.ret [] (.call 2 (.cons (.bin .add (.bin .mul (.var 2) (.var 2)) (.bin .mul (.var 3) (.var 3))) (.cons (.bin .mul (.var 1) (.var 1)) (.nil))))) (.nil))))
def cb_w_cell : CSs := .cons (.ifs [] (.var 0) (.cons (.ret [] (.idx (.var 0) (.bin .mod (.var 1) (.bif .len (.cons (.var 0) (.nil)))))) (.nil)) (.nil)) (.cons (.ret [] (.cst (.int 0))) (.nil))
def cb_w_mix : CSs := .cons (.asg [] 2 (.bin .mod (.bin .add (.call 9 (.cons (.var 0) (.cons (.var 1) (.nil)))) (.bin .mul (.cst (.int 104729)) (.bin .add (.var 1) (.cst (.int 1))))) (.cst (.int 4294967291)))) (.cons (.asg [] 2 (.bin .mod (.bin .pow (.var 2) (.cst (.int 5))) (.cst (.int 4294967279)))) (.cons (.ret [] (.bin .mod (.bin .add (.bin .mul (.bin .fdiv (.var 2) (.cst (.int 64))) (.cst (.int 69621))) (.var 2)) (.cst (.int 4294967231)))) (.nil)))
def cb_w_draw : CSs := .cons (.tap 1) (.cons (.ret [] (.bin .mod (.bin .fdiv (.call 10 (.cons (.var 0) (.cons (.bif .len (.cons (.var 1) (.nil))) (.nil)))) (.cst (.int 8))) (.var 2))) (.nil))
def cb_w_pick : CSs := .cons (.ret [] (.idx (.var 2) (.call 11 (.cons (.var 0) (.cons (.var 1) (.cons (.bif .len (.cons (.var 2) (.nil))) (.nil))))))) (.nil)
def cb_w_least : CSs := .cons (.par [] [3, 4] (.cons (.bif .abs (.cons (.var 0) (.nil))) (.cons (.bif .abs (.cons (.var 1) (.nil))) (.nil)))) (.cons (.whl [] (.cmp .gt (.var 4) (.cst (.int 0))) (.cons (.par [] [3, 4] (.cons (.var 4) (.cons (.bin .mod (.var 3) (.var 4)) (.nil)))) (.nil))) (.cons (.asg [] 2 (.ite (.cmp .gt (.var 1) (.cst (.int 0))) (.var 3) (.bin .sub (.cst (.int 0)) (.var 3)))) (.cons (.ret [] (.tup (.cons (.bin .fdiv (.var 0) (.var 2)) (.cons (.bin .fdiv (.var 1) (.var 2)) (.nil))))) (.nil))))
def cb_w_plus : CSs := .cons (.ret [] (.call 13 (.cons (.bin .add (.bin .mul (.idx (.var 0) (.cst (.int 0))) (.idx (.var 1) (.cst (.int 1)))) (.bin .mul (.idx (.var 1) (.cst (.int 0))) (.idx (.var 0) (.cst (.int 1))))) (.cons (.bin .mul (.idx (.var 0) (.cst (.int 1))) (.idx (.var 1) (.cst (.int 1)))) (.nil))))) (.nil)
def cb_w_minus : CSs := .cons (.ret [] (.call 13 (.cons (.bin .sub (.bin .mul (.idx (.var 0) (.cst (.int 0))) (.idx (.var 1) (.cst (.int 1)))) (.bin .mul (.idx (.var 1) (.cst (.int 0))) (.idx (.var 0) (.cst (.int 1))))) (.cons (.bin .mul (.idx (.var 0) (.cst (.int 1))) (.idx (.var 1) (.cst (.int 1)))) (.nil))))) (.nil)
def cb_w_times : CSs := .cons (.ret [] (.call 13 (.cons (.bin .mul (.idx (.var 0) (.cst (.int 0))) (.idx (.var 1) (.cst (.int 0)))) (.cons (.bin .mul (.idx (.var 0) (.cst (.int 1))) (.idx (.var 1) (.cst (.int 1)))) (.nil))))) (.nil)
def cb_w_sum : CSs := .cons (.asg [] 1 (.tup (.cons (.cst (.int 0)) (.cons (.cst (.int 1)) (.nil))))) (.cons (.for_ [] (.nm 2) (.var 0) (.cons (.asg [] 1 (.call 14 (.cons (.var 1) (.cons (.var 2) (.nil))))) (.nil))) (.cons (.ret [] (.var 1)) (.nil)))
def cb_w_legs : CSs := .cons (.asg [] 2 (.call 11 (.cons (.var 0) (.cons (.var 1) (.cons (.cst (.int 5)) (.nil)))))) (.cons (.asg [] 3 (.bin .add (.cst (.int 1)) (.call 11 (.cons (.var 0) (.cons (.var 1) (.cons (.call 12 (.cons (.var 0) (.cons (.var 1) (.cons (.lst (.cons (.cst (.int 4)) (.cons (.cst (.int 4)) (.cons (.cst (.int 8)) (.cons (.cst (.int 8)) (.cons (.cst (.int 40)) (.nil))))))) (.nil))))) (.nil))))))) (.cons (.own [] 4 (.lst (.nil))) (.cons (.forR [] (.nm 5) (.cst (.int 0)) (.var 3) (.cons (.asg [] 6 (.call 12 (.cons (.var 0) (.cons (.var 1) (.cons (.lst (.cons (.bin .sub (.call 11 (.cons (.var 0) (.cons (.var 1) (.cons (.cst (.int 201)) (.nil))))) (.cst (.int 100))) (.cons (.cst (.int 0)) (.cons (.cst (.int 1000000)) (.cons (.bin .sub (.cst (.int 0)) (.cst (.int 1000000))) (.cons (.cst (.int 7)) (.nil))))))) (.nil)))))) (.cons (.asg [] 7 (.call 12 (.cons (.var 0) (.cons (.var 1) (.cons (.lst (.cons (.bin .sub (.call 11 (.cons (.var 0) (.cons (.var 1) (.cons (.cst (.int 201)) (.nil))))) (.cst (.int 100))) (.cons (.cst (.int 0)) (.cons (.bin .sub (.cst (.int 0)) (.cst (.int 1000000))) (.cons (.cst (.int 1)) (.nil)))))) (.nil)))))) (.cons (.asg [] 6 (.ite (.cmp .eq (.var 2) (.cst (.int 1))) (.cst (.int 0)) (.var 6))) (.cons (.asg [] 7 (.ite (.cmp .eq (.var 2) (.cst (.int 2))) (.cst (.int 0)) (.var 7))) (.cons (.app [] 4 (.tup (.cons (.var 6) (.cons (.var 7) (.cons (.call 12 (.cons (.var 0) (.cons (.var 1) (.cons (.lst (.cons (.cst (.int 1)) (.cons (.cst (.int 3)) (.cons (.cst (.int 2000000)) (.cons (.bin .add (.cst (.int 1)) (.call 11 (.cons (.var 0) (.cons (.var 1) (.cons (.cst (.int 500)) (.nil)))))) (.nil)))))) (.nil))))) (.nil)))))) (.nil))))))) (.cons (.ret [4] (.var 4)) (.nil)))))
def cb_w_spot : CSs := .cons (.asg [] 2 (.lst (.cons (.cst (.int 0)) (.cons (.cst (.int 1)) (.cons (.bin .sub (.cst (.int 0)) (.cst (.int 1000000))) (.cons (.cst (.int 1000000)) (.cons (.bin .sub (.call 11 (.cons (.var 0) (.cons (.var 1) (.cons (.cst (.int 301)) (.nil))))) (.cst (.int 150))) (.nil)))))))) (.cons (.ret [] (.tup (.cons (.call 12 (.cons (.var 0) (.cons (.var 1) (.cons (.var 2) (.nil))))) (.cons (.call 12 (.cons (.var 0) (.cons (.var 1) (.cons (.var 2) (.nil))))) (.nil))))) (.nil))
def cb_whole : CSs := .cons (.ret [] (.tup (.cons (.var 0) (.cons (.cst (.int 1)) (.nil))))) (.nil)
def cb_plus : CSs := .cons (.ret [] (.call 2 (.cons (.bin .add (.bin .mul (.idx (.var 0) (.cst (.int 0))) (.idx (.var 1) (.cst (.int 1)))) (.bin .mul (.idx (.var 1) (.cst (.int 0))) (.idx (.var 0) (.cst (.int 1))))) (.cons (.bin .mul (.idx (.var 0) (.cst (.int 1))) (.idx (.var 1) (.cst (.int 1)))) (.nil))))) (.nil)
def cb_look_spot : CSs := .cons (.ifs [] (.or (.not (.isi (.var 0) .tuple)) (.cmp .ne (.bif .len (.cons (.var 0) (.nil))) (.cst (.int 2)))) (.cons (.rse 3) (.nil)) (.nil)) (.cons (.ifs [] (.not (.bif .all (.cons (.comp (.nm 1) (.var 0) (.cst (.bl true)) (.call 3 (.cons (.var 1) (.cons (.bin .sub (.cst (.int 0)) (.glo 2)) (.cons (.glo 2) (.nil)))))) (.nil)))) (.cons (.rse 3) (.nil)) (.nil)) (.nil))
def cb_weights : CSs := .cons (.ifs [] (.cmp .eq (.var 1) (.cst (.str "equal"))) (.cons (.ret [] (.comp (.nm 2) (.var 0) (.cst (.bl true)) (.tup (.cons (.cst (.int 1)) (.cons (.cst (.int 1)) (.nil)))))) (.nil)) (.nil)) (.cons (.ifs [] (.cmp .eq (.var 1) (.cst (.str "long"))) (.cons (.ret [] (.comp (.nm 2) (.var 0) (.cst (.bl true)) (.tup (.cons (.idx (.var 2) (.cst (.int 2))) (.cons (.idx (.var 2) (.cst (.int 2))) (.nil)))))) (.nil)) (.nil)) (.cons (.ret [] (.comp (.nm 2) (.var 0) (.cst (.bl true)) (.tup (.cons (.bif .abs (.cons (.idx (.var 2) (.cst (.int 0))) (.nil))) (.cons (.bif .abs (.cons (.idx (.var 2) (.cst (.int 1))) (.nil))) (.nil)))))) (.nil)))
def cb_look_rule : CSs := .cons (.ifs [] (.or (.not (.isi (.var 0) .str)) (.cmp .nin (.var 0) (.glo 16))) (.cons (.rse 2) (.nil)) (.nil)) (.nil)
def cb_error_to : CSs := .cons (.tas [] [3, 4] (.call 7 (.cons (.var 0) (.nil)))) (.cons (.ret [] (.tup (.cons (.bin .sub (.bin .add (.idx (.var 1) (.cst (.int 0))) (.var 3)) (.idx (.var 2) (.cst (.int 0)))) (.cons (.bin .sub (.bin .add (.idx (.var 1) (.cst (.int 1))) (.var 4)) (.idx (.var 2) (.cst (.int 1)))) (.nil))))) (.nil))
def cb_shares : CSs := .cons (.asg [] 3 (.call 21 (.cons (.var 0) (.cons (.var 1) (.nil))))) (.cons (.own [] 4 (.lst (.nil))) (.cons (.asg [] 5 (.compR (.nm 7) (.cst (.int 0)) (.cst (.int 2)) (.cst (.bl true)) (.bif .sum (.cons (.comp (.nm 6) (.var 3) (.cst (.bl true)) (.idx (.var 6) (.var 7))) (.nil))))) (.cons (.ifs [] (.bif .any (.cons (.compR (.nm 7) (.cst (.int 0)) (.cst (.int 2)) (.cst (.bl true)) (.and (.cmp .eq (.idx (.var 5) (.var 7)) (.cst (.int 0))) (.cmp .ne (.idx (.var 2) (.var 7)) (.cst (.int 0))))) (.nil))) (.cons (.rse 2) (.nil)) (.nil)) (.cons (.for_ [] (.nm 6) (.var 3) (.cons (.app [] 4 (.bif .tuple (.cons (.compR (.nm 7) (.cst (.int 0)) (.cst (.int 2)) (.cst (.bl true)) (.call 2 (.cons (.bin .sub (.cst (.int 0)) (.bin .mul (.idx (.var 2) (.var 7)) (.idx (.var 6) (.var 7)))) (.cons (.bif .max2 (.cons (.cst (.int 1)) (.cons (.idx (.var 5) (.var 7)) (.nil)))) (.nil))))) (.nil)))) (.nil))) (.cons (.ret [4] (.var 4)) (.nil))))))
def cb_look_round : CSs := .cons (.ex [] (.call 5 (.cons (.var 0) (.nil)))) (.cons (.ex [] (.call 22 (.cons (.var 1) (.nil)))) (.cons (.ex [] (.call 20 (.cons (.var 2) (.nil)))) (.cons (.ex [] (.call 20 (.cons (.var 3) (.nil)))) (.nil))))
def cb_shared : CSs := .cons (.ex [] (.call 25 (.cons (.var 0) (.cons (.var 1) (.cons (.var 2) (.cons (.var 3) (.nil))))))) (.cons (.ret [] (.call 24 (.cons (.var 0) (.cons (.var 1) (.cons (.call 23 (.cons (.var 0) (.cons (.var 2) (.cons (.var 3) (.nil))))) (.nil)))))) (.nil))
def cb_put_right : CSs := .cons (.ex [] (.call 25 (.cons (.var 0) (.cons (.var 1) (.cons (.var 2) (.cons (.var 3) (.nil))))))) (.cons (.asg [] 4 (.tup (.cons (.call 31 (.cons (.idx (.var 2) (.cst (.int 0))) (.nil))) (.cons (.call 31 (.cons (.idx (.var 2) (.cst (.int 1))) (.nil))) (.nil))))) (.cons (.own [] 5 (.lst (.cons (.var 4) (.nil)))) (.cons (.asg [] 6 (.call 24 (.cons (.var 0) (.cons (.var 1) (.cons (.call 23 (.cons (.var 0) (.cons (.var 2) (.cons (.var 3) (.nil))))) (.nil)))))) (.cons (.forR [] (.nm 7) (.cst (.int 0)) (.bif .len (.cons (.var 0) (.nil))) (.cons (.asg [] 4 (.bif .tuple (.cons (.compR (.nm 8) (.cst (.int 0)) (.cst (.int 2)) (.cst (.bl true)) (.call 32 (.cons (.call 32 (.cons (.idx (.var 4) (.var 8)) (.cons (.call 31 (.cons (.idx (.idx (.var 0) (.var 7)) (.var 8)) (.nil))) (.nil)))) (.cons (.idx (.idx (.var 6) (.var 7)) (.var 8)) (.nil))))) (.nil)))) (.cons (.app [] 5 (.var 4)) (.nil)))) (.cons (.ret [5] (.var 5)) (.nil))))))
def cb_nearest : CSs := .cons (.ret [] (.bin .fdiv (.bin .add (.bin .mul (.cst (.int 2)) (.idx (.var 0) (.cst (.int 0)))) (.idx (.var 0) (.cst (.int 1)))) (.bin .mul (.cst (.int 2)) (.idx (.var 0) (.cst (.int 1)))))) (.nil)
def cb_whole_points : CSs := .cons (.ret [] (.comp (.tp [4, 5]) (.call 33 (.cons (.var 0) (.cons (.var 1) (.cons (.var 2) (.cons (.var 3) (.nil)))))) (.cst (.bl true)) (.tup (.cons (.call 34 (.cons (.var 4) (.nil))) (.cons (.call 34 (.cons (.var 5) (.nil))) (.nil)))))) (.nil)
def cb_whole_legs : CSs := .cons (.asg [] 4 (.call 35 (.cons (.var 0) (.cons (.var 1) (.cons (.var 2) (.cons (.var 3) (.nil))))))) (.cons (.own [] 5 (.lst (.nil))) (.cons (.forR [] (.nm 6) (.cst (.int 0)) (.bif .len (.cons (.var 0) (.nil))) (.cons (.app [] 5 (.tup (.cons (.bin .sub (.idx (.idx (.var 4) (.bin .add (.var 6) (.cst (.int 1)))) (.cst (.int 0))) (.idx (.idx (.var 4) (.var 6)) (.cst (.int 0)))) (.cons (.bin .sub (.idx (.idx (.var 4) (.bin .add (.var 6) (.cst (.int 1)))) (.cst (.int 1))) (.idx (.idx (.var 4) (.var 6)) (.cst (.int 1)))) (.cons (.idx (.idx (.var 0) (.var 6)) (.cst (.int 2))) (.nil)))))) (.nil))) (.cons (.ret [5] (.var 5)) (.nil))))
def cb_w_near : CSs := .cons (.asg [] 1 (.bin .fdiv (.idx (.var 0) (.cst (.int 0))) (.idx (.var 0) (.cst (.int 1))))) (.cons (.ret [] (.bin .add (.var 1) (.bif .int (.cons (.cmp .ge (.bin .mul (.cst (.int 2)) (.bin .sub (.idx (.var 0) (.cst (.int 0))) (.bin .mul (.var 1) (.idx (.var 0) (.cst (.int 1)))))) (.idx (.var 0) (.cst (.int 1)))) (.nil))))) (.nil))
def cb_w_refusal : CSs := .cons (.ifs [] (.cmp .is_ (.var 0) (.cst .non)) (.cons (.ret [] (.tup (.cons (.cst (.str "ok")) (.nil)))) (.nil)) (.nil)) (.cons (.asg [] 1 (.lst (.cons (.isi (.var 0) (.cls 1)) (.cons (.isi (.var 0) (.cls 2)) (.cons (.isi (.var 0) (.cls 3)) (.nil)))))) (.cons (.asg [] 1 (.bin .add (.var 1) (.lst (.cons (.isi (.var 0) (.cls 4)) (.cons (.isi (.var 0) (.cls 5)) (.cons (.isi (.var 0) (.cls 6)) (.nil))))))) (.cons (.asg [] 1 (.bin .add (.var 1) (.lst (.cons (.isi (.var 0) (.cls 7)) (.cons (.isi (.var 0) (.cls 8)) (.nil)))))) (.cons (.ifs [] (.or (.cmp .ne (.mth .count (.var 1) (.cons (.cst (.bl true)) (.nil))) (.cst (.int 1))) (.not (.isi (.var 0) .ve))) (.cons (.ret [] (.tup (.cons (.cst (.str "wrong")) (.nil)))) (.nil)) (.nil)) (.cons (.asg [] 2 (.lst (.cons (.cst (.str "legs")) (.cons (.cst (.str "rule")) (.cons (.cst (.str "point")) (.cons (.cst (.str "sights")) (.cons (.cst (.str "known")) (.cons (.cst (.str "loose")) (.cons (.cst (.str "number")) (.cons (.cst (.str "text")) (.nil))))))))))) (.cons (.ret [] (.tup (.cons (.cst (.str "refused")) (.cons (.idx (.var 2) (.mth .index (.var 1) (.cons (.cst (.bl true)) (.nil)))) (.nil))))) (.nil)))))))
def cb_w_one : CSs := .cons (.ifs [] (.cmp .eq (.var 0) (.cst (.int 0))) (.cons (.ret [] (.call 26 (.cons (.var 1) (.cons (.var 2) (.cons (.var 3) (.cons (.var 4) (.nil))))))) (.nil)) (.nil)) (.cons (.ifs [] (.cmp .eq (.var 0) (.cst (.int 1))) (.cons (.ret [] (.call 33 (.cons (.var 1) (.cons (.var 2) (.cons (.var 3) (.cons (.var 4) (.nil))))))) (.nil)) (.nil)) (.cons (.ifs [] (.cmp .eq (.var 0) (.cst (.int 2))) (.cons (.ret [] (.call 35 (.cons (.var 1) (.cons (.var 2) (.cons (.var 3) (.cons (.var 4) (.nil))))))) (.nil)) (.nil)) (.cons (.ifs [] (.cmp .eq (.var 0) (.cst (.int 3))) (.cons (.ret [] (.call 36 (.cons (.var 1) (.cons (.var 2) (.cons (.var 3) (.cons (.var 4) (.nil))))))) (.nil)) (.nil)) (.cons (.ifs [] (.cmp .eq (.var 0) (.cst (.int 4))) (.cons (.ret [] (.call 6 (.cons (.var 1) (.nil)))) (.nil)) (.nil)) (.cons (.ret [] (.call 8 (.cons (.var 1) (.nil)))) (.nil))))))
def cb_w_told_v1 : CSs := .cons (.asg [] 5 (.cst .non)) (.cons (.asg [] 6 (.cst .non)) (.cons (.tr [] 6 (.call 38 (.cons (.var 0) (.cons (.var 1) (.cons (.var 2) (.cons (.var 3) (.cons (.var 4) (.nil))))))) 0 (.exc 7 5)) (.cons (.ret [] (.ite (.cmp .is_ (.var 5) (.cst .non)) (.tup (.cons (.cst (.str "found")) (.cons (.var 6) (.nil)))) (.call 27 (.cons (.var 5) (.nil))))) (.nil))))
def cb_w_wrong : CSs := .cons (.asg [] 3 (.call 11 (.cons (.var 0) (.cons (.var 1) (.cons (.bif .len (.cons (.var 2) (.nil))) (.nil)))))) (.cons (.tas [] [6, 7, 8] (.idx (.var 2) (.var 3))) (.cons (.asg [] 4 (.lst (.cons (.tup (.cons (.cst (.int 1000001)) (.cons (.var 7) (.cons (.var 8) (.nil))))) (.cons (.tup (.cons (.var 6) (.cons (.bin .sub (.cst (.int 0)) (.cst (.int 1000001))) (.cons (.var 8) (.nil))))) (.cons (.tup (.cons (.var 6) (.cons (.var 7) (.cons (.cst (.int 0)) (.nil))))) (.cons (.tup (.cons (.var 6) (.cons (.var 7) (.cons (.cst (.int 2000001)) (.nil))))) (.cons (.tup (.cons (.var 6) (.cons (.var 7) (.nil)))) (.nil)))))))) (.cons (.asg [] 4 (.bin .add (.var 4) (.lst (.cons (.lst (.cons (.var 6) (.cons (.var 7) (.cons (.var 8) (.nil))))) (.cons (.tup (.cons (.cst (.bl true)) (.cons (.var 7) (.cons (.var 8) (.nil))))) (.cons (.tup (.cons (.var 6) (.cons (.cst .non) (.cons (.var 8) (.nil))))) (.cons (.tup (.cons (.var 6) (.cons (.var 7) (.cons (.var 8) (.cons (.cst (.int 1)) (.nil)))))) (.cons (.cst .non) (.cons (.cst (.str "abc")) (.nil)))))))))) (.cons (.asg [] 5 (.compR (.nm 9) (.cst (.int 0)) (.cst (.int 5)) (.cst (.bl true)) (.bin .add (.bin .add (.slc (.var 2) (.cst .non) (.var 3)) (.lst (.cons (.call 12 (.cons (.var 0) (.cons (.var 1) (.cons (.var 4) (.nil))))) (.nil)))) (.slc (.var 2) (.bin .add (.var 3) (.cst (.int 1))) (.cst .non))))) (.cons (.ret [] (.call 12 (.cons (.var 0) (.cons (.var 1) (.cons (.bin .add (.var 5) (.lst (.cons (.lst (.nil)) (.cons (.bif .tuple (.cons (.var 2) (.nil))) (.cons (.slc (.bin .mul (.var 2) (.cst (.int 41))) (.cst .non) (.cst (.int 41))) (.cons (.cst .non) (.cons (.cst (.int 5)) (.nil)))))))) (.nil)))))) (.nil))))))
def cb_w_bad_spot : CSs := .cons (.asg [] 2 (.lst (.cons (.cst .non) (.cons (.tup (.cons (.cst (.int 0)) (.nil))) (.cons (.lst (.cons (.cst (.int 0)) (.cons (.cst (.int 0)) (.nil)))) (.cons (.tup (.cons (.cst (.int 1000001)) (.cons (.cst (.int 0)) (.nil)))) (.cons (.tup (.cons (.cst (.int 0)) (.cons (.bin .sub (.cst (.int 0)) (.cst (.int 1000001))) (.nil)))) (.cons (.tup (.cons (.cst (.bl true)) (.cons (.cst (.int 0)) (.nil)))) (.cons (.tup (.cons (.cst (.int 0)) (.cons (.cst .non) (.nil)))) (.cons (.tup (.cons (.cst (.int 0)) (.cons (.cst (.int 0)) (.cons (.cst (.int 0)) (.nil))))) (.cons (.cst (.str "ab")) (.nil)))))))))))) (.cons (.ret [] (.call 12 (.cons (.var 0) (.cons (.var 1) (.cons (.var 2) (.nil)))))) (.nil))
def cb_w_far : CSs := .cons (.asg [] 2 (.lst (.cons (.cst (.int 0)) (.cons (.cst (.int 1)) (.cons (.bin .sub (.cst (.int 0)) (.cst (.int 1))) (.cons (.cst (.int 7)) (.cons (.bin .sub (.cst (.int 0)) (.cst (.int 1000000))) (.cons (.cst (.int 1000000)) (.cons (.bin .sub (.call 11 (.cons (.var 0) (.cons (.var 1) (.cons (.cst (.int 2000001)) (.nil))))) (.cst (.int 1000000))) (.nil)))))))))) (.cons (.ret [] (.call 12 (.cons (.var 0) (.cons (.var 1) (.cons (.bin .add (.var 2) (.bin .mul (.lst (.cons (.bin .sub (.call 11 (.cons (.var 0) (.cons (.var 1) (.cons (.cst (.int 41)) (.nil))))) (.cst (.int 20))) (.nil))) (.cst (.int 5)))) (.nil)))))) (.nil))
def cb_w_leg : CSs := .cons (.asg [] 2 (.call 12 (.cons (.var 0) (.cons (.var 1) (.cons (.lst (.cons (.cst (.int 1)) (.cons (.cst (.int 10)) (.cons (.cst (.int 2000000)) (.cons (.bin .add (.cst (.int 1)) (.call 11 (.cons (.var 0) (.cons (.var 1) (.cons (.cst (.int 2000000)) (.nil)))))) (.nil)))))) (.nil)))))) (.cons (.ret [] (.tup (.cons (.call 41 (.cons (.var 0) (.cons (.var 1) (.nil)))) (.cons (.call 41 (.cons (.var 0) (.cons (.var 1) (.nil)))) (.cons (.var 2) (.nil)))))) (.nil))
def cb_w_legs_v1 : CSs := .cons (.ret [] (.compR (.nm 3) (.cst (.int 0)) (.bin .add (.cst (.int 1)) (.call 11 (.cons (.var 0) (.cons (.var 1) (.cons (.var 2) (.nil)))))) (.cst (.bl true)) (.call 42 (.cons (.var 0) (.cons (.var 1) (.nil)))))) (.nil)
def cb_w_one_v1 : CSs := .cons (.asg [] 2 (.idx (.var 1) (.cst (.int 0)))) (.cons (.asg [] 3 (.idx (.var 1) (.cst (.int 1)))) (.cons (.asg [] 4 (.idx (.var 1) (.cst (.int 2)))) (.cons (.asg [] 5 (.idx (.var 1) (.cst (.int 3)))) (.cons (.ifs [] (.cmp .eq (.var 0) (.cst (.int 0))) (.cons (.ret [] (.call 6 (.cons (.var 2) (.nil)))) (.nil)) (.nil)) (.cons (.ifs [] (.cmp .eq (.var 0) (.cst (.int 1))) (.cons (.ret [] (.call 8 (.cons (.var 2) (.nil)))) (.nil)) (.nil)) (.cons (.ifs [] (.cmp .eq (.var 0) (.cst (.int 2))) (.cons (.ret [] (.call 26 (.cons (.var 2) (.cons (.var 3) (.cons (.var 4) (.cons (.var 5) (.nil))))))) (.nil)) (.nil)) (.cons (.ifs [] (.cmp .eq (.var 0) (.cst (.int 3))) (.cons (.ret [] (.call 33 (.cons (.var 2) (.cons (.var 3) (.cons (.var 4) (.cons (.var 5) (.nil))))))) (.nil)) (.nil)) (.cons (.ifs [] (.cmp .eq (.var 0) (.cst (.int 4))) (.cons (.ret [] (.call 35 (.cons (.var 2) (.cons (.var 3) (.cons (.var 4) (.cons (.var 5) (.nil))))))) (.nil)) (.nil)) (.cons (.ifs [] (.cmp .eq (.var 0) (.cst (.int 5))) (.cons (.ret [] (.call 36 (.cons (.var 2) (.cons (.var 3) (.cons (.var 4) (.cons (.var 5) (.nil))))))) (.nil)) (.nil)) (.cons (.ret [] (.cst .non)) (.nil)))))))))))
def cb_w_told_v2 : CSs := .cons (.asg [] 2 (.cst .non)) (.cons (.asg [] 3 (.cst .non)) (.cons (.tr [] 3 (.call 38 (.cons (.var 0) (.cons (.var 1) (.nil)))) 0 (.exc 4 2)) (.cons (.ret [] (.ite (.cmp .is_ (.var 2) (.cst .non)) (.tup (.cons (.cst (.str "found")) (.cons (.var 3) (.nil)))) (.call 27 (.cons (.var 2) (.nil))))) (.nil))))
def cb_w_parts : CSs := .cons (.own [] 3 (.lst (.nil))) (.cons (.for_ [] (.nm 4) (.var 0) (.cons (.asg [] 8 (.ite (.cmp .eq (.var 1) (.cst (.str "parts"))) (.tup (.cons (.bif .abs (.cons (.idx (.var 4) (.cst (.int 0))) (.nil))) (.cons (.bif .abs (.cons (.idx (.var 4) (.cst (.int 1))) (.nil))) (.nil)))) (.tup (.cons (.idx (.var 4) (.cst (.int 2))) (.cons (.idx (.var 4) (.cst (.int 2))) (.nil)))))) (.cons (.app [] 3 (.ite (.cmp .eq (.var 1) (.cst (.str "equal"))) (.tup (.cons (.cst (.int 1)) (.cons (.cst (.int 1)) (.nil)))) (.var 8))) (.nil)))) (.cons (.asg [3] 5 (.compR (.nm 9) (.cst (.int 0)) (.cst (.int 2)) (.cst (.bl true)) (.bif .sum (.cons (.comp (.nm 7) (.var 3) (.cst (.bl true)) (.idx (.var 7) (.var 9))) (.nil))))) (.cons (.ifs [] (.cmp .ne (.compR (.nm 9) (.cst (.int 0)) (.cst (.int 2)) (.and (.cmp .eq (.idx (.var 5) (.var 9)) (.cst (.int 0))) (.cmp .ne (.idx (.var 2) (.var 9)) (.cst (.int 0)))) (.var 9)) (.lst (.nil))) (.cons (.ret [] (.cst .non)) (.nil)) (.nil)) (.cons (.own [] 6 (.lst (.nil))) (.cons (.for_ [3] (.nm 7) (.var 3) (.cons (.app [] 6 (.bif .tuple (.cons (.compR (.nm 9) (.cst (.int 0)) (.cst (.int 2)) (.cst (.bl true)) (.ite (.cmp .eq (.idx (.var 5) (.var 9)) (.cst (.int 0))) (.tup (.cons (.cst (.int 0)) (.cons (.cst (.int 1)) (.nil)))) (.call 13 (.cons (.bin .mul (.idx (.var 2) (.var 9)) (.idx (.var 7) (.var 9))) (.cons (.idx (.var 5) (.var 9)) (.nil)))))) (.nil)))) (.nil))) (.cons (.ret [6] (.var 6)) (.nil)))))))
def cb_w_bad : CSs := .cons (.asg [] 6 (.call 11 (.cons (.var 0) (.cons (.var 1) (.cons (.bif .len (.cons (.var 2) (.nil))) (.nil)))))) (.cons (.asg [] 7 (.idx (.var 2) (.var 6))) (.cons (.asg [] 8 (.lst (.cons (.slc (.var 7) (.cst .non) (.cst (.int 2))) (.cons (.bin .add (.var 7) (.tup (.cons (.cst (.int 1)) (.nil)))) (.cons (.bif .list (.cons (.var 7) (.nil))) (.cons (.cst .non) (.cons (.bin .add (.tup (.cons (.cst (.int 1000001)) (.nil))) (.slc (.var 7) (.cst (.int 1)) (.cst .non))) (.cons (.tup (.cons (.idx (.var 7) (.cst (.int 0))) (.cons (.bin .sub (.cst (.int 0)) (.cst (.int 1000001))) (.cons (.idx (.var 7) (.cst (.int 2))) (.nil))))) (.cons (.bin .add (.slc (.var 7) (.cst .non) (.cst (.int 2))) (.tup (.cons (.cst (.int 0)) (.nil)))) (.nil)))))))))) (.cons (.asg [] 8 (.bin .add (.var 8) (.lst (.cons (.bin .add (.slc (.var 7) (.cst .non) (.cst (.int 2))) (.tup (.cons (.cst (.int 2000001)) (.nil)))) (.cons (.bin .add (.tup (.cons (.cst (.bl true)) (.nil))) (.slc (.var 7) (.cst (.int 1)) (.cst .non))) (.cons (.bin .add (.tup (.cons (.cst .non) (.nil))) (.slc (.var 7) (.cst (.int 1)) (.cst .non))) (.cons (.bin .add (.slc (.var 7) (.cst .non) (.cst (.int 2))) (.tup (.cons (.cst (.bl true)) (.nil)))) (.nil)))))))) (.cons (.asg [] 9 (.bin .add (.bin .add (.slc (.var 2) (.cst .non) (.var 6)) (.lst (.cons (.call 12 (.cons (.var 0) (.cons (.var 1) (.cons (.var 8) (.nil))))) (.nil)))) (.slc (.var 2) (.bin .add (.var 6) (.cst (.int 1))) (.cst .non)))) (.cons (.asg [] 9 (.call 12 (.cons (.var 0) (.cons (.var 1) (.cons (.lst (.cons (.var 9) (.cons (.var 9) (.cons (.var 9) (.cons (.lst (.nil)) (.cons (.slc (.bin .mul (.var 2) (.cst (.int 41))) (.cst .non) (.cst (.int 41))) (.cons (.bif .tuple (.cons (.var 2) (.nil))) (.cons (.cst .non) (.nil))))))))) (.nil)))))) (.cons (.asg [] 10 (.call 12 (.cons (.var 0) (.cons (.var 1) (.cons (.lst (.cons (.cst (.str "")) (.cons (.cst (.str "Long")) (.cons (.cst (.str "part")) (.cons (.cst .non) (.cons (.cst (.int 1)) (.nil))))))) (.nil)))))) (.cons (.asg [] 8 (.lst (.cons (.tup (.cons (.cst (.int 1000001)) (.cons (.cst (.int 0)) (.nil)))) (.cons (.tup (.cons (.cst (.int 0)) (.cons (.bin .sub (.cst (.int 0)) (.cst (.int 1000001))) (.nil)))) (.cons (.tup (.cons (.cst (.int 0)) (.nil))) (.cons (.lst (.cons (.cst (.int 0)) (.cons (.cst (.int 0)) (.nil)))) (.cons (.cst .non) (.cons (.tup (.cons (.cst (.bl true)) (.cons (.cst (.int 0)) (.nil)))) (.cons (.tup (.cons (.cst (.int 0)) (.cons (.cst (.int 0)) (.cons (.cst (.int 0)) (.nil))))) (.cons (.tup (.cons (.tup (.cons (.cst (.int 0)) (.cons (.cst (.int 1)) (.nil)))) (.cons (.cst (.int 0)) (.nil)))) (.nil))))))))))) (.cons (.asg [] 11 (.call 12 (.cons (.var 0) (.cons (.var 1) (.cons (.var 8) (.nil)))))) (.cons (.ifs [] (.cmp .ne (.compR (.nm 13) (.cst (.int 0)) (.cst (.int 6)) (.cst (.bl true)) (.call 28 (.cons (.var 13) (.cons (.lst (.cons (.var 9) (.cons (.var 10) (.cons (.var 11) (.cons (.var 11) (.nil)))))) (.nil))))) (.bin .mul (.lst (.cons (.tup (.cons (.cst (.str "refused")) (.cons (.cst (.str "legs")) (.nil)))) (.nil))) (.cst (.int 6)))) (.cons (.ret [] (.cst (.bl false))) (.nil)) (.nil)) (.cons (.ifs [] (.cmp .ne (.compR (.nm 13) (.cst (.int 2)) (.cst (.int 6)) (.cst (.bl true)) (.call 28 (.cons (.var 13) (.cons (.lst (.cons (.var 2) (.cons (.var 10) (.cons (.var 11) (.cons (.var 11) (.nil)))))) (.nil))))) (.bin .mul (.lst (.cons (.tup (.cons (.cst (.str "refused")) (.cons (.cst (.str "rule")) (.nil)))) (.nil))) (.cst (.int 4)))) (.cons (.ret [] (.cst (.bl false))) (.nil)) (.nil)) (.cons (.asg [] 12 (.lst (.cons (.tup (.cons (.cst (.int 0)) (.cons (.cst (.int 0)) (.cons (.cst (.int 1)) (.nil))))) (.nil)))) (.cons (.ifs [] (.cmp .ne (.compR (.nm 13) (.cst (.int 2)) (.cst (.int 6)) (.cst (.bl true)) (.call 28 (.cons (.var 13) (.cons (.lst (.cons (.var 12) (.cons (.cst (.str "parts")) (.cons (.tup (.cons (.cst (.int 1)) (.cons (.cst (.int 1)) (.nil)))) (.cons (.var 11) (.nil)))))) (.nil))))) (.bin .mul (.lst (.cons (.tup (.cons (.cst (.str "refused")) (.cons (.cst (.str "point")) (.nil)))) (.nil))) (.cst (.int 4)))) (.cons (.ret [] (.cst (.bl false))) (.nil)) (.nil)) (.cons (.ret [] (.cmp .eq (.compR (.nm 13) (.cst (.int 2)) (.cst (.int 6)) (.cst (.bl true)) (.call 28 (.cons (.var 13) (.cons (.lst (.cons (.var 2) (.cons (.var 3) (.cons (.var 11) (.cons (.var 5) (.nil)))))) (.nil))))) (.bin .mul (.lst (.cons (.tup (.cons (.cst (.str "refused")) (.cons (.cst (.str "point")) (.nil)))) (.nil))) (.cst (.int 4))))) (.nil))))))))))))))
def cb_minus : CSs := .cons (.ret [] (.call 2 (.cons (.bin .sub (.bin .mul (.idx (.var 0) (.cst (.int 0))) (.idx (.var 1) (.cst (.int 1)))) (.bin .mul (.idx (.var 1) (.cst (.int 0))) (.idx (.var 0) (.cst (.int 1))))) (.cons (.bin .mul (.idx (.var 0) (.cst (.int 1))) (.idx (.var 1) (.cst (.int 1)))) (.nil))))) (.nil)
def cb_times : CSs := .cons (.ret [] (.call 2 (.cons (.bin .mul (.idx (.var 0) (.cst (.int 0))) (.idx (.var 1) (.cst (.int 0)))) (.cons (.bin .mul (.idx (.var 0) (.cst (.int 1))) (.idx (.var 1) (.cst (.int 1)))) (.nil))))) (.nil)
def cb_is_fraction : CSs := .cons (.ifs [] (.or (.not (.isi (.var 0) .tuple)) (.cmp .ne (.bif .len (.cons (.var 0) (.nil))) (.cst (.int 2)))) (.cons (.ret [] (.cst (.bl false))) (.nil)) (.nil)) (.cons (.ifs [] (.not (.bif .all (.cons (.comp (.nm 1) (.var 0) (.cst (.bl true)) (.and (.isi (.var 1) .int) (.not (.isi (.var 1) .bool)))) (.nil)))) (.cons (.ret [] (.cst (.bl false))) (.nil)) (.nil)) (.cons (.ret [] (.and (.cmp .gt (.idx (.var 0) (.cst (.int 1))) (.cst (.int 0))) (.cmp .eq (.call 2 (.cons (.idx (.var 0) (.cst (.int 0))) (.cons (.idx (.var 0) (.cst (.int 1))) (.nil)))) (.var 0)))) (.nil)))
def cb_is_point : CSs := .cons (.ret [] (.and (.isi (.var 0) .tuple) (.and (.cmp .eq (.bif .len (.cons (.var 0) (.nil))) (.cst (.int 2))) (.bif .all (.cons (.comp (.nm 1) (.var 0) (.cst (.bl true)) (.call 47 (.cons (.var 1) (.nil)))) (.nil)))))) (.nil)
def cb_look_points : CSs := .cons (.ifs [] (.or (.not (.isi (.var 0) .list)) (.not (.chn .le .le (.cst (.int 3)) (.bif .len (.cons (.var 0) (.nil))) (.glo 9)))) (.cons (.rse 3) (.nil)) (.nil)) (.cons (.ifs [] (.not (.bif .all (.cons (.comp (.nm 2) (.var 0) (.cst (.bl true)) (.call 48 (.cons (.var 2) (.nil)))) (.nil)))) (.cons (.rse 3) (.nil)) (.nil)) (.cons (.ifs [] (.bif .any (.cons (.compR (.nm 1) (.cst (.int 0)) (.bif .len (.cons (.var 0) (.nil))) (.cst (.bl true)) (.cmp .eq (.idx (.var 0) (.bin .sub (.var 1) (.cst (.int 1)))) (.idx (.var 0) (.var 1)))) (.nil))) (.cons (.rse 3) (.nil)) (.nil)) (.nil)))
def cb_double_area : CSs := .cons (.asg [] 1 (.tup (.cons (.cst (.int 0)) (.cons (.cst (.int 1)) (.nil))))) (.cons (.forR [] (.nm 2) (.cst (.int 0)) (.bif .len (.cons (.var 0) (.nil))) (.cons (.par [] [3, 4] (.cons (.idx (.var 0) (.bin .sub (.var 2) (.cst (.int 1)))) (.cons (.idx (.var 0) (.var 2)) (.nil)))) (.cons (.asg [] 1 (.call 32 (.cons (.var 1) (.cons (.call 45 (.cons (.call 46 (.cons (.idx (.var 3) (.cst (.int 0))) (.cons (.idx (.var 4) (.cst (.int 1))) (.nil)))) (.cons (.call 46 (.cons (.idx (.var 4) (.cst (.int 0))) (.cons (.idx (.var 3) (.cst (.int 1))) (.nil)))) (.nil)))) (.nil))))) (.nil)))) (.cons (.ret [] (.var 1)) (.nil)))
def cb_area : CSs := .cons (.ex [] (.call 49 (.cons (.var 0) (.nil)))) (.cons (.asg [] 1 (.call 50 (.cons (.var 0) (.nil)))) (.cons (.ret [] (.call 2 (.cons (.idx (.var 1) (.cst (.int 0))) (.cons (.bin .mul (.cst (.int 2)) (.idx (.var 1) (.cst (.int 1)))) (.nil))))) (.nil)))
def cb_w_number : CSs := .cons (.ret [] (.call 13 (.cons (.call 11 (.cons (.var 0) (.cons (.var 1) (.cons (.cst (.int 13)) (.nil))))) (.cons (.call 12 (.cons (.var 0) (.cons (.var 1) (.cons (.lst (.cons (.cst (.int 1)) (.cons (.cst (.int 1)) (.cons (.cst (.int 1)) (.cons (.cst (.int 2)) (.cons (.cst (.int 3)) (.nil))))))) (.nil))))) (.nil))))) (.nil)
def cb_w_points : CSs := .cons (.asg [] 2 (.lst (.nil))) (.cons (.asg [] 3 (.cmp .eq (.call 11 (.cons (.var 0) (.cons (.var 1) (.cons (.cst (.int 2)) (.nil))))) (.cst (.int 0)))) (.cons (.forR [] (.nm 4) (.cst (.int 0)) (.bin .add (.cst (.int 3)) (.call 11 (.cons (.var 0) (.cons (.var 1) (.cons (.call 12 (.cons (.var 0) (.cons (.var 1) (.cons (.lst (.cons (.cst (.int 3)) (.cons (.cst (.int 5)) (.cons (.cst (.int 7)) (.cons (.cst (.int 7)) (.cons (.cst (.int 7)) (.cons (.cst (.int 7)) (.cons (.cst (.int 38)) (.nil))))))))) (.nil))))) (.nil)))))) (.cons (.asg [] 5 (.tup (.cons (.call 52 (.cons (.var 0) (.cons (.var 1) (.nil)))) (.cons (.call 52 (.cons (.var 0) (.cons (.var 1) (.nil)))) (.nil))))) (.cons (.ifs [] (.var 3) (.cons (.asg [] 5 (.tup (.cons (.tup (.cons (.call 11 (.cons (.var 0) (.cons (.var 1) (.cons (.cst (.int 4)) (.nil))))) (.cons (.cst (.int 1)) (.nil)))) (.cons (.tup (.cons (.call 11 (.cons (.var 0) (.cons (.var 1) (.cons (.cst (.int 4)) (.nil))))) (.cons (.cst (.int 1)) (.nil)))) (.nil))))) (.nil)) (.nil)) (.cons (.asg [] 2 (.bin .add (.var 2) (.bin .mul (.lst (.cons (.var 5) (.nil))) (.bif .int (.cons (.or (.cmp .eq (.var 2) (.lst (.nil))) (.cmp .ne (.idx (.var 2) (.neg (.cst (.int 1)))) (.var 5))) (.nil)))))) (.nil))))) (.cons (.ifs [] (.or (.cmp .lt (.bif .len (.cons (.var 2) (.nil))) (.cst (.int 3))) (.cmp .eq (.idx (.var 2) (.cst (.int 0))) (.idx (.var 2) (.neg (.cst (.int 1)))))) (.cons (.asg [] 2 (.lst (.cons (.tup (.cons (.tup (.cons (.cst (.int 0)) (.cons (.cst (.int 1)) (.nil)))) (.cons (.tup (.cons (.cst (.int 0)) (.cons (.cst (.int 1)) (.nil)))) (.nil)))) (.cons (.tup (.cons (.tup (.cons (.cst (.int 5)) (.cons (.cst (.int 1)) (.nil)))) (.cons (.tup (.cons (.cst (.int 1)) (.cons (.cst (.int 2)) (.nil)))) (.nil)))) (.cons (.tup (.cons (.tup (.cons (.cst (.int 3)) (.cons (.cst (.int 1)) (.nil)))) (.cons (.tup (.cons (.cst (.int 4)) (.cons (.cst (.int 1)) (.nil)))) (.nil)))) (.cons (.tup (.cons (.tup (.cons (.cst (.int 0)) (.cons (.cst (.int 1)) (.nil)))) (.cons (.tup (.cons (.cst (.int 7)) (.cons (.cst (.int 3)) (.nil)))) (.nil)))) (.nil))))))) (.nil)) (.nil)) (.cons (.ret [] (.var 2)) (.nil)))))
def cb_w_cross : CSs := .cons (.asg [] 3 (.call 16 (.cons (.call 15 (.cons (.idx (.var 1) (.cst (.int 0))) (.cons (.idx (.var 0) (.cst (.int 0))) (.nil)))) (.cons (.call 15 (.cons (.idx (.var 2) (.cst (.int 1))) (.cons (.idx (.var 0) (.cst (.int 1))) (.nil)))) (.nil))))) (.cons (.ret [] (.call 15 (.cons (.var 3) (.cons (.call 16 (.cons (.call 15 (.cons (.idx (.var 1) (.cst (.int 1))) (.cons (.idx (.var 0) (.cst (.int 1))) (.nil)))) (.cons (.call 15 (.cons (.idx (.var 2) (.cst (.int 0))) (.cons (.idx (.var 0) (.cst (.int 0))) (.nil)))) (.nil)))) (.nil))))) (.nil))
def cb_w_is_round : CSs := .cons (.asg [] 1 (.compR (.nm 2) (.cst (.int 0)) (.bif .len (.cons (.var 0) (.nil))) (.cmp .eq (.idx (.var 0) (.bin .sub (.var 2) (.cst (.int 1)))) (.idx (.var 0) (.var 2))) (.var 2))) (.cons (.ret [] (.and (.chn .lt .lt (.cst (.int 2)) (.bif .len (.cons (.var 0) (.nil))) (.cst (.int 41))) (.cmp .eq (.var 1) (.lst (.nil))))) (.nil))
def cb_cross : CSs := .cons (.asg [] 3 (.call 46 (.cons (.call 45 (.cons (.idx (.var 1) (.cst (.int 0))) (.cons (.idx (.var 0) (.cst (.int 0))) (.nil)))) (.cons (.call 45 (.cons (.idx (.var 2) (.cst (.int 1))) (.cons (.idx (.var 0) (.cst (.int 1))) (.nil)))) (.nil))))) (.cons (.ret [] (.call 45 (.cons (.var 3) (.cons (.call 46 (.cons (.call 45 (.cons (.idx (.var 1) (.cst (.int 1))) (.cons (.idx (.var 0) (.cst (.int 1))) (.nil)))) (.cons (.call 45 (.cons (.idx (.var 2) (.cst (.int 0))) (.cons (.idx (.var 0) (.cst (.int 0))) (.nil)))) (.nil)))) (.nil))))) (.nil))
def cb_sign : CSs := .cons (.ret [] (.bin .sub (.bif .int (.cons (.cmp .gt (.idx (.var 0) (.cst (.int 0))) (.cst (.int 0))) (.nil))) (.bif .int (.cons (.cmp .lt (.idx (.var 0) (.cst (.int 0))) (.cst (.int 0))) (.nil))))) (.nil)
def cb_is_between : CSs := .cons (.ret [] (.bif .all (.cons (.compR (.nm 3) (.cst (.int 0)) (.cst (.int 2)) (.cst (.bl true)) (.cmp .le (.bin .mul (.call 57 (.cons (.call 45 (.cons (.idx (.var 2) (.var 3)) (.cons (.idx (.var 0) (.var 3)) (.nil)))) (.nil))) (.call 57 (.cons (.call 45 (.cons (.idx (.var 2) (.var 3)) (.cons (.idx (.var 1) (.var 3)) (.nil)))) (.nil)))) (.cst (.int 0)))) (.nil)))) (.nil)
def cb_meet : CSs := .cons (.asg [] 4 (.lst (.cons (.call 57 (.cons (.call 56 (.cons (.var 0) (.cons (.var 1) (.cons (.var 2) (.nil))))) (.nil))) (.cons (.call 57 (.cons (.call 56 (.cons (.var 0) (.cons (.var 1) (.cons (.var 3) (.nil))))) (.nil))) (.nil))))) (.cons (.asg [] 5 (.lst (.cons (.call 57 (.cons (.call 56 (.cons (.var 2) (.cons (.var 3) (.cons (.var 0) (.nil))))) (.nil))) (.cons (.call 57 (.cons (.call 56 (.cons (.var 2) (.cons (.var 3) (.cons (.var 1) (.nil))))) (.nil))) (.nil))))) (.cons (.ifs [] (.and (.cmp .lt (.bin .mul (.idx (.var 4) (.cst (.int 0))) (.idx (.var 4) (.cst (.int 1)))) (.cst (.int 0))) (.cmp .lt (.bin .mul (.idx (.var 5) (.cst (.int 0))) (.idx (.var 5) (.cst (.int 1)))) (.cst (.int 0)))) (.cons (.ret [] (.cst (.bl true))) (.nil)) (.nil)) (.cons (.own [] 6 (.lst (.cons (.tup (.cons (.var 0) (.cons (.var 1) (.cons (.var 2) (.cons (.idx (.var 4) (.cst (.int 0))) (.nil)))))) (.cons (.tup (.cons (.var 0) (.cons (.var 1) (.cons (.var 3) (.cons (.idx (.var 4) (.cst (.int 1))) (.nil)))))) (.nil))))) (.cons (.ext [] 6 (.lst (.cons (.tup (.cons (.var 2) (.cons (.var 3) (.cons (.var 0) (.cons (.idx (.var 5) (.cst (.int 0))) (.nil)))))) (.cons (.tup (.cons (.var 2) (.cons (.var 3) (.cons (.var 1) (.cons (.idx (.var 5) (.cst (.int 1))) (.nil)))))) (.nil))))) (.cons (.ret [6] (.bif .any (.cons (.comp (.tp [7, 8, 9, 10]) (.var 6) (.cst (.bl true)) (.and (.cmp .eq (.var 10) (.cst (.int 0))) (.call 58 (.cons (.var 7) (.cons (.var 8) (.cons (.var 9) (.nil))))))) (.nil)))) (.nil))))))
def cb_folds : CSs := .cons (.par [] [2, 3, 4] (.cons (.idx (.var 0) (.bin .sub (.var 1) (.cst (.int 2)))) (.cons (.idx (.var 0) (.bin .sub (.var 1) (.cst (.int 1)))) (.cons (.idx (.var 0) (.var 1)) (.nil))))) (.cons (.ret [] (.and (.cmp .eq (.call 57 (.cons (.call 56 (.cons (.var 2) (.cons (.var 3) (.cons (.var 4) (.nil))))) (.nil))) (.cst (.int 0))) (.or (.call 58 (.cons (.var 2) (.cons (.var 3) (.cons (.var 4) (.nil))))) (.call 58 (.cons (.var 3) (.cons (.var 4) (.cons (.var 2) (.nil)))))))) (.nil))
def cb_is_simple : CSs := .cons (.ex [] (.call 49 (.cons (.var 0) (.nil)))) (.cons (.asg [] 1 (.bif .len (.cons (.var 0) (.nil)))) (.cons (.ifs [] (.bif .any (.cons (.compR (.nm 2) (.cst (.int 0)) (.var 1) (.cst (.bl true)) (.call 60 (.cons (.var 0) (.cons (.var 2) (.nil))))) (.nil))) (.cons (.ret [] (.cst (.bl false))) (.nil)) (.nil)) (.cons (.forR [] (.nm 2) (.cst (.int 0)) (.var 1) (.cons (.forR [] (.nm 3) (.bin .add (.var 2) (.cst (.int 2))) (.var 1) (.cons (.ifs [] (.and (.cmp .ne (.tup (.cons (.var 2) (.cons (.var 3) (.nil)))) (.tup (.cons (.cst (.int 0)) (.cons (.bin .sub (.var 1) (.cst (.int 1))) (.nil))))) (.call 59 (.cons (.idx (.var 0) (.var 2)) (.cons (.idx (.var 0) (.bin .add (.var 2) (.cst (.int 1)))) (.cons (.idx (.var 0) (.var 3)) (.cons (.idx (.var 0) (.bin .mod (.bin .add (.var 3) (.cst (.int 1))) (.var 1))) (.nil))))))) (.cons (.ret [] (.cst (.bl false))) (.nil)) (.nil)) (.nil))) (.nil))) (.cons (.ret [] (.cst (.bl true))) (.nil)))))
def cb_w_sign : CSs := .cons (.ret [] (.ite (.cmp .gt (.idx (.var 0) (.cst (.int 0))) (.cst (.int 0))) (.cst (.int 1)) (.bin .sub (.cst (.int 0)) (.bif .int (.cons (.cmp .lt (.idx (.var 0) (.cst (.int 0))) (.cst (.int 0))) (.nil)))))) (.nil)
def cb_w_is_ahead : CSs := .cons (.asg [] 2 (.call 62 (.cons (.call 15 (.cons (.idx (.var 0) (.cst (.int 0))) (.cons (.idx (.var 1) (.cst (.int 0))) (.nil)))) (.nil)))) (.cons (.ret [] (.or (.cmp .lt (.var 2) (.cst (.int 0))) (.and (.cmp .eq (.var 2) (.cst (.int 0))) (.cmp .lt (.call 62 (.cons (.call 15 (.cons (.idx (.var 0) (.cst (.int 1))) (.cons (.idx (.var 1) (.cst (.int 1))) (.nil)))) (.nil))) (.cst (.int 0)))))) (.nil))
def cb_w_far_v1 : CSs := .cons (.ret [] (.call 17 (.cons (.compR (.nm 2) (.cst (.int 0)) (.cst (.int 2)) (.cst (.bl true)) (.call 16 (.cons (.call 15 (.cons (.idx (.var 0) (.var 2)) (.cons (.idx (.var 1) (.var 2)) (.nil)))) (.cons (.call 15 (.cons (.idx (.var 0) (.var 2)) (.cons (.idx (.var 1) (.var 2)) (.nil)))) (.nil))))) (.nil)))) (.nil)
def cb_w_hull : CSs := .cons (.own [] 1 (.lst (.cons (.idx (.var 0) (.cst (.int 0))) (.nil)))) (.cons (.for_ [] (.nm 2) (.var 0) (.cons (.oif 1 (.call 63 (.cons (.var 2) (.cons (.oidx 1 (.cst (.int 0))) (.nil)))) (.lst (.cons (.var 2) (.nil)))) (.nil))) (.cons (.whl [] (.cmp .le (.olen 1) (.bif .len (.cons (.var 0) (.nil)))) (.cons (.asg [] 3 (.oidx 1 (.neg (.cst (.int 1))))) (.cons (.asg [] 4 (.cst .non)) (.cons (.for_ [] (.nm 2) (.comp (.nm 2) (.var 0) (.cmp .ne (.var 2) (.var 3)) (.var 2)) (.cons (.asg [] 5 (.ite (.cmp .is_ (.var 4) (.cst .non)) (.cst (.int 1)) (.bin .sub (.cst (.int 0)) (.call 62 (.cons (.call 54 (.cons (.var 3) (.cons (.var 4) (.cons (.var 2) (.nil))))) (.nil)))))) (.cons (.ifs [] (.cmp .eq (.var 5) (.cst (.int 0))) (.cons (.asg [] 5 (.call 62 (.cons (.call 15 (.cons (.call 41 (.cons (.var 3) (.cons (.var 2) (.nil)))) (.cons (.call 41 (.cons (.var 3) (.cons (.var 4) (.nil)))) (.nil)))) (.nil)))) (.nil)) (.nil)) (.cons (.asg [] 4 (.ite (.cmp .gt (.var 5) (.cst (.int 0))) (.var 2) (.var 4))) (.nil))))) (.cons (.ifs [] (.or (.cmp .is_ (.var 4) (.cst .non)) (.cmp .eq (.var 4) (.oidx 1 (.cst (.int 0))))) (.cons (.ret [1] (.var 1)) (.nil)) (.nil)) (.cons (.app [] 1 (.var 4)) (.nil))))))) (.cons (.ret [1] (.var 1)) (.nil))))
def cb_w_convex : CSs := .cons (.asg [] 3 (.compR (.nm 6) (.cst (.int 0)) (.var 2) (.cst (.bl true)) (.tup (.cons (.call 52 (.cons (.var 0) (.cons (.var 1) (.nil)))) (.cons (.call 52 (.cons (.var 0) (.cons (.var 1) (.nil)))) (.nil)))))) (.cons (.asg [] 4 (.call 64 (.cons (.var 3) (.nil)))) (.cons (.asg [] 5 (.lst (.cons (.tup (.cons (.tup (.cons (.cst (.int 0)) (.cons (.cst (.int 1)) (.nil)))) (.cons (.tup (.cons (.cst (.int 1)) (.cons (.cst (.int 1)) (.nil)))) (.nil)))) (.cons (.tup (.cons (.tup (.cons (.cst (.int 7)) (.cons (.cst (.int 2)) (.nil)))) (.cons (.tup (.cons (.cst (.int 0)) (.cons (.cst (.int 1)) (.nil)))) (.nil)))) (.cons (.tup (.cons (.tup (.cons (.cst (.int 5)) (.cons (.cst (.int 1)) (.nil)))) (.cons (.tup (.cons (.cst (.int 4)) (.cons (.cst (.int 1)) (.nil)))) (.nil)))) (.nil)))))) (.cons (.ret [] (.ite (.cmp .gt (.bif .len (.cons (.var 4) (.nil))) (.cst (.int 2))) (.var 4) (.var 5))) (.nil))))
def cb_w_middle : CSs := .cons (.ret [] (.bif .tuple (.cons (.compR (.nm 2) (.cst (.int 0)) (.cst (.int 2)) (.cst (.bl true)) (.call 16 (.cons (.tup (.cons (.cst (.int 1)) (.cons (.cst (.int 2)) (.nil)))) (.cons (.call 14 (.cons (.idx (.var 0) (.var 2)) (.cons (.idx (.var 1) (.var 2)) (.nil)))) (.nil))))) (.nil)))) (.nil)
def cb_w_same : CSs := .cons (.asg [] 2 (.call 61 (.cons (.var 0) (.nil)))) (.cons (.own [] 3 (.lst (.cons (.bin .add (.slc (.var 0) (.var 1) (.cst .non)) (.slc (.var 0) (.cst .non) (.var 1))) (.cons (.rev (.var 0)) (.nil))))) (.cons (.app [] 3 (.comp (.tp [4, 5]) (.var 0) (.cst (.bl true)) (.tup (.cons (.call 16 (.cons (.tup (.cons (.cst (.int 1000003)) (.cons (.cst (.int 7)) (.nil)))) (.cons (.var 4) (.nil)))) (.cons (.call 14 (.cons (.var 5) (.cons (.tup (.cons (.bin .sub (.cst (.int 0)) (.cst (.int 9))) (.cons (.cst (.int 1)) (.nil)))) (.nil)))) (.nil)))))) (.cons (.ret [3] (.ite (.cmp .eq (.comp (.nm 4) (.var 3) (.cst (.bl true)) (.call 61 (.cons (.var 4) (.nil)))) (.bin .mul (.lst (.cons (.var 2) (.nil))) (.cst (.int 3)))) (.var 2) (.cst .non))) (.nil))))
def cb_over : CSs := .cons (.ret [] (.call 2 (.cons (.bin .mul (.idx (.var 0) (.cst (.int 0))) (.idx (.var 1) (.cst (.int 1)))) (.cons (.bin .mul (.idx (.var 0) (.cst (.int 1))) (.idx (.var 1) (.cst (.int 0)))) (.nil))))) (.nil)
def cb_within : CSs := .cons (.ex [] (.call 49 (.cons (.var 0) (.nil)))) (.cons (.ifs [] (.or (.not (.call 47 (.cons (.var 1) (.nil)))) (.or (.not (.call 47 (.cons (.var 2) (.nil)))) (.cmp .lt (.call 57 (.cons (.call 45 (.cons (.var 2) (.cons (.var 1) (.nil)))) (.nil))) (.cst (.int 0))))) (.cons (.rse 3) (.nil)) (.nil)) (.cons (.asg [] 3 (.call 72 (.cons (.call 72 (.cons (.var 0) (.cons (.var 1) (.cons (.cst (.bl true)) (.nil))))) (.cons (.var 2) (.cons (.cst (.bl false)) (.nil)))))) (.cons (.asg [] 4 (.ite (.cmp .gt (.bif .len (.cons (.var 3) (.nil))) (.cst (.int 2))) (.call 50 (.cons (.var 3) (.nil))) (.tup (.cons (.cst (.int 0)) (.cons (.cst (.int 1)) (.nil)))))) (.cons (.ret [] (.call 2 (.cons (.idx (.var 4) (.cst (.int 0))) (.cons (.bin .mul (.cst (.int 2)) (.idx (.var 4) (.cst (.int 1)))) (.nil))))) (.nil)))))
def cb_cut : CSs := .cons (.own [] 3 (.lst (.nil))) (.cons (.forR [] (.nm 4) (.cst (.int 0)) (.bif .len (.cons (.var 0) (.nil))) (.cons (.par [] [5, 6] (.cons (.idx (.var 0) (.bin .sub (.var 4) (.cst (.int 1)))) (.cons (.idx (.var 0) (.var 4)) (.nil)))) (.cons (.par [] [7, 8] (.cons (.call 57 (.cons (.call 45 (.cons (.idx (.var 5) (.cst (.int 1))) (.cons (.var 1) (.nil)))) (.nil))) (.cons (.call 57 (.cons (.call 45 (.cons (.idx (.var 6) (.cst (.int 1))) (.cons (.var 1) (.nil)))) (.nil))) (.nil)))) (.cons (.ifs [] (.cmp .lt (.bin .mul (.var 7) (.var 8)) (.cst (.int 0))) (.cons (.asg [] 9 (.call 45 (.cons (.var 1) (.cons (.idx (.var 5) (.cst (.int 1))) (.nil))))) (.cons (.asg [] 10 (.call 45 (.cons (.idx (.var 6) (.cst (.int 1))) (.cons (.idx (.var 5) (.cst (.int 1))) (.nil))))) (.cons (.asg [] 11 (.call 2 (.cons (.bin .mul (.idx (.var 9) (.cst (.int 0))) (.idx (.var 10) (.cst (.int 1)))) (.cons (.bin .mul (.idx (.var 9) (.cst (.int 1))) (.idx (.var 10) (.cst (.int 0)))) (.nil))))) (.cons (.app [] 3 (.tup (.cons (.call 32 (.cons (.idx (.var 5) (.cst (.int 0))) (.cons (.call 46 (.cons (.var 11) (.cons (.call 45 (.cons (.idx (.var 6) (.cst (.int 0))) (.cons (.idx (.var 5) (.cst (.int 0))) (.nil)))) (.nil)))) (.nil)))) (.cons (.var 1) (.nil))))) (.nil))))) (.nil)) (.cons (.ifs [] (.or (.cmp .eq (.var 8) (.cst (.int 0))) (.cmp .eq (.cmp .gt (.var 8) (.cst (.int 0))) (.var 2))) (.cons (.app [] 3 (.var 6)) (.nil)) (.nil)) (.nil)))))) (.cons (.ret [3] (.var 3)) (.nil)))
def cb_cut_by : CSs := .cons (.own [] 3 (.lst (.nil))) (.cons (.forR [] (.nm 4) (.cst (.int 0)) (.bif .len (.cons (.var 0) (.nil))) (.cons (.par [] [5, 6] (.cons (.call 56 (.cons (.var 1) (.cons (.var 2) (.cons (.idx (.var 0) (.bin .sub (.var 4) (.cst (.int 1)))) (.nil))))) (.cons (.call 56 (.cons (.var 1) (.cons (.var 2) (.cons (.idx (.var 0) (.var 4)) (.nil))))) (.nil)))) (.cons (.ifs [] (.cmp .lt (.bin .mul (.call 57 (.cons (.var 5) (.nil))) (.call 57 (.cons (.var 6) (.nil)))) (.cst (.int 0))) (.cons (.asg [] 7 (.call 70 (.cons (.var 5) (.cons (.call 45 (.cons (.var 5) (.cons (.var 6) (.nil)))) (.nil))))) (.cons (.tas [] [8, 9] (.tup (.cons (.idx (.var 0) (.bin .sub (.var 4) (.cst (.int 1)))) (.cons (.idx (.var 0) (.var 4)) (.nil))))) (.cons (.app [] 3 (.bif .tuple (.cons (.compR (.nm 10) (.cst (.int 0)) (.cst (.int 2)) (.cst (.bl true)) (.call 32 (.cons (.idx (.var 8) (.var 10)) (.cons (.call 46 (.cons (.var 7) (.cons (.call 45 (.cons (.idx (.var 9) (.var 10)) (.cons (.idx (.var 8) (.var 10)) (.nil)))) (.nil)))) (.nil))))) (.nil)))) (.nil)))) (.nil)) (.cons (.ifs [] (.cmp .ge (.call 57 (.cons (.var 6) (.nil))) (.cst (.int 0))) (.cons (.app [] 3 (.idx (.var 0) (.var 4))) (.nil)) (.nil)) (.nil))))) (.cons (.ret [3] (.var 3)) (.nil)))
def cb_half_of : CSs := .cons (.ret [] (.call 2 (.cons (.idx (.var 0) (.cst (.int 0))) (.cons (.bin .mul (.cst (.int 2)) (.idx (.var 0) (.cst (.int 1)))) (.nil))))) (.nil)
def cb_left_area : CSs := .cons (.ex [] (.call 49 (.cons (.var 0) (.nil)))) (.cons (.ifs [] (.or (.not (.call 48 (.cons (.var 1) (.nil)))) (.or (.not (.call 48 (.cons (.var 2) (.nil)))) (.cmp .eq (.var 1) (.var 2)))) (.cons (.rse 3) (.nil)) (.nil)) (.cons (.asg [] 3 (.call 73 (.cons (.var 0) (.cons (.var 1) (.cons (.var 2) (.nil)))))) (.cons (.ret [] (.ite (.cmp .gt (.bif .len (.cons (.var 3) (.nil))) (.cst (.int 2))) (.call 74 (.cons (.call 50 (.cons (.var 3) (.nil))) (.nil))) (.glo 15))) (.nil))))
def cb_w_sorted : CSs := .cons (.asg [] 1 (.lst (.nil))) (.cons (.for_ [] (.nm 2) (.var 0) (.cons (.asg [] 3 (.cst (.int 0))) (.cons (.whl [] (.and (.cmp .lt (.var 3) (.bif .len (.cons (.var 1) (.nil)))) (.cmp .lt (.call 62 (.cons (.call 15 (.cons (.idx (.var 1) (.var 3)) (.cons (.var 2) (.nil)))) (.nil))) (.cst (.int 0)))) (.cons (.asg [] 3 (.bin .add (.var 3) (.cst (.int 1)))) (.nil))) (.cons (.asg [] 1 (.bin .add (.bin .add (.slc (.var 1) (.cst .non) (.var 3)) (.lst (.cons (.var 2) (.nil)))) (.slc (.var 1) (.var 3) (.cst .non)))) (.nil))))) (.cons (.ret [] (.var 1)) (.nil)))
def cb_w_clip : CSs := .cons (.own [] 3 (.lst (.nil))) (.cons (.forR [] (.nm 4) (.cst (.int 0)) (.bif .len (.cons (.var 0) (.nil))) (.cons (.asg [] 5 (.call 54 (.cons (.var 1) (.cons (.var 2) (.cons (.idx (.var 0) (.bin .sub (.var 4) (.cst (.int 1)))) (.nil)))))) (.cons (.asg [] 6 (.call 54 (.cons (.var 1) (.cons (.var 2) (.cons (.idx (.var 0) (.var 4)) (.nil)))))) (.cons (.ifs [] (.cmp .lt (.bin .mul (.call 62 (.cons (.var 5) (.nil))) (.call 62 (.cons (.var 6) (.nil)))) (.cst (.int 0))) (.cons (.asg [] 7 (.call 15 (.cons (.var 5) (.cons (.var 6) (.nil))))) (.cons (.asg [] 8 (.call 13 (.cons (.bin .mul (.idx (.var 5) (.cst (.int 0))) (.idx (.var 7) (.cst (.int 1)))) (.cons (.bin .mul (.idx (.var 5) (.cst (.int 1))) (.idx (.var 7) (.cst (.int 0)))) (.nil))))) (.cons (.asg [] 9 (.compR (.nm 10) (.cst (.int 0)) (.cst (.int 2)) (.cst (.bl true)) (.call 15 (.cons (.idx (.idx (.var 0) (.var 4)) (.var 10)) (.cons (.idx (.idx (.var 0) (.bin .sub (.var 4) (.cst (.int 1)))) (.var 10)) (.nil)))))) (.cons (.app [] 3 (.bif .tuple (.cons (.compR (.nm 10) (.cst (.int 0)) (.cst (.int 2)) (.cst (.bl true)) (.call 14 (.cons (.idx (.idx (.var 0) (.bin .sub (.var 4) (.cst (.int 1)))) (.var 10)) (.cons (.call 16 (.cons (.var 8) (.cons (.idx (.var 9) (.var 10)) (.nil)))) (.nil))))) (.nil)))) (.nil))))) (.nil)) (.cons (.ifs [] (.cmp .ge (.call 62 (.cons (.var 6) (.nil))) (.cst (.int 0))) (.cons (.app [] 3 (.idx (.var 0) (.var 4))) (.nil)) (.nil)) (.nil)))))) (.cons (.ret [3] (.var 3)) (.nil)))
def cb_w_area : CSs := .cons (.asg [] 1 (.call 17 (.cons (.compR (.nm 2) (.cst (.int 1)) (.bif .len (.cons (.var 0) (.nil))) (.cst (.bl true)) (.call 54 (.cons (.idx (.var 0) (.cst (.int 0))) (.cons (.idx (.var 0) (.bin .sub (.var 2) (.cst (.int 1)))) (.cons (.idx (.var 0) (.var 2)) (.nil)))))) (.nil)))) (.cons (.ret [] (.call 13 (.cons (.idx (.var 1) (.cst (.int 0))) (.cons (.bin .mul (.cst (.int 2)) (.idx (.var 1) (.cst (.int 1)))) (.nil))))) (.nil))
def cb_w_along : CSs := .cons (.ret [] (.bif .tuple (.cons (.compR (.nm 3) (.cst (.int 0)) (.cst (.int 2)) (.cst (.bl true)) (.call 14 (.cons (.idx (.var 0) (.var 3)) (.cons (.call 16 (.cons (.var 2) (.cons (.call 15 (.cons (.idx (.var 1) (.var 3)) (.cons (.idx (.var 0) (.var 3)) (.nil)))) (.nil)))) (.nil))))) (.nil)))) (.nil)
def cb_w_parted : CSs := .cons (.asg [] 3 (.call 13 (.cons (.bin .add (.cst (.int 1)) (.call 11 (.cons (.var 0) (.cons (.var 1) (.cons (.cst (.int 6)) (.nil)))))) (.cons (.cst (.int 7)) (.nil))))) (.cons (.asg [] 4 (.call 89 (.cons (.idx (.var 2) (.cst (.int 1))) (.cons (.idx (.var 2) (.cst (.int 2))) (.cons (.var 3) (.nil)))))) (.cons (.asg [] 5 (.call 16 (.cons (.var 3) (.cons (.call 88 (.cons (.var 2) (.nil))) (.nil))))) (.cons (.ret [] (.cmp .eq (.call 75 (.cons (.var 2) (.cons (.var 4) (.cons (.idx (.var 2) (.cst (.int 0))) (.nil))))) (.var 5))) (.nil))))
def cb_is_ahead : CSs := .cons (.asg [] 2 (.call 57 (.cons (.call 45 (.cons (.idx (.var 0) (.cst (.int 0))) (.cons (.idx (.var 1) (.cst (.int 0))) (.nil)))) (.nil)))) (.cons (.ret [] (.or (.cmp .lt (.var 2) (.cst (.int 0))) (.and (.cmp .eq (.var 2) (.cst (.int 0))) (.cmp .lt (.call 57 (.cons (.call 45 (.cons (.idx (.var 0) (.cst (.int 1))) (.cons (.idx (.var 1) (.cst (.int 1))) (.nil)))) (.nil))) (.cst (.int 0)))))) (.nil))
def cb_in_order : CSs := .cons (.asg [] 1 (.lst (.nil))) (.cons (.for_ [] (.nm 2) (.var 0) (.cons (.ifs [] (.cmp .isin (.var 2) (.var 1)) (.cons (.cnt) (.nil)) (.nil)) (.cons (.asg [] 3 (.cst (.int 0))) (.cons (.whl [] (.and (.cmp .lt (.var 3) (.bif .len (.cons (.var 1) (.nil)))) (.call 77 (.cons (.idx (.var 1) (.var 3)) (.cons (.var 2) (.nil))))) (.cons (.asg [] 3 (.bin .add (.var 3) (.cst (.int 1)))) (.nil))) (.cons (.asg [] 1 (.bin .add (.bin .add (.slc (.var 1) (.cst .non) (.var 3)) (.lst (.cons (.var 2) (.nil)))) (.slc (.var 1) (.var 3) (.cst .non)))) (.nil)))))) (.cons (.ret [] (.var 1)) (.nil)))
def cb_right_corners : CSs := .cons (.own [] 1 (.lst (.nil))) (.cons (.for_ [] (.nm 2) (.var 0) (.cons (.whl [] (.and (.cmp .gt (.olen 1) (.cst (.int 1))) (.cmp .le (.call 57 (.cons (.call 56 (.cons (.oidx 1 (.neg (.cst (.int 2)))) (.cons (.oidx 1 (.neg (.cst (.int 1)))) (.cons (.var 2) (.nil))))) (.nil))) (.cst (.int 0)))) (.cons (.pop 1) (.nil))) (.cons (.app [] 1 (.var 2)) (.nil)))) (.cons (.ret [1] (.var 1)) (.nil)))
def cb_hull_of : CSs := .cons (.asg [] 1 (.call 78 (.cons (.var 0) (.nil)))) (.cons (.ret [] (.bin .add (.slc (.call 79 (.cons (.var 1) (.nil))) (.cst .non) (.neg (.cst (.int 1)))) (.slc (.call 79 (.cons (.rev (.var 1)) (.nil))) (.cst .non) (.neg (.cst (.int 1)))))) (.nil))
def cb_is_hull : CSs := .cons (.asg [] 1 (.call 80 (.cons (.var 0) (.nil)))) (.cons (.ifs [] (.or (.cmp .lt (.bif .len (.cons (.var 1) (.nil))) (.cst (.int 3))) (.cmp .ne (.bif .len (.cons (.var 1) (.nil))) (.bif .len (.cons (.var 0) (.nil))))) (.cons (.ret [] (.cst (.bl false))) (.nil)) (.nil)) (.cons (.asg [] 2 (.mth .index (.var 0) (.cons (.idx (.var 1) (.cst (.int 0))) (.nil)))) (.cons (.ret [] (.cmp .eq (.bin .add (.slc (.var 0) (.var 2) (.cst .non)) (.slc (.var 0) (.cst .non) (.var 2))) (.var 1))) (.nil))))
def cb_common : CSs := .cons (.ex [] (.call 49 (.cons (.var 0) (.nil)))) (.cons (.ex [] (.call 49 (.cons (.var 1) (.nil)))) (.cons (.ifs [] (.or (.not (.call 82 (.cons (.var 0) (.nil)))) (.not (.call 82 (.cons (.var 1) (.nil))))) (.cons (.rse 3) (.nil)) (.nil)) (.cons (.asg [] 2 (.var 0)) (.cons (.forR [] (.nm 3) (.cst (.int 0)) (.bif .len (.cons (.var 1) (.nil))) (.cons (.asg [] 2 (.call 73 (.cons (.var 2) (.cons (.idx (.var 1) (.bin .sub (.var 3) (.cst (.int 1)))) (.cons (.idx (.var 1) (.var 3)) (.nil)))))) (.nil))) (.cons (.ret [] (.ite (.cmp .gt (.bif .len (.cons (.var 2) (.nil))) (.cst (.int 2))) (.call 74 (.cons (.call 50 (.cons (.var 2) (.nil))) (.nil))) (.glo 15))) (.nil))))))
def cb_w_both : CSs := .cons (.asg [] 2 (.var 0)) (.cons (.forR [] (.nm 3) (.cst (.int 0)) (.bif .len (.cons (.var 1) (.nil))) (.cons (.asg [] 2 (.call 87 (.cons (.var 2) (.cons (.idx (.var 1) (.bin .sub (.var 3) (.cst (.int 1)))) (.cons (.idx (.var 1) (.var 3)) (.nil)))))) (.nil))) (.cons (.ret [] (.ite (.cmp .gt (.bif .len (.cons (.var 2) (.nil))) (.cst (.int 2))) (.call 88 (.cons (.var 2) (.nil))) (.tup (.cons (.cst (.int 0)) (.cons (.cst (.int 1)) (.nil)))))) (.nil)))
def cb_w_is_box : CSs := .cons (.own [] 2 (.lst (.nil))) (.cons (.forR [] (.nm 3) (.cst (.int 0)) (.cst (.int 2)) (.cons (.asg [] 6 (.lst (.cons (.call 11 (.cons (.var 0) (.cons (.var 1) (.cons (.cst (.int 9)) (.nil))))) (.cons (.call 11 (.cons (.var 0) (.cons (.var 1) (.cons (.cst (.int 9)) (.nil))))) (.nil))))) (.cons (.app [] 2 (.tup (.cons (.var 6) (.cons (.lst (.cons (.bin .add (.bin .add (.idx (.var 6) (.cst (.int 0))) (.cst (.int 1))) (.call 11 (.cons (.var 0) (.cons (.var 1) (.cons (.cst (.int 7)) (.nil)))))) (.cons (.bin .add (.bin .add (.idx (.var 6) (.cst (.int 1))) (.cst (.int 1))) (.call 11 (.cons (.var 0) (.cons (.var 1) (.cons (.cst (.int 7)) (.nil)))))) (.nil)))) (.nil))))) (.nil)))) (.cons (.asg [] 4 (.cst (.int 1))) (.cons (.forR [] (.nm 3) (.cst (.int 0)) (.cst (.int 2)) (.cons (.asg [] 4 (.bin .mul (.var 4) (.bif .max2 (.cons (.cst (.int 0)) (.cons (.bin .sub (.bif .min2 (.cons (.idx (.idx (.oidx 2 (.cst (.int 0))) (.cst (.int 1))) (.var 3)) (.cons (.idx (.idx (.oidx 2 (.cst (.int 1))) (.cst (.int 1))) (.var 3)) (.nil)))) (.bif .max2 (.cons (.idx (.idx (.oidx 2 (.cst (.int 0))) (.cst (.int 0))) (.var 3)) (.cons (.idx (.idx (.oidx 2 (.cst (.int 1))) (.cst (.int 0))) (.var 3)) (.nil))))) (.nil)))))) (.nil))) (.cons (.own [] 5 (.lst (.nil))) (.cons (.for_ [2] (.tp [6, 7]) (.var 2) (.cons (.asg [] 8 (.lst (.cons (.tup (.cons (.idx (.var 6) (.cst (.int 0))) (.cons (.idx (.var 6) (.cst (.int 1))) (.nil)))) (.cons (.tup (.cons (.idx (.var 7) (.cst (.int 0))) (.cons (.idx (.var 6) (.cst (.int 1))) (.nil)))) (.cons (.tup (.cons (.idx (.var 7) (.cst (.int 0))) (.cons (.idx (.var 7) (.cst (.int 1))) (.nil)))) (.cons (.tup (.cons (.idx (.var 6) (.cst (.int 0))) (.cons (.idx (.var 7) (.cst (.int 1))) (.nil)))) (.nil))))))) (.cons (.app [] 5 (.comp (.tp [9, 10]) (.var 8) (.cst (.bl true)) (.tup (.cons (.tup (.cons (.var 9) (.cons (.cst (.int 1)) (.nil)))) (.cons (.tup (.cons (.var 10) (.cons (.cst (.int 1)) (.nil)))) (.nil)))))) (.nil)))) (.cons (.ret [] (.cmp .eq (.call 84 (.cons (.oidx 5 (.cst (.int 0))) (.cons (.oidx 5 (.cst (.int 1))) (.nil)))) (.tup (.cons (.var 4) (.cons (.cst (.int 1)) (.nil)))))) (.nil)))))))
def cb_w_cut_up : CSs := .cons (.asg [] 4 (.lst (.cons (.call 87 (.cons (.var 0) (.cons (.var 2) (.cons (.var 3) (.nil))))) (.cons (.call 87 (.cons (.var 0) (.cons (.var 3) (.cons (.var 2) (.nil))))) (.nil))))) (.cons (.asg [] 4 (.comp (.nm 5) (.var 4) (.and (.cmp .gt (.bif .len (.cons (.var 5) (.nil))) (.cst (.int 2))) (.cmp .gt (.idx (.call 88 (.cons (.var 5) (.nil))) (.cst (.int 0))) (.cst (.int 0)))) (.var 5))) (.cons (.ret [] (.cmp .eq (.call 17 (.cons (.comp (.nm 5) (.var 4) (.cst (.bl true)) (.call 84 (.cons (.var 5) (.cons (.var 1) (.nil))))) (.nil))) (.call 84 (.cons (.var 0) (.cons (.var 1) (.nil)))))) (.nil)))
def cb_side_of : CSs := .cons (.ex [] (.call 49 (.cons (.var 0) (.nil)))) (.cons (.ifs [] (.not (.call 48 (.cons (.var 1) (.nil)))) (.cons (.rse 3) (.nil)) (.nil)) (.cons (.asg [] 2 (.cst (.int 0))) (.cons (.forR [] (.nm 3) (.cst (.int 0)) (.bif .len (.cons (.var 0) (.nil))) (.cons (.par [] [7, 8] (.cons (.idx (.var 0) (.bin .sub (.var 3) (.cst (.int 1)))) (.cons (.idx (.var 0) (.var 3)) (.nil)))) (.cons (.asg [] 4 (.call 57 (.cons (.call 56 (.cons (.var 7) (.cons (.var 8) (.cons (.var 1) (.nil))))) (.nil)))) (.cons (.ifs [] (.and (.cmp .eq (.var 4) (.cst (.int 0))) (.call 58 (.cons (.var 7) (.cons (.var 8) (.cons (.var 1) (.nil)))))) (.cons (.ret [] (.cst (.str "on"))) (.nil)) (.nil)) (.cons (.asg [] 5 (.cmp .le (.call 57 (.cons (.call 45 (.cons (.idx (.var 7) (.cst (.int 1))) (.cons (.idx (.var 1) (.cst (.int 1))) (.nil)))) (.nil))) (.cst (.int 0)))) (.cons (.asg [] 6 (.cmp .le (.call 57 (.cons (.call 45 (.cons (.idx (.var 8) (.cst (.int 1))) (.cons (.idx (.var 1) (.cst (.int 1))) (.nil)))) (.nil))) (.cst (.int 0)))) (.cons (.ifs [] (.and (.var 5) (.and (.not (.var 6)) (.cmp .gt (.var 4) (.cst (.int 0))))) (.cons (.asg [] 2 (.bin .add (.var 2) (.cst (.int 1)))) (.nil)) (.nil)) (.cons (.ifs [] (.and (.var 6) (.and (.not (.var 5)) (.cmp .lt (.var 4) (.cst (.int 0))))) (.cons (.asg [] 2 (.bin .sub (.var 2) (.cst (.int 1)))) (.nil)) (.nil)) (.nil))))))))) (.cons (.ret [] (.ite (.cmp .eq (.var 2) (.cst (.int 0))) (.cst (.str "out")) (.cst (.str "in")))) (.nil)))))
def cb_w_one_v3 : CSs := .cons (.asg [] 2 (.idx (.var 1) (.cst (.int 0)))) (.cons (.asg [] 3 (.idx (.var 1) (.cst (.int 1)))) (.cons (.asg [] 4 (.idx (.var 1) (.cst (.int 2)))) (.cons (.asg [] 5 (.idx (.var 1) (.cst (.int 3)))) (.cons (.ifs [] (.cmp .eq (.var 0) (.cst (.int 0))) (.cons (.ret [] (.call 51 (.cons (.var 2) (.nil)))) (.nil)) (.nil)) (.cons (.ifs [] (.cmp .eq (.var 0) (.cst (.int 1))) (.cons (.ret [] (.call 61 (.cons (.var 2) (.nil)))) (.nil)) (.nil)) (.cons (.ifs [] (.cmp .eq (.var 0) (.cst (.int 2))) (.cons (.ret [] (.call 68 (.cons (.var 2) (.cons (.var 3) (.nil))))) (.nil)) (.nil)) (.cons (.ifs [] (.cmp .eq (.var 0) (.cst (.int 3))) (.cons (.ret [] (.call 71 (.cons (.var 2) (.cons (.var 4) (.cons (.var 5) (.nil)))))) (.nil)) (.nil)) (.cons (.ret [] (.cst .non)) (.nil)))))))))
def cb_w_lies : CSs := .cons (.ifs [] (.cmp .ne (.idx (.call 54 (.cons (.var 0) (.cons (.var 1) (.cons (.var 2) (.nil))))) (.cst (.int 0))) (.cst (.int 0))) (.cons (.ret [] (.cst (.bl false))) (.nil)) (.nil)) (.cons (.forR [] (.nm 3) (.cst (.int 0)) (.cst (.int 2)) (.cons (.ifs [] (.cmp .gt (.bin .mul (.call 62 (.cons (.call 15 (.cons (.idx (.var 2) (.var 3)) (.cons (.idx (.var 0) (.var 3)) (.nil)))) (.nil))) (.call 62 (.cons (.call 15 (.cons (.idx (.var 2) (.var 3)) (.cons (.idx (.var 1) (.var 3)) (.nil)))) (.nil)))) (.cst (.int 0))) (.cons (.ret [] (.cst (.bl false))) (.nil)) (.nil)) (.nil))) (.cons (.ret [] (.cst (.bl true))) (.nil)))
def cb_w_meet : CSs := .cons (.ifs [] (.or (.call 94 (.cons (.var 0) (.cons (.var 1) (.cons (.var 2) (.nil))))) (.call 94 (.cons (.var 0) (.cons (.var 1) (.cons (.var 3) (.nil)))))) (.cons (.ret [] (.cst (.bl true))) (.nil)) (.nil)) (.cons (.ifs [] (.or (.call 94 (.cons (.var 2) (.cons (.var 3) (.cons (.var 0) (.nil))))) (.call 94 (.cons (.var 2) (.cons (.var 3) (.cons (.var 1) (.nil)))))) (.cons (.ret [] (.cst (.bl true))) (.nil)) (.nil)) (.cons (.asg [] 4 (.bin .mul (.call 62 (.cons (.call 54 (.cons (.var 0) (.cons (.var 1) (.cons (.var 2) (.nil))))) (.nil))) (.call 62 (.cons (.call 54 (.cons (.var 0) (.cons (.var 1) (.cons (.var 3) (.nil))))) (.nil))))) (.cons (.asg [] 5 (.bin .mul (.call 62 (.cons (.call 54 (.cons (.var 2) (.cons (.var 3) (.cons (.var 0) (.nil))))) (.nil))) (.call 62 (.cons (.call 54 (.cons (.var 2) (.cons (.var 3) (.cons (.var 1) (.nil))))) (.nil))))) (.cons (.ret [] (.and (.cmp .lt (.var 4) (.cst (.int 0))) (.cmp .lt (.var 5) (.cst (.int 0))))) (.nil)))))
def cb_w_is_simple : CSs := .cons (.asg [] 1 (.bif .len (.cons (.var 0) (.nil)))) (.cons (.asg [] 2 (.compR (.nm 5) (.cst (.int 0)) (.var 1) (.cst (.bl true)) (.tup (.cons (.idx (.var 0) (.var 5)) (.cons (.idx (.var 0) (.bin .mod (.bin .add (.var 5) (.cst (.int 1))) (.var 1))) (.nil)))))) (.cons (.forR [] (.nm 3) (.cst (.int 0)) (.var 1) (.cons (.forR [] (.nm 4) (.cst (.int 0)) (.var 3) (.cons (.ifs [] (.cmp .isin (.bin .mod (.bin .sub (.var 3) (.var 4)) (.var 1)) (.tup (.cons (.cst (.int 1)) (.cons (.bin .sub (.var 1) (.cst (.int 1))) (.nil))))) (.cons (.tas [] [6, 7] (.ite (.cmp .eq (.bin .mod (.bin .sub (.var 3) (.var 4)) (.var 1)) (.cst (.int 1))) (.tup (.cons (.idx (.var 2) (.var 4)) (.cons (.idx (.var 2) (.var 3)) (.nil)))) (.tup (.cons (.idx (.var 2) (.var 3)) (.cons (.idx (.var 2) (.var 4)) (.nil)))))) (.cons (.ifs [] (.or (.call 94 (.cons (.idx (.var 6) (.cst (.int 0))) (.cons (.idx (.var 6) (.cst (.int 1))) (.cons (.idx (.var 7) (.cst (.int 1))) (.nil))))) (.call 94 (.cons (.idx (.var 7) (.cst (.int 0))) (.cons (.idx (.var 7) (.cst (.int 1))) (.cons (.idx (.var 6) (.cst (.int 0))) (.nil)))))) (.cons (.ret [] (.cst (.bl false))) (.nil)) (.nil)) (.nil))) (.cons (.ifs [] (.call 95 (.cons (.idx (.idx (.var 2) (.var 3)) (.cst (.int 0))) (.cons (.idx (.idx (.var 2) (.var 3)) (.cst (.int 1))) (.cons (.idx (.idx (.var 2) (.var 4)) (.cst (.int 0))) (.cons (.idx (.idx (.var 2) (.var 4)) (.cst (.int 1))) (.nil)))))) (.cons (.ret [] (.cst (.bl false))) (.nil)) (.nil)) (.nil))) (.nil))) (.nil))) (.cons (.ret [] (.cst (.bl true))) (.nil))))
def cb_w_side : CSs := .cons (.asg [] 2 (.cst (.int 0))) (.cons (.forR [] (.nm 3) (.cst (.int 0)) (.bif .len (.cons (.var 0) (.nil))) (.cons (.par [] [6, 7] (.cons (.idx (.var 0) (.bin .sub (.var 3) (.cst (.int 1)))) (.cons (.idx (.var 0) (.var 3)) (.nil)))) (.cons (.ifs [] (.call 94 (.cons (.var 6) (.cons (.var 7) (.cons (.var 1) (.nil))))) (.cons (.ret [] (.cst (.str "on"))) (.nil)) (.nil)) (.cons (.asg [] 4 (.cmp .gt (.call 62 (.cons (.call 15 (.cons (.idx (.var 7) (.cst (.int 1))) (.cons (.idx (.var 1) (.cst (.int 1))) (.nil)))) (.nil))) (.cst (.int 0)))) (.cons (.asg [] 5 (.cmp .gt (.call 62 (.cons (.call 15 (.cons (.idx (.var 6) (.cst (.int 1))) (.cons (.idx (.var 1) (.cst (.int 1))) (.nil)))) (.nil))) (.cst (.int 0)))) (.cons (.ifs [] (.and (.var 4) (.and (.not (.var 5)) (.cmp .gt (.call 62 (.cons (.call 54 (.cons (.var 6) (.cons (.var 7) (.cons (.var 1) (.nil))))) (.nil))) (.cst (.int 0))))) (.cons (.asg [] 2 (.bin .add (.var 2) (.cst (.int 1)))) (.nil)) (.nil)) (.cons (.ifs [] (.and (.var 5) (.and (.not (.var 4)) (.cmp .lt (.call 62 (.cons (.call 54 (.cons (.var 6) (.cons (.var 7) (.cons (.var 1) (.nil))))) (.nil))) (.cst (.int 0))))) (.cons (.asg [] 2 (.bin .sub (.var 2) (.cst (.int 1)))) (.nil)) (.nil)) (.nil)))))))) (.cons (.ret [] (.ite (.cmp .ne (.var 2) (.cst (.int 0))) (.cst (.str "in")) (.cst (.str "out")))) (.nil)))
def cb_w_bad_v1 : CSs := .cons (.asg [] 5 (.lst (.cons (.tup (.cons (.tup (.cons (.cst (.int 0)) (.cons (.cst (.int 1)) (.nil)))) (.cons (.tup (.cons (.cst (.int 0)) (.cons (.cst (.int 1)) (.nil)))) (.nil)))) (.cons (.tup (.cons (.tup (.cons (.cst (.int 4)) (.cons (.cst (.int 1)) (.nil)))) (.cons (.tup (.cons (.cst (.int 0)) (.cons (.cst (.int 1)) (.nil)))) (.nil)))) (.cons (.tup (.cons (.tup (.cons (.cst (.int 4)) (.cons (.cst (.int 1)) (.nil)))) (.cons (.tup (.cons (.cst (.int 6)) (.cons (.cst (.int 1)) (.nil)))) (.nil)))) (.cons (.tup (.cons (.tup (.cons (.cst (.int 0)) (.cons (.cst (.int 1)) (.nil)))) (.cons (.tup (.cons (.cst (.int 6)) (.cons (.cst (.int 1)) (.nil)))) (.nil)))) (.nil))))))) (.cons (.ifs [] (.or (.cmp .ne (.call 71 (.cons (.var 5) (.cons (.tup (.cons (.cst (.int 1)) (.cons (.cst (.int 1)) (.nil)))) (.cons (.tup (.cons (.cst (.int 5)) (.cons (.cst (.int 2)) (.nil)))) (.nil))))) (.tup (.cons (.cst (.int 6)) (.cons (.cst (.int 1)) (.nil))))) (.call 61 (.cons (.bin .add (.slc (.var 5) (.cst .non) (.cst (.int 2))) (.lst (.cons (.tup (.cons (.tup (.cons (.bin .add (.cst (.int 5)) (.var 2)) (.cons (.cst (.int 1)) (.nil)))) (.cons (.tup (.cons (.cst (.int 0)) (.cons (.cst (.int 1)) (.nil)))) (.nil)))) (.nil)))) (.nil)))) (.cons (.ret [] (.cst (.bl false))) (.nil)) (.nil)) (.cons (.asg [] 6 (.call 11 (.cons (.var 0) (.cons (.var 1) (.cons (.bif .len (.cons (.var 3) (.nil))) (.nil)))))) (.cons (.asg [] 7 (.lst (.cons (.cst .non) (.cons (.tup (.cons (.idx (.var 4) (.cst (.int 0))) (.nil))) (.cons (.lst (.cons (.idx (.var 4) (.cst (.int 0))) (.cons (.idx (.var 4) (.cst (.int 1))) (.nil)))) (.cons (.tup (.cons (.cst (.int 1)) (.cons (.cst (.int 2)) (.nil)))) (.cons (.tup (.cons (.tup (.cons (.cst (.int 2)) (.cons (.cst (.int 4)) (.nil)))) (.cons (.tup (.cons (.cst (.int 0)) (.cons (.cst (.int 1)) (.nil)))) (.nil)))) (.cons (.tup (.cons (.tup (.cons (.cst (.int 1)) (.cons (.cst (.int 0)) (.nil)))) (.cons (.tup (.cons (.cst (.int 0)) (.cons (.cst (.int 1)) (.nil)))) (.nil)))) (.cons (.tup (.cons (.tup (.cons (.cst (.int 1)) (.cons (.bin .sub (.cst (.int 0)) (.cst (.int 1))) (.nil)))) (.cons (.tup (.cons (.cst (.int 0)) (.cons (.cst (.int 1)) (.nil)))) (.nil)))) (.nil)))))))))) (.cons (.asg [] 7 (.bin .add (.var 7) (.lst (.cons (.tup (.cons (.tup (.cons (.cst (.bl true)) (.cons (.cst (.int 1)) (.nil)))) (.cons (.tup (.cons (.cst (.int 0)) (.cons (.cst (.int 1)) (.nil)))) (.nil)))) (.cons (.idx (.var 3) (.bin .sub (.var 6) (.cst (.int 1)))) (.cons (.tup (.cons (.idx (.var 4) (.cst (.int 0))) (.cons (.cst .non) (.nil)))) (.nil))))))) (.cons (.asg [] 8 (.bin .add (.bin .add (.slc (.var 3) (.cst .non) (.var 6)) (.lst (.cons (.idx (.var 7) (.var 2)) (.nil)))) (.slc (.var 3) (.bin .add (.var 6) (.cst (.int 1))) (.cst .non)))) (.cons (.asg [] 8 (.call 12 (.cons (.var 0) (.cons (.var 1) (.cons (.lst (.cons (.var 8) (.cons (.var 8) (.cons (.var 8) (.cons (.slc (.var 3) (.cst .non) (.cst (.int 2))) (.cons (.bif .tuple (.cons (.var 3) (.nil))) (.cons (.slc (.bin .mul (.var 3) (.cst (.int 21))) (.cst .non) (.cst (.int 41))) (.nil)))))))) (.nil)))))) (.cons (.ifs [] (.cmp .ne (.compR (.nm 10) (.cst (.int 0)) (.cst (.int 4)) (.cst (.bl true)) (.call 28 (.cons (.var 10) (.cons (.lst (.cons (.var 8) (.cons (.var 4) (.cons (.tup (.cons (.cst (.int 0)) (.cons (.cst (.int 1)) (.nil)))) (.cons (.tup (.cons (.cst (.int 1)) (.cons (.cst (.int 1)) (.nil)))) (.nil)))))) (.nil))))) (.bin .mul (.lst (.cons (.tup (.cons (.cst (.str "refused")) (.cons (.cst (.str "point")) (.nil)))) (.nil))) (.cst (.int 4)))) (.cons (.ret [] (.cst (.bl false))) (.nil)) (.nil)) (.cons (.ifs [] (.cmp .ne (.call 28 (.cons (.cst (.int 2)) (.cons (.lst (.cons (.var 3) (.cons (.ite (.cmp .ne (.var 2) (.cst (.int 8))) (.idx (.var 7) (.var 2)) (.cst .non)) (.cons (.cst (.int 0)) (.cons (.cst (.int 0)) (.nil)))))) (.nil)))) (.tup (.cons (.cst (.str "refused")) (.cons (.cst (.str "point")) (.nil))))) (.cons (.ret [] (.cst (.bl false))) (.nil)) (.nil)) (.cons (.asg [] 9 (.lst (.cons (.tup (.cons (.tup (.cons (.cst (.int 1)) (.cons (.cst (.int 1)) (.nil)))) (.cons (.tup (.cons (.cst (.int 0)) (.cons (.cst (.int 1)) (.nil)))) (.nil)))) (.cons (.tup (.cons (.tup (.cons (.cst (.int 0)) (.cons (.cst (.int 2)) (.nil)))) (.cons (.tup (.cons (.cst (.int 1)) (.cons (.cst (.int 1)) (.nil)))) (.nil)))) (.cons (.tup (.cons (.tup (.cons (.cst (.int 0)) (.cons (.cst (.int 1)) (.nil)))) (.cons (.cst (.int 1)) (.nil)))) (.cons (.tup (.cons (.cst .non) (.cons (.tup (.cons (.cst (.int 0)) (.cons (.cst (.int 1)) (.nil)))) (.nil)))) (.nil))))))) (.cons (.ret [] (.cmp .eq (.comp (.tp [11, 12]) (.var 9) (.cst (.bl true)) (.call 28 (.cons (.cst (.int 3)) (.cons (.lst (.cons (.var 3) (.cons (.var 4) (.cons (.var 11) (.cons (.var 12) (.nil)))))) (.nil))))) (.bin .mul (.lst (.cons (.tup (.cons (.cst (.str "refused")) (.cons (.cst (.str "point")) (.nil)))) (.nil))) (.cst (.int 4))))) (.nil)))))))))))
def cb_look_four : CSs := .cons (.ifs [] (.or (.not (.isi (.var 0) .tuple)) (.or (.cmp .ne (.bif .len (.cons (.var 0) (.nil))) (.cst (.int 4))) (.or (.not (.call 48 (.cons (.slc (.var 0) (.cst .non) (.cst (.int 2))) (.nil)))) (.not (.call 48 (.cons (.slc (.var 0) (.cst (.int 2)) (.cst .non)) (.nil))))))) (.cons (.rse 3) (.nil)) (.nil)) (.nil)
def cb_led_by : CSs := .cons (.tas [] [3, 4, 5, 6] (.var 0)) (.cons (.asg [] 2 (.call 32 (.cons (.call 45 (.cons (.call 46 (.cons (.var 3) (.cons (.idx (.var 1) (.cst (.int 0))) (.nil)))) (.cons (.call 46 (.cons (.var 4) (.cons (.idx (.var 1) (.cst (.int 1))) (.nil)))) (.nil)))) (.cons (.var 5) (.nil))))) (.cons (.ret [] (.tup (.cons (.var 2) (.cons (.call 32 (.cons (.call 32 (.cons (.call 46 (.cons (.var 4) (.cons (.idx (.var 1) (.cst (.int 0))) (.nil)))) (.cons (.call 46 (.cons (.var 3) (.cons (.idx (.var 1) (.cst (.int 1))) (.nil)))) (.nil)))) (.cons (.var 6) (.nil)))) (.nil))))) (.nil)))
def cb_led : CSs := .cons (.ex [] (.call 162 (.cons (.var 0) (.nil)))) (.cons (.ifs [] (.or (.not (.isi (.var 1) .list)) (.or (.cmp .gt (.bif .len (.cons (.var 1) (.nil))) (.glo 6)) (.not (.bif .all (.cons (.comp (.nm 3) (.var 1) (.cst (.bl true)) (.call 48 (.cons (.var 3) (.nil)))) (.nil)))))) (.cons (.rse 3) (.nil)) (.nil)) (.cons (.ret [] (.comp (.nm 2) (.var 1) (.cst (.bl true)) (.call 163 (.cons (.var 0) (.cons (.var 2) (.nil)))))) (.nil)))
def cb_scale : CSs := .cons (.ex [] (.call 162 (.cons (.var 0) (.nil)))) (.cons (.ret [] (.call 32 (.cons (.call 46 (.cons (.idx (.var 0) (.cst (.int 0))) (.cons (.idx (.var 0) (.cst (.int 0))) (.nil)))) (.cons (.call 46 (.cons (.idx (.var 0) (.cst (.int 1))) (.cons (.idx (.var 0) (.cst (.int 1))) (.nil)))) (.nil))))) (.nil))
def cb_back : CSs := .cons (.ex [] (.call 162 (.cons (.var 0) (.nil)))) (.cons (.tas [] [3, 4, 5, 6] (.var 0)) (.cons (.asg [] 1 (.call 32 (.cons (.call 46 (.cons (.var 3) (.cons (.var 3) (.nil)))) (.cons (.call 46 (.cons (.var 4) (.cons (.var 4) (.nil)))) (.nil))))) (.cons (.ifs [] (.cmp .eq (.var 1) (.tup (.cons (.cst (.int 0)) (.cons (.cst (.int 1)) (.nil))))) (.cons (.rse 3) (.nil)) (.nil)) (.cons (.par [] [7, 8] (.cons (.call 70 (.cons (.var 3) (.cons (.var 1) (.nil)))) (.cons (.call 70 (.cons (.call 45 (.cons (.tup (.cons (.cst (.int 0)) (.cons (.cst (.int 1)) (.nil)))) (.cons (.var 4) (.nil)))) (.cons (.var 1) (.nil)))) (.nil)))) (.cons (.asg [] 2 (.call 45 (.cons (.call 46 (.cons (.var 8) (.cons (.var 6) (.nil)))) (.cons (.call 46 (.cons (.var 7) (.cons (.var 5) (.nil)))) (.nil))))) (.cons (.ret [] (.tup (.cons (.var 7) (.cons (.var 8) (.cons (.var 2) (.cons (.call 45 (.cons (.tup (.cons (.cst (.int 0)) (.cons (.cst (.int 1)) (.nil)))) (.cons (.call 32 (.cons (.call 46 (.cons (.var 8) (.cons (.var 5) (.nil)))) (.cons (.call 46 (.cons (.var 7) (.cons (.var 6) (.nil)))) (.nil)))) (.nil)))) (.nil))))))) (.nil)))))))
def cb_behind : CSs := .cons (.ex [] (.call 162 (.cons (.var 0) (.nil)))) (.cons (.ex [] (.call 162 (.cons (.var 1) (.nil)))) (.cons (.tas [] [4, 5, 6, 7] (.tup (.cons (.idx (.var 0) (.cst (.int 0))) (.cons (.idx (.var 0) (.cst (.int 1))) (.cons (.idx (.var 1) (.cst (.int 0))) (.cons (.idx (.var 1) (.cst (.int 1))) (.nil))))))) (.cons (.asg [] 2 (.call 45 (.cons (.call 46 (.cons (.var 4) (.cons (.var 6) (.nil)))) (.cons (.call 46 (.cons (.var 5) (.cons (.var 7) (.nil)))) (.nil))))) (.cons (.asg [] 3 (.call 32 (.cons (.call 46 (.cons (.var 4) (.cons (.var 7) (.nil)))) (.cons (.call 46 (.cons (.var 5) (.cons (.var 6) (.nil)))) (.nil))))) (.cons (.ret [] (.bin .add (.tup (.cons (.var 2) (.cons (.var 3) (.nil)))) (.call 163 (.cons (.var 1) (.cons (.slc (.var 0) (.cst (.int 2)) (.cst .non)) (.nil)))))) (.nil))))))
def cb_still : CSs := .cons (.ex [] (.call 162 (.cons (.var 0) (.nil)))) (.cons (.tas [] [3, 4, 5, 6] (.var 0)) (.cons (.par [] [7, 8] (.cons (.call 45 (.cons (.tup (.cons (.cst (.int 1)) (.cons (.cst (.int 1)) (.nil)))) (.cons (.var 3) (.nil)))) (.cons (.call 45 (.cons (.tup (.cons (.cst (.int 0)) (.cons (.cst (.int 1)) (.nil)))) (.cons (.var 4) (.nil)))) (.nil)))) (.cons (.asg [] 1 (.call 32 (.cons (.call 46 (.cons (.var 7) (.cons (.var 7) (.nil)))) (.cons (.call 46 (.cons (.var 8) (.cons (.var 8) (.nil)))) (.nil))))) (.cons (.ifs [] (.cmp .eq (.var 1) (.tup (.cons (.cst (.int 0)) (.cons (.cst (.int 1)) (.nil))))) (.cons (.ret [] (.cst .non)) (.nil)) (.nil)) (.cons (.asg [] 2 (.call 32 (.cons (.call 46 (.cons (.var 7) (.cons (.var 5) (.nil)))) (.cons (.call 46 (.cons (.var 8) (.cons (.var 6) (.nil)))) (.nil))))) (.cons (.ret [] (.tup (.cons (.call 70 (.cons (.var 2) (.cons (.var 1) (.nil)))) (.cons (.call 70 (.cons (.call 45 (.cons (.call 46 (.cons (.var 7) (.cons (.var 6) (.nil)))) (.cons (.call 46 (.cons (.var 8) (.cons (.var 5) (.nil)))) (.nil)))) (.cons (.var 1) (.nil)))) (.nil))))) (.nil)))))))
def cb_w_pair : CSs := .cons (.ret [] (.tup (.cons (.call 52 (.cons (.var 0) (.cons (.var 1) (.nil)))) (.cons (.call 52 (.cons (.var 0) (.cons (.var 1) (.nil)))) (.nil))))) (.nil)
def cb_w_led_v1 : CSs := .cons (.tas [] [3, 4, 5, 6] (.var 0)) (.cons (.tas [] [7, 8] (.var 1)) (.cons (.asg [] 2 (.call 14 (.cons (.call 15 (.cons (.call 16 (.cons (.var 3) (.cons (.var 7) (.nil)))) (.cons (.call 16 (.cons (.var 4) (.cons (.var 8) (.nil)))) (.nil)))) (.cons (.var 5) (.nil))))) (.cons (.ret [] (.tup (.cons (.var 2) (.cons (.call 14 (.cons (.call 14 (.cons (.call 16 (.cons (.var 4) (.cons (.var 7) (.nil)))) (.cons (.call 16 (.cons (.var 3) (.cons (.var 8) (.nil)))) (.nil)))) (.cons (.var 6) (.nil)))) (.nil))))) (.nil))))
def cb_w_four : CSs := .cons (.asg [] 2 (.call 11 (.cons (.var 0) (.cons (.var 1) (.cons (.cst (.int 6)) (.nil)))))) (.cons (.asg [] 3 (.compR (.nm 4) (.cst (.int 0)) (.cst (.int 4)) (.cst (.bl true)) (.call 15 (.cons (.call 52 (.cons (.var 0) (.cons (.var 1) (.nil)))) (.cons (.call 52 (.cons (.var 0) (.cons (.var 1) (.nil)))) (.nil)))))) (.cons (.asg [] 3 (.ite (.cmp .eq (.var 2) (.cst (.int 0))) (.bin .add (.lst (.cons (.tup (.cons (.cst (.int 0)) (.cons (.cst (.int 1)) (.nil)))) (.cons (.tup (.cons (.cst (.int 0)) (.cons (.cst (.int 1)) (.nil)))) (.nil)))) (.slc (.var 3) (.cst (.int 2)) (.cst .non))) (.var 3))) (.cons (.asg [] 3 (.ite (.cmp .eq (.var 2) (.cst (.int 1))) (.bin .add (.lst (.cons (.tup (.cons (.cst (.int 1)) (.cons (.cst (.int 1)) (.nil)))) (.cons (.tup (.cons (.cst (.int 0)) (.cons (.cst (.int 1)) (.nil)))) (.nil)))) (.slc (.var 3) (.cst (.int 2)) (.cst .non))) (.var 3))) (.cons (.ret [] (.bif .tuple (.cons (.var 3) (.nil)))) (.nil)))))
def cb_w_back : CSs := .cons (.asg [] 1 (.cst .non)) (.cons (.asg [] 2 (.cst .non)) (.cons (.tr [] 2 (.call 167 (.cons (.var 0) (.nil))) 0 (.exc 3 1)) (.cons (.ret [] (.ite (.cmp .is_ (.var 1) (.cst .non)) (.tup (.cons (.cst (.str "found")) (.cons (.var 2) (.nil)))) (.call 27 (.cons (.var 1) (.nil))))) (.nil))))
def cb_w_is_still : CSs := .cons (.asg [] 2 (.call 176 (.cons (.var 0) (.nil)))) (.cons (.ifs [] (.cmp .eq (.slc (.var 0) (.cst .non) (.cst (.int 2))) (.tup (.cons (.tup (.cons (.cst (.int 1)) (.cons (.cst (.int 1)) (.nil)))) (.cons (.tup (.cons (.cst (.int 0)) (.cons (.cst (.int 1)) (.nil)))) (.nil))))) (.cons (.ret [] (.cmp .is_ (.var 2) (.cst .non))) (.nil)) (.nil)) (.cons (.ifs [] (.or (.cmp .is_ (.var 2) (.cst .non)) (.cmp .ne (.call 168 (.cons (.var 0) (.cons (.var 2) (.nil)))) (.var 2))) (.cons (.ret [] (.cst (.bl false))) (.nil)) (.nil)) (.cons (.ret [] (.cmp .eq (.comp (.nm 3) (.var 1) (.and (.cmp .ne (.var 3) (.var 2)) (.cmp .eq (.call 168 (.cons (.var 0) (.cons (.var 3) (.nil)))) (.var 3))) (.var 3)) (.lst (.nil)))) (.nil))))
def cb_hull : CSs := .cons (.ifs [] (.or (.not (.isi (.var 0) .list)) (.not (.chn .le .le (.cst (.int 3)) (.bif .len (.cons (.var 0) (.nil))) (.glo 9)))) (.cons (.rse 3) (.nil)) (.nil)) (.cons (.ifs [] (.not (.bif .all (.cons (.comp (.nm 2) (.var 0) (.cst (.bl true)) (.call 48 (.cons (.var 2) (.nil)))) (.nil)))) (.cons (.rse 3) (.nil)) (.nil)) (.cons (.asg [] 1 (.call 80 (.cons (.var 0) (.nil)))) (.cons (.ifs [] (.cmp .lt (.bif .len (.cons (.var 1) (.nil))) (.cst (.int 3))) (.cons (.rse 3) (.nil)) (.nil)) (.cons (.ret [] (.var 1)) (.nil)))))
def cb_is_convex : CSs := .cons (.ex [] (.call 49 (.cons (.var 0) (.nil)))) (.cons (.ret [] (.call 82 (.cons (.var 0) (.nil)))) (.nil))
def cb_centre : CSs := .cons (.ex [] (.call 49 (.cons (.var 0) (.nil)))) (.cons (.asg [] 1 (.call 50 (.cons (.var 0) (.nil)))) (.cons (.ifs [] (.cmp .eq (.var 1) (.glo 15)) (.cons (.rse 3) (.nil)) (.nil)) (.cons (.asg [] 2 (.lst (.cons (.glo 15) (.cons (.glo 15) (.nil))))) (.cons (.forR [] (.nm 3) (.cst (.int 0)) (.bif .len (.cons (.var 0) (.nil))) (.cons (.tas [] [5, 6] (.tup (.cons (.idx (.var 0) (.bin .sub (.var 3) (.cst (.int 1)))) (.cons (.idx (.var 0) (.var 3)) (.nil))))) (.cons (.asg [] 4 (.call 45 (.cons (.call 46 (.cons (.idx (.var 5) (.cst (.int 0))) (.cons (.idx (.var 6) (.cst (.int 1))) (.nil)))) (.cons (.call 46 (.cons (.idx (.var 6) (.cst (.int 0))) (.cons (.idx (.var 5) (.cst (.int 1))) (.nil)))) (.nil))))) (.cons (.asg [] 2 (.compR (.nm 7) (.cst (.int 0)) (.cst (.int 2)) (.cst (.bl true)) (.call 32 (.cons (.idx (.var 2) (.var 7)) (.cons (.call 46 (.cons (.var 4) (.cons (.call 32 (.cons (.idx (.var 5) (.var 7)) (.cons (.idx (.var 6) (.var 7)) (.nil)))) (.nil)))) (.nil)))))) (.nil))))) (.cons (.ret [] (.bif .tuple (.cons (.compR (.nm 7) (.cst (.int 0)) (.cst (.int 2)) (.cst (.bl true)) (.call 70 (.cons (.idx (.var 2) (.var 7)) (.cons (.call 46 (.cons (.tup (.cons (.cst (.int 3)) (.cons (.cst (.int 1)) (.nil)))) (.cons (.var 1) (.nil)))) (.nil))))) (.nil)))) (.nil))))))
def cb_w_one_v2 : CSs := .cons (.ifs [] (.cmp .eq (.var 0) (.cst (.int 0))) (.cons (.ret [] (.call 51 (.cons (.var 1) (.nil)))) (.nil)) (.nil)) (.cons (.ifs [] (.cmp .eq (.var 0) (.cst (.int 1))) (.cons (.ret [] (.call 61 (.cons (.var 1) (.nil)))) (.nil)) (.nil)) (.cons (.ifs [] (.cmp .eq (.var 0) (.cst (.int 2))) (.cons (.ret [] (.call 68 (.cons (.var 1) (.cons (.var 2) (.nil))))) (.nil)) (.nil)) (.cons (.ifs [] (.cmp .eq (.var 0) (.cst (.int 3))) (.cons (.ret [] (.call 71 (.cons (.var 1) (.cons (.idx (.var 3) (.cst (.int 0))) (.cons (.idx (.var 3) (.cst (.int 1))) (.nil)))))) (.nil)) (.nil)) (.cons (.ifs [] (.cmp .eq (.var 0) (.cst (.int 4))) (.cons (.ret [] (.call 81 (.cons (.var 1) (.nil)))) (.nil)) (.nil)) (.cons (.ifs [] (.cmp .eq (.var 0) (.cst (.int 5))) (.cons (.ret [] (.call 83 (.cons (.var 1) (.nil)))) (.nil)) (.nil)) (.cons (.ifs [] (.cmp .eq (.var 0) (.cst (.int 6))) (.cons (.ret [] (.call 75 (.cons (.var 1) (.cons (.var 2) (.cons (.var 3) (.nil)))))) (.nil)) (.nil)) (.cons (.ifs [] (.cmp .eq (.var 0) (.cst (.int 7))) (.cons (.ret [] (.call 84 (.cons (.var 1) (.cons (.var 2) (.nil))))) (.nil)) (.nil)) (.cons (.ifs [] (.cmp .eq (.var 0) (.cst (.int 8))) (.cons (.ret [] (.call 84 (.cons (.var 2) (.cons (.var 1) (.nil))))) (.nil)) (.nil)) (.cons (.ret [] (.call 85 (.cons (.var 1) (.nil)))) (.nil))))))))))
def cb_w_told_v3 : CSs := .cons (.asg [] 4 (.cst .non)) (.cons (.asg [] 5 (.cst .non)) (.cons (.tr [] 5 (.call 38 (.cons (.var 0) (.cons (.var 1) (.cons (.var 2) (.cons (.var 3) (.nil)))))) 0 (.exc 6 4)) (.cons (.ret [] (.ite (.cmp .is_ (.var 4) (.cst .non)) (.tup (.cons (.cst (.str "found")) (.cons (.var 5) (.nil)))) (.call 27 (.cons (.var 4) (.nil))))) (.nil))))
def cb_w_wrong_v1 : CSs := .cons (.asg [] 3 (.call 11 (.cons (.var 0) (.cons (.var 1) (.cons (.bif .len (.cons (.var 2) (.nil))) (.nil)))))) (.cons (.asg [] 4 (.idx (.var 2) (.var 3))) (.cons (.asg [] 5 (.lst (.cons (.cst .non) (.cons (.tup (.cons (.idx (.var 4) (.cst (.int 0))) (.nil))) (.cons (.lst (.cons (.idx (.var 4) (.cst (.int 0))) (.cons (.idx (.var 4) (.cst (.int 1))) (.nil)))) (.cons (.tup (.cons (.cst (.int 1)) (.cons (.cst (.int 2)) (.nil)))) (.cons (.tup (.cons (.tup (.cons (.cst (.int 2)) (.cons (.cst (.int 4)) (.nil)))) (.cons (.tup (.cons (.cst (.int 0)) (.cons (.cst (.int 1)) (.nil)))) (.nil)))) (.cons (.tup (.cons (.tup (.cons (.cst (.int 1)) (.cons (.cst (.int 0)) (.nil)))) (.cons (.tup (.cons (.cst (.int 0)) (.cons (.cst (.int 1)) (.nil)))) (.nil)))) (.cons (.tup (.cons (.tup (.cons (.cst (.int 1)) (.cons (.bin .sub (.cst (.int 0)) (.cst (.int 1))) (.nil)))) (.cons (.idx (.var 4) (.cst (.int 1))) (.nil)))) (.nil)))))))))) (.cons (.asg [] 5 (.bin .add (.var 5) (.lst (.cons (.tup (.cons (.tup (.cons (.cst (.bl true)) (.cons (.cst (.int 1)) (.nil)))) (.cons (.tup (.cons (.cst (.int 0)) (.cons (.cst (.int 1)) (.nil)))) (.nil)))) (.cons (.tup (.cons (.idx (.var 4) (.cst (.int 0))) (.cons (.cst .non) (.nil)))) (.cons (.cst (.str "ab")) (.cons (.bin .add (.var 4) (.var 4)) (.nil)))))))) (.cons (.asg [] 6 (.compR (.nm 7) (.cst (.int 0)) (.cst (.int 4)) (.cst (.bl true)) (.bin .add (.bin .add (.slc (.var 2) (.cst .non) (.var 3)) (.lst (.cons (.call 12 (.cons (.var 0) (.cons (.var 1) (.cons (.var 5) (.nil))))) (.nil)))) (.slc (.var 2) (.bin .add (.var 3) (.cst (.int 1))) (.cst .non))))) (.cons (.ret [] (.call 12 (.cons (.var 0) (.cons (.var 1) (.cons (.bin .add (.var 6) (.lst (.cons (.slc (.var 2) (.cst .non) (.cst (.int 2))) (.cons (.bif .tuple (.cons (.var 2) (.nil))) (.cons (.slc (.bin .mul (.var 2) (.cst (.int 21))) (.cst .non) (.cst (.int 41))) (.cons (.cst .non) (.cons (.dct0) (.cons (.cst (.int 7)) (.nil))))))))) (.nil)))))) (.nil))))))
def cb_is_name : CSs := .cons (.ret [] (.and (.isi (.var 0) .str) (.and (.chn .le .le (.cst (.int 1)) (.bif .len (.cons (.var 0) (.nil))) (.glo 5)) (.bif .all (.cons (.comp (.nm 1) (.var 0) (.cst (.bl true)) (.cmp .isin (.var 1) (.glo 17))) (.nil)))))) (.nil)
def cb_is_sight : CSs := .cons (.ifs [] (.or (.not (.isi (.var 0) .tuple)) (.or (.cmp .ne (.bif .len (.cons (.var 0) (.nil))) (.cst (.int 4))) (.or (.not (.call 101 (.cons (.idx (.var 0) (.cst (.int 0))) (.nil)))) (.not (.call 101 (.cons (.idx (.var 0) (.cst (.int 1))) (.nil))))))) (.cons (.ret [] (.cst (.bl false))) (.nil)) (.nil)) (.cons (.ifs [] (.or (.cmp .eq (.idx (.var 0) (.cst (.int 0))) (.idx (.var 0) (.cst (.int 1)))) (.not (.call 3 (.cons (.idx (.var 0) (.cst (.int 2))) (.cons (.bin .sub (.cst (.int 0)) (.glo 11)) (.cons (.glo 11) (.nil))))))) (.cons (.ret [] (.cst (.bl false))) (.nil)) (.nil)) (.cons (.ret [] (.call 3 (.cons (.idx (.var 0) (.cst (.int 3))) (.cons (.cst (.int 1)) (.cons (.glo 14) (.nil)))))) (.nil)))
def cb_benches_of : CSs := .cons (.ret [] (.ssort (.bin .add (.comp (.nm 1) (.var 0) (.cst (.bl true)) (.idx (.var 1) (.cst (.int 0)))) (.comp (.nm 1) (.var 0) (.cst (.bl true)) (.idx (.var 1) (.cst (.int 1))))))) (.nil)
def cb_look_sights : CSs := .cons (.ifs [] (.or (.not (.isi (.var 0) .list)) (.not (.chn .le .le (.cst (.int 1)) (.bif .len (.cons (.var 0) (.nil))) (.glo 12)))) (.cons (.rse 4) (.nil)) (.nil)) (.cons (.ifs [] (.not (.bif .all (.cons (.comp (.nm 1) (.var 0) (.cst (.bl true)) (.call 102 (.cons (.var 1) (.nil)))) (.nil)))) (.cons (.rse 4) (.nil)) (.nil)) (.cons (.ifs [] (.cmp .gt (.bif .len (.cons (.call 103 (.cons (.var 0) (.nil))) (.nil))) (.glo 1)) (.cons (.rse 4) (.nil)) (.nil)) (.nil)))
def cb_look_known : CSs := .cons (.ifs [] (.or (.not (.isi (.var 1) .dict)) (.cmp .eq (.bif .len (.cons (.var 1) (.nil))) (.cst (.int 0)))) (.cons (.rse 5) (.nil)) (.nil)) (.cons (.asg [] 2 (.call 103 (.cons (.var 0) (.nil)))) (.cons (.ifs [] (.not (.bif .all (.cons (.compK (.nm 3) (.var 1) (.cst (.bl true)) (.and (.isi (.var 3) .str) (.cmp .isin (.var 3) (.var 2)))) (.nil)))) (.cons (.rse 5) (.nil)) (.nil)) (.cons (.ifs [] (.not (.bif .all (.cons (.compK (.nm 3) (.var 1) (.cst (.bl true)) (.call 3 (.cons (.idx (.var 1) (.var 3)) (.cons (.bin .sub (.cst (.int 0)) (.glo 11)) (.cons (.glo 11) (.nil)))))) (.nil)))) (.cons (.rse 5) (.nil)) (.nil)) (.nil))))
def cb_held : CSs := .cons (.own [] 3 (.bif .sorted (.cons (.var 1) (.nil)))) (.cons (.asg [] 4 (.cst (.bl true))) (.cons (.whl [] (.var 4) (.cons (.asg [] 4 (.cst (.bl false))) (.cons (.for_ [] (.nm 5) (.var 2) (.cons (.tas [] [6, 7] (.slc (.idx (.var 0) (.var 5)) (.cst .non) (.cst (.int 2)))) (.cons (.ifs [3] (.cmp .ne (.cmp .isin (.var 6) (.var 3)) (.cmp .isin (.var 7) (.var 3))) (.cons (.app [3] 3 (.ite (.cmp .isin (.var 6) (.var 3)) (.var 7) (.var 6))) (.cons (.asg [] 4 (.cst (.bl true))) (.nil))) (.nil)) (.nil)))) (.nil)))) (.cons (.ret [3] (.bif .sorted (.cons (.var 3) (.nil)))) (.nil))))
def cb_look_all : CSs := .cons (.ex [] (.call 104 (.cons (.var 0) (.nil)))) (.cons (.ex [] (.call 105 (.cons (.var 0) (.cons (.var 1) (.nil))))) (.cons (.ifs [] (.cmp .ne (.call 106 (.cons (.var 0) (.cons (.ksort (.var 1)) (.cons (.rngl (.cst (.int 0)) (.bif .len (.cons (.var 0) (.nil)))) (.nil))))) (.call 103 (.cons (.var 0) (.nil)))) (.cons (.rse 6) (.nil)) (.nil)) (.nil)))
def cb_unseen : CSs := .cons (.ex [] (.call 107 (.cons (.var 0) (.cons (.var 1) (.nil))))) (.cons (.ret [] (.call 124 (.cons (.var 0) (.cons (.var 1) (.nil))))) (.nil))
def cb_unseen_of : CSs := .cons (.own [] 2 (.lst (.nil))) (.cons (.forR [] (.nm 3) (.cst (.int 0)) (.bif .len (.cons (.var 0) (.nil))) (.cons (.asg [] 4 (.compR (.nm 5) (.cst (.int 0)) (.bif .len (.cons (.var 0) (.nil))) (.cmp .ne (.var 5) (.var 3)) (.var 5))) (.cons (.ifs [] (.cmp .ne (.call 106 (.cons (.var 0) (.cons (.ksort (.var 1)) (.cons (.var 4) (.nil))))) (.call 103 (.cons (.var 0) (.nil)))) (.cons (.app [] 2 (.var 3)) (.nil)) (.nil)) (.nil)))) (.cons (.ret [2] (.var 2)) (.nil)))
def cb_twins : CSs := .cons (.ex [] (.call 107 (.cons (.var 0) (.cons (.var 1) (.nil))))) (.cons (.asg [] 2 (.call 124 (.cons (.var 0) (.cons (.var 1) (.nil))))) (.cons (.asg [] 3 (.compR (.nm 7) (.cst (.int 0)) (.bif .len (.cons (.var 0) (.nil))) (.cmp .nin (.var 7) (.var 2)) (.var 7))) (.cons (.own [] 4 (.lst (.nil))) (.cons (.forR [] (.nm 5) (.cst (.int 0)) (.bif .len (.cons (.var 3) (.nil))) (.cons (.forR [] (.nm 6) (.bin .add (.var 5) (.cst (.int 1))) (.bif .len (.cons (.var 3) (.nil))) (.cons (.asg [] 8 (.compR (.nm 7) (.cst (.int 0)) (.bif .len (.cons (.var 0) (.nil))) (.cmp .nin (.var 7) (.tup (.cons (.idx (.var 3) (.var 5)) (.cons (.idx (.var 3) (.var 6)) (.nil))))) (.var 7))) (.cons (.ifs [] (.cmp .ne (.call 106 (.cons (.var 0) (.cons (.ksort (.var 1)) (.cons (.var 8) (.nil))))) (.call 103 (.cons (.var 0) (.nil)))) (.cons (.app [] 4 (.tup (.cons (.idx (.var 3) (.var 5)) (.cons (.idx (.var 3) (.var 6)) (.nil))))) (.nil)) (.nil)) (.nil)))) (.nil))) (.cons (.ret [4] (.var 4)) (.nil))))))
def cb_is_sure : CSs := .cons (.ex [] (.call 107 (.cons (.var 0) (.cons (.var 1) (.nil))))) (.cons (.ret [] (.and (.cmp .eq (.call 124 (.cons (.var 0) (.cons (.var 1) (.nil)))) (.lst (.nil))) (.cmp .eq (.call 125 (.cons (.var 0) (.cons (.var 1) (.nil)))) (.lst (.nil))))) (.nil))
def cb_w_sights : CSs := .cons (.asg [] 3 (.lst (.cons (.cst (.str "a")) (.cons (.cst (.str "b")) (.cons (.cst (.str "c")) (.cons (.cst (.str "hill")) (.cons (.cst (.str "dam")) (.cons (.cst (.str "zzzzzzzz")) (.cons (.cst (.str "road")) (.cons (.cst (.str "x")) (.cons (.cst (.str "y")) (.cons (.cst (.str "gate")) (.nil))))))))))))) (.cons (.asg [] 4 (.call 11 (.cons (.var 0) (.cons (.var 1) (.cons (.cst (.int 10)) (.nil)))))) (.cons (.asg [] 3 (.slc (.bin .add (.slc (.var 3) (.var 4) (.cst .non)) (.slc (.var 3) (.cst .non) (.var 4))) (.cst .non) (.bin .add (.cst (.int 2)) (.call 11 (.cons (.var 0) (.cons (.var 1) (.cons (.call 12 (.cons (.var 0) (.cons (.var 1) (.cons (.lst (.cons (.cst (.int 5)) (.cons (.cst (.int 5)) (.cons (.cst (.int 5)) (.cons (.cst (.int 9)) (.nil)))))) (.nil))))) (.nil)))))))) (.cons (.own [] 5 (.lst (.nil))) (.cons (.forR [] (.nm 6) (.cst (.int 1)) (.bif .len (.cons (.var 3) (.nil))) (.cons (.app [] 5 (.tup (.cons (.idx (.var 3) (.call 11 (.cons (.var 0) (.cons (.var 1) (.cons (.var 6) (.nil)))))) (.cons (.idx (.var 3) (.var 6)) (.nil))))) (.nil))) (.cons (.forR [] (.nm 6) (.cst (.int 0)) (.call 11 (.cons (.var 0) (.cons (.var 1) (.cons (.call 12 (.cons (.var 0) (.cons (.var 1) (.cons (.lst (.cons (.var 2) (.cons (.var 2) (.cons (.var 2) (.cons (.cst (.int 16)) (.nil)))))) (.nil))))) (.nil))))) (.cons (.asg [] 8 (.call 12 (.cons (.var 0) (.cons (.var 1) (.cons (.var 3) (.nil)))))) (.cons (.app [] 5 (.tup (.cons (.var 8) (.cons (.call 12 (.cons (.var 0) (.cons (.var 1) (.cons (.comp (.nm 12) (.var 3) (.cmp .ne (.var 12) (.var 8)) (.var 12)) (.nil))))) (.nil))))) (.nil)))) (.cons (.asg [] 4 (.call 11 (.cons (.var 0) (.cons (.var 1) (.cons (.olen 5) (.nil)))))) (.cons (.own [] 7 (.lst (.nil))) (.cons (.for_ [5] (.tp [8, 9]) (.bin .add (.slc (.var 5) (.var 4) (.cst .non)) (.slc (.var 5) (.cst .non) (.var 4))) (.cons (.asg [] 10 (.ite (.cmp .eq (.call 11 (.cons (.var 0) (.cons (.var 1) (.cons (.cst (.int 2)) (.nil))))) (.cst (.int 0))) (.tup (.cons (.var 8) (.cons (.var 9) (.nil)))) (.tup (.cons (.var 9) (.cons (.var 8) (.nil)))))) (.cons (.asg [] 11 (.call 12 (.cons (.var 0) (.cons (.var 1) (.cons (.lst (.cons (.cst (.int 0)) (.cons (.cst (.int 1)) (.cons (.bin .sub (.cst (.int 0)) (.cst (.int 5))) (.cons (.bin .sub (.call 11 (.cons (.var 0) (.cons (.var 1) (.cons (.cst (.int 201)) (.nil))))) (.cst (.int 100))) (.cons (.cst (.int 1000000)) (.cons (.bin .sub (.cst (.int 0)) (.cst (.int 1000000))) (.nil)))))))) (.nil)))))) (.cons (.app [] 7 (.bin .add (.var 10) (.tup (.cons (.var 11) (.cons (.call 12 (.cons (.var 0) (.cons (.var 1) (.cons (.lst (.cons (.cst (.int 1)) (.cons (.cst (.int 1)) (.cons (.cst (.int 2)) (.cons (.cst (.int 3)) (.cons (.cst (.int 100)) (.nil))))))) (.nil))))) (.nil)))))) (.nil))))) (.cons (.ret [7] (.var 7)) (.nil))))))))))
def cb_w_benches : CSs := .cons (.asg [] 1 (.lst (.nil))) (.cons (.for_ [] (.tp [2, 3, 4, 5]) (.var 0) (.cons (.asg [] 1 (.bin .add (.var 1) (.lst (.cons (.var 2) (.cons (.var 3) (.nil)))))) (.nil))) (.cons (.ret [] (.ssort (.var 1))) (.nil)))
def cb_w_known : CSs := .cons (.asg [] 3 (.call 130 (.cons (.var 2) (.nil)))) (.cons (.own [] 4 (.dct0)) (.cons (.forR [] (.nm 5) (.cst (.int 0)) (.call 12 (.cons (.var 0) (.cons (.var 1) (.cons (.lst (.cons (.cst (.int 1)) (.cons (.cst (.int 1)) (.cons (.cst (.int 2)) (.cons (.cst (.int 3)) (.nil)))))) (.nil))))) (.cons (.sti [] 4 (.call 12 (.cons (.var 0) (.cons (.var 1) (.cons (.var 3) (.nil))))) (.call 12 (.cons (.var 0) (.cons (.var 1) (.cons (.lst (.cons (.cst (.int 0)) (.cons (.cst (.int 100)) (.cons (.bin .sub (.cst (.int 0)) (.cst (.int 1000000))) (.cons (.cst (.int 1000000)) (.cons (.cst (.int 7)) (.nil))))))) (.nil)))))) (.nil))) (.cons (.lkd 4) (.cons (.ret [] (.var 4)) (.nil)))))
def cb_w_joined : CSs := .cons (.own [] 3 (.bif .list (.cons (.var 1) (.nil)))) (.cons (.forR [] (.nm 4) (.cst (.int 0)) (.cst (.int 12)) (.cons (.for_ [] (.nm 5) (.var 2) (.cons (.tas [] [6, 7] (.slc (.idx (.var 0) (.var 5)) (.cst .non) (.cst (.int 2)))) (.cons (.ifs [3] (.and (.cmp .isin (.var 6) (.var 3)) (.cmp .nin (.var 7) (.var 3))) (.cons (.app [] 3 (.var 7)) (.nil)) (.nil)) (.cons (.ifs [3] (.and (.cmp .isin (.var 7) (.var 3)) (.cmp .nin (.var 6) (.var 3))) (.cons (.app [] 3 (.var 6)) (.nil)) (.nil)) (.nil))))) (.nil))) (.cons (.ret [3] (.bif .sorted (.cons (.var 3) (.nil)))) (.nil)))
def cb_w_ring : CSs := .cons (.asg [] 2 (.slc (.lst (.cons (.cst (.str "a")) (.cons (.cst (.str "b")) (.cons (.cst (.str "c")) (.cons (.cst (.str "hill")) (.cons (.cst (.str "dam")) (.cons (.cst (.str "zzzzzzzz")) (.cons (.cst (.str "road")) (.cons (.cst (.str "x")) (.cons (.cst (.str "y")) (.cons (.cst (.str "gate")) (.nil)))))))))))) (.cst .non) (.bin .add (.cst (.int 3)) (.call 11 (.cons (.var 0) (.cons (.var 1) (.cons (.cst (.int 8)) (.nil)))))))) (.cons (.own [] 3 (.lst (.nil))) (.cons (.forR [] (.nm 4) (.cst (.int 0)) (.bif .len (.cons (.var 2) (.nil))) (.cons (.app [] 3 (.tup (.cons (.idx (.var 2) (.bin .sub (.var 4) (.cst (.int 1)))) (.cons (.idx (.var 2) (.var 4)) (.cons (.call 11 (.cons (.var 0) (.cons (.var 1) (.cons (.cst (.int 99)) (.nil))))) (.cons (.cst (.int 1)) (.nil))))))) (.nil))) (.cons (.forR [] (.nm 4) (.cst (.int 0)) (.call 11 (.cons (.var 0) (.cons (.var 1) (.cons (.cst (.int 8)) (.nil))))) (.cons (.asg [] 5 (.call 12 (.cons (.var 0) (.cons (.var 1) (.cons (.var 2) (.nil)))))) (.cons (.app [] 3 (.tup (.cons (.var 5) (.cons (.call 12 (.cons (.var 0) (.cons (.var 1) (.cons (.comp (.nm 6) (.var 2) (.cmp .ne (.var 6) (.var 5)) (.var 6)) (.nil))))) (.cons (.cst (.int 5)) (.cons (.cst (.int 2)) (.nil))))))) (.nil)))) (.cons (.ret [3] (.var 3)) (.nil)))))
def cb_w_is : CSs := .cons (.ret [] (.and (.isi (.var 0) .bool) (.cmp .eq (.var 0) (.var 1)))) (.nil)
def cb_w_hangs_v1 : CSs := .cons (.asg [] 3 (.compR (.nm 4) (.cst (.int 0)) (.bif .len (.cons (.var 0) (.nil))) (.cmp .nin (.var 4) (.var 2)) (.var 4))) (.cons (.ret [] (.cmp .eq (.call 148 (.cons (.var 0) (.cons (.ksort (.var 1)) (.cons (.var 3) (.nil))))) (.call 130 (.cons (.var 0) (.nil))))) (.nil))
def cb_total : CSs := .cons (.asg [] 1 (.glo 15)) (.cons (.for_ [] (.nm 2) (.var 0) (.cons (.asg [] 1 (.call 32 (.cons (.var 1) (.cons (.var 2) (.nil))))) (.nil))) (.cons (.ret [] (.var 1)) (.nil)))
def cb_rows_for : CSs := .cons (.own [] 3 (.lst (.nil))) (.cons (.for_ [] (.nm 4) (.var 2) (.cons (.asg [] 5 (.bin .mul (.lst (.cons (.glo 15) (.nil))) (.bif .len (.cons (.var 2) (.nil))))) (.cons (.asg [] 6 (.glo 15)) (.cons (.for_ [] (.tp [7, 8, 9, 10]) (.var 0) (.cons (.ifs [] (.cmp .isin (.var 4) (.tup (.cons (.var 7) (.cons (.var 8) (.nil))))) (.cons (.asg [] 11 (.ite (.cmp .eq (.var 4) (.var 7)) (.var 8) (.var 7))) (.cons (.sti [] 5 (.mth .index (.var 2) (.cons (.var 4) (.nil))) (.call 32 (.cons (.oidx 5 (.mth .index (.var 2) (.cons (.var 4) (.nil)))) (.cons (.call 31 (.cons (.var 10) (.nil))) (.nil))))) (.cons (.asg [] 6 (.call 32 (.cons (.var 6) (.cons (.call 31 (.cons (.bin .mul (.var 10) (.ite (.cmp .eq (.var 4) (.var 8)) (.var 9) (.bin .sub (.cst (.int 0)) (.var 9)))) (.nil))) (.nil))))) (.cons (.ifs [] (.cmp .isin (.var 11) (.var 1)) (.cons (.asg [] 6 (.call 32 (.cons (.var 6) (.cons (.call 31 (.cons (.bin .mul (.var 10) (.idx (.var 1) (.var 11))) (.nil))) (.nil))))) (.nil)) (.cons (.sti [] 5 (.mth .index (.var 2) (.cons (.var 11) (.nil))) (.call 45 (.cons (.oidx 5 (.mth .index (.var 2) (.cons (.var 11) (.nil)))) (.cons (.call 31 (.cons (.var 10) (.nil))) (.nil))))) (.nil))) (.nil))))) (.nil)) (.nil))) (.cons (.app [5] 3 (.bin .add (.var 5) (.lst (.cons (.var 6) (.nil))))) (.nil)))))) (.cons (.ret [3] (.var 3)) (.nil)))
def cb_solved : CSs := .cons (.asg [] 1 (.olen 0)) (.cons (.forR [] (.nm 2) (.cst (.int 0)) (.var 1) (.cons (.asg [] 3 (.idx (.compR (.nm 4) (.var 2) (.var 1) (.cmp .ne (.idx (.oidx 0 (.var 4)) (.var 2)) (.glo 15)) (.var 4)) (.cst (.int 0)))) (.cons (.swp 0 2 3) (.cons (.sti [] 0 (.var 2) (.comp (.nm 6) (.oidx 0 (.var 2)) (.cst (.bl true)) (.call 70 (.cons (.var 6) (.cons (.idx (.oidx 0 (.var 2)) (.var 2)) (.nil)))))) (.cons (.forR [] (.nm 4) (.cst (.int 0)) (.var 1) (.cons (.ifs [] (.and (.cmp .ne (.var 4) (.var 2)) (.cmp .ne (.idx (.oidx 0 (.var 4)) (.var 2)) (.glo 15))) (.cons (.asg [] 7 (.idx (.oidx 0 (.var 4)) (.var 2))) (.cons (.sti [] 0 (.var 4) (.compR (.nm 8) (.cst (.int 0)) (.bin .add (.var 1) (.cst (.int 1))) (.cst (.bl true)) (.call 45 (.cons (.idx (.oidx 0 (.var 4)) (.var 8)) (.cons (.call 46 (.cons (.var 7) (.cons (.idx (.oidx 0 (.var 2)) (.var 8)) (.nil)))) (.nil)))))) (.nil))) (.nil)) (.nil))) (.nil)))))) (.cons (.ret [0] (.comp (.nm 5) (.var 0) (.cst (.bl true)) (.idx (.var 5) (.var 1)))) (.nil)))
def cb_best_heights : CSs := .cons (.asg [] 2 (.comp (.nm 6) (.call 103 (.cons (.var 0) (.nil))) (.cmp .nin (.var 6) (.var 1)) (.var 6))) (.cons (.asg [] 3 (.callO 109 108 (.cons (.var 0) (.cons (.var 1) (.cons (.var 2) (.nil)))))) (.cons (.own [] 4 (.bif .dict (.cons (.compK (.nm 6) (.var 1) (.cst (.bl true)) (.tup (.cons (.var 6) (.cons (.call 31 (.cons (.idx (.var 1) (.var 6)) (.nil))) (.nil))))) (.nil)))) (.cons (.forR [] (.nm 5) (.cst (.int 0)) (.bif .len (.cons (.var 2) (.nil))) (.cons (.sti [] 4 (.idx (.var 2) (.var 5)) (.idx (.var 3) (.var 5))) (.nil))) (.cons (.lkd 4) (.cons (.ret [] (.bif .dict (.cons (.comp (.nm 6) (.ksort (.var 4)) (.cst (.bl true)) (.tup (.cons (.var 6) (.cons (.odix 4 (.var 6)) (.nil))))) (.nil)))) (.nil))))))
def cb_heights : CSs := .cons (.ex [] (.call 107 (.cons (.var 0) (.cons (.var 1) (.nil))))) (.cons (.ret [] (.call 110 (.cons (.var 0) (.cons (.var 1) (.nil))))) (.nil))
def cb_left_of : CSs := .cons (.ret [] (.comp (.tp [2, 3, 4, 5]) (.var 0) (.cst (.bl true)) (.call 45 (.cons (.call 31 (.cons (.var 4) (.nil))) (.cons (.call 45 (.cons (.idx (.var 1) (.var 3)) (.cons (.idx (.var 1) (.var 2)) (.nil)))) (.nil)))))) (.nil)
def cb_left : CSs := .cons (.ex [] (.call 107 (.cons (.var 0) (.cons (.var 1) (.nil))))) (.cons (.ret [] (.call 112 (.cons (.var 0) (.cons (.call 110 (.cons (.var 0) (.cons (.var 1) (.nil)))) (.nil))))) (.nil))
def cb_worth_of : CSs := .cons (.asg [] 2 (.call 112 (.cons (.var 0) (.cons (.var 1) (.nil))))) (.cons (.ret [] (.call 100 (.cons (.compR (.nm 3) (.cst (.int 0)) (.bif .len (.cons (.var 0) (.nil))) (.cst (.bl true)) (.call 46 (.cons (.call 31 (.cons (.idx (.idx (.var 0) (.var 3)) (.cst (.int 3))) (.nil))) (.cons (.call 46 (.cons (.idx (.var 2) (.var 3)) (.cons (.idx (.var 2) (.var 3)) (.nil)))) (.nil))))) (.nil)))) (.nil))
def cb_worth : CSs := .cons (.ex [] (.call 107 (.cons (.var 0) (.cons (.var 1) (.nil))))) (.cons (.ret [] (.call 114 (.cons (.var 0) (.cons (.call 110 (.cons (.var 0) (.cons (.var 1) (.nil)))) (.nil))))) (.nil))
def cb_w_sights_v1 : CSs := .cons (.asg [] 3 (.lst (.cons (.cst (.str "a")) (.cons (.cst (.str "b")) (.cons (.cst (.str "c")) (.cons (.cst (.str "hill")) (.cons (.cst (.str "dam")) (.cons (.cst (.str "zzzzzzzz")) (.cons (.cst (.str "road")) (.cons (.cst (.str "x")) (.cons (.cst (.str "y")) (.cons (.cst (.str "gate")) (.nil))))))))))))) (.cons (.asg [] 4 (.call 11 (.cons (.var 0) (.cons (.var 1) (.cons (.cst (.int 10)) (.nil)))))) (.cons (.asg [] 3 (.slc (.bin .add (.slc (.var 3) (.var 4) (.cst .non)) (.slc (.var 3) (.cst .non) (.var 4))) (.cst .non) (.bin .add (.cst (.int 2)) (.call 11 (.cons (.var 0) (.cons (.var 1) (.cons (.call 12 (.cons (.var 0) (.cons (.var 1) (.cons (.lst (.cons (.cst (.int 5)) (.cons (.cst (.int 5)) (.cons (.cst (.int 5)) (.cons (.cst (.int 9)) (.nil)))))) (.nil))))) (.nil)))))))) (.cons (.own [] 5 (.lst (.nil))) (.cons (.forR [] (.nm 6) (.cst (.int 1)) (.bif .len (.cons (.var 3) (.nil))) (.cons (.app [] 5 (.tup (.cons (.idx (.var 3) (.call 11 (.cons (.var 0) (.cons (.var 1) (.cons (.var 6) (.nil)))))) (.cons (.idx (.var 3) (.var 6)) (.nil))))) (.nil))) (.cons (.forR [] (.nm 6) (.cst (.int 0)) (.call 11 (.cons (.var 0) (.cons (.var 1) (.cons (.call 12 (.cons (.var 0) (.cons (.var 1) (.cons (.lst (.cons (.var 2) (.cons (.var 2) (.cons (.var 2) (.cons (.cst (.int 16)) (.nil)))))) (.nil))))) (.nil))))) (.cons (.asg [] 8 (.call 12 (.cons (.var 0) (.cons (.var 1) (.cons (.var 3) (.nil)))))) (.cons (.app [] 5 (.tup (.cons (.var 8) (.cons (.call 12 (.cons (.var 0) (.cons (.var 1) (.cons (.comp (.nm 12) (.var 3) (.cmp .ne (.var 12) (.var 8)) (.var 12)) (.nil))))) (.nil))))) (.nil)))) (.cons (.asg [] 4 (.call 11 (.cons (.var 0) (.cons (.var 1) (.cons (.olen 5) (.nil)))))) (.cons (.own [] 7 (.lst (.nil))) (.cons (.for_ [5] (.tp [8, 9]) (.bin .add (.slc (.var 5) (.var 4) (.cst .non)) (.slc (.var 5) (.cst .non) (.var 4))) (.cons (.asg [] 10 (.ite (.cmp .eq (.call 11 (.cons (.var 0) (.cons (.var 1) (.cons (.cst (.int 2)) (.nil))))) (.cst (.int 0))) (.tup (.cons (.var 8) (.cons (.var 9) (.nil)))) (.tup (.cons (.var 9) (.cons (.var 8) (.nil)))))) (.cons (.asg [] 11 (.call 12 (.cons (.var 0) (.cons (.var 1) (.cons (.lst (.cons (.cst (.int 0)) (.cons (.cst (.int 1)) (.cons (.bin .sub (.cst (.int 0)) (.cst (.int 5))) (.cons (.bin .sub (.call 11 (.cons (.var 0) (.cons (.var 1) (.cons (.cst (.int 201)) (.nil))))) (.cst (.int 100))) (.cons (.cst (.int 4321)) (.nil))))))) (.nil)))))) (.cons (.app [] 7 (.bin .add (.var 10) (.tup (.cons (.var 11) (.cons (.call 12 (.cons (.var 0) (.cons (.var 1) (.cons (.lst (.cons (.cst (.int 1)) (.cons (.cst (.int 1)) (.cons (.cst (.int 2)) (.cons (.cst (.int 3)) (.cons (.cst (.int 100)) (.nil))))))) (.nil))))) (.nil)))))) (.nil))))) (.cons (.ret [7] (.var 7)) (.nil))))))))))
def cb_w_known_v1 : CSs := .cons (.asg [] 3 (.call 130 (.cons (.var 2) (.nil)))) (.cons (.own [] 4 (.dct0)) (.cons (.forR [] (.nm 5) (.cst (.int 0)) (.call 12 (.cons (.var 0) (.cons (.var 1) (.cons (.lst (.cons (.cst (.int 1)) (.cons (.cst (.int 1)) (.cons (.cst (.int 2)) (.cons (.cst (.int 3)) (.nil)))))) (.nil))))) (.cons (.sti [] 4 (.call 12 (.cons (.var 0) (.cons (.var 1) (.cons (.var 3) (.nil))))) (.call 12 (.cons (.var 0) (.cons (.var 1) (.cons (.lst (.cons (.cst (.int 0)) (.cons (.cst (.int 100)) (.cons (.bin .sub (.cst (.int 0)) (.cst (.int 999))) (.cons (.cst (.int 5000)) (.cons (.cst (.int 7)) (.nil))))))) (.nil)))))) (.nil))) (.cons (.lkd 4) (.cons (.ret [] (.var 4)) (.nil)))))
def cb_w_shifted : CSs := .cons (.ret [] (.bif .dict (.cons (.comp (.nm 3) (.ksort (.var 0)) (.cst (.bl true)) (.tup (.cons (.var 3) (.cons (.call 14 (.cons (.call 16 (.cons (.idx (.var 0) (.var 3)) (.cons (.tup (.cons (.var 2) (.cons (.cst (.int 1)) (.nil)))) (.nil)))) (.cons (.tup (.cons (.var 1) (.cons (.cst (.int 1)) (.nil)))) (.nil)))) (.nil))))) (.nil)))) (.nil)
def cb_w_two : CSs := .cons (.asg [] 2 (.tup (.cons (.bin .sub (.call 11 (.cons (.var 0) (.cons (.var 1) (.cons (.cst (.int 2001)) (.nil))))) (.cst (.int 1000))) (.cons (.bin .add (.cst (.int 1)) (.call 11 (.cons (.var 0) (.cons (.var 1) (.cons (.cst (.int 100)) (.nil)))))) (.nil))))) (.cons (.asg [] 3 (.tup (.cons (.bin .sub (.call 11 (.cons (.var 0) (.cons (.var 1) (.cons (.cst (.int 2001)) (.nil))))) (.cst (.int 1000))) (.cons (.bin .add (.cst (.int 1)) (.call 11 (.cons (.var 0) (.cons (.var 1) (.cons (.cst (.int 100)) (.nil)))))) (.nil))))) (.cons (.asg [] 4 (.lst (.cons (.tup (.cons (.cst (.str "a")) (.cons (.cst (.str "b")) (.cons (.idx (.var 2) (.cst (.int 0))) (.cons (.idx (.var 2) (.cst (.int 1))) (.nil)))))) (.cons (.tup (.cons (.cst (.str "b")) (.cons (.cst (.str "a")) (.cons (.bin .sub (.cst (.int 0)) (.idx (.var 3) (.cst (.int 0)))) (.cons (.idx (.var 3) (.cst (.int 1))) (.nil)))))) (.nil))))) (.cons (.asg [] 5 (.bin .add (.idx (.var 2) (.cst (.int 1))) (.idx (.var 3) (.cst (.int 1))))) (.cons (.asg [] 6 (.call 13 (.cons (.bin .add (.bin .add (.bin .mul (.idx (.var 2) (.cst (.int 0))) (.idx (.var 2) (.cst (.int 1)))) (.bin .mul (.idx (.var 3) (.cst (.int 0))) (.idx (.var 3) (.cst (.int 1))))) (.bin .mul (.cst (.int 50)) (.var 5))) (.cons (.var 5) (.nil))))) (.cons (.asg [] 7 (.bin .mul (.bin .mul (.bin .mul (.idx (.var 2) (.cst (.int 1))) (.idx (.var 3) (.cst (.int 1)))) (.bin .sub (.idx (.var 2) (.cst (.int 0))) (.idx (.var 3) (.cst (.int 0))))) (.bin .sub (.idx (.var 2) (.cst (.int 0))) (.idx (.var 3) (.cst (.int 0)))))) (.cons (.asg [] 8 (.call 115 (.cons (.var 4) (.cons (.dctd (.str "a") (.cst (.int 50))) (.nil))))) (.cons (.ret [] (.and (.cmp .eq (.idx (.call 111 (.cons (.var 4) (.cons (.dctd (.str "a") (.cst (.int 50))) (.nil)))) (.cst (.str "b"))) (.var 6)) (.cmp .eq (.var 8) (.call 13 (.cons (.var 7) (.cons (.var 5) (.nil))))))) (.nil))))))))
def cb_w_worth_v1 : CSs := .cons (.own [] 2 (.lst (.nil))) (.cons (.for_ [] (.tp [3, 4, 5, 6]) (.var 0) (.cons (.asg [] 7 (.call 14 (.cons (.tup (.cons (.var 5) (.cons (.cst (.int 1)) (.nil)))) (.cons (.call 14 (.cons (.idx (.var 1) (.var 3)) (.cons (.tup (.cons (.bin .sub (.cst (.int 0)) (.idx (.idx (.var 1) (.var 4)) (.cst (.int 0)))) (.cons (.idx (.idx (.var 1) (.var 4)) (.cst (.int 1))) (.nil)))) (.nil)))) (.nil))))) (.cons (.app [] 2 (.call 16 (.cons (.tup (.cons (.var 6) (.cons (.cst (.int 1)) (.nil)))) (.cons (.call 16 (.cons (.var 7) (.cons (.var 7) (.nil)))) (.nil))))) (.nil)))) (.cons (.ret [2] (.call 17 (.cons (.var 2) (.nil)))) (.nil)))
def cb_w_sway : CSs := .cons (.ret [] (.call 133 (.cons (.comp (.tp [2, 3, 4, 5]) (.var 0) (.cst (.bl true)) (.tup (.cons (.var 2) (.cons (.var 3) (.cons (.cst (.int 0)) (.cons (.var 5) (.nil))))))) (.cons (.var 1) (.nil))))) (.nil)
def cb_w_is_tree : CSs := .cons (.asg [] 3 (.lst (.cons (.idx (.idx (.var 2) (.cst (.int 0))) (.cst (.int 0))) (.nil)))) (.cons (.own [] 4 (.lst (.nil))) (.cons (.for_ [] (.tp [6, 7, 8, 9]) (.var 2) (.cons (.ifs [] (.cmp .ne (.cmp .isin (.var 6) (.var 3)) (.cmp .isin (.var 7) (.var 3))) (.cons (.asg [] 3 (.bin .add (.var 3) (.lst (.cons (.var 6) (.cons (.var 7) (.nil)))))) (.cons (.app [] 4 (.tup (.cons (.var 6) (.cons (.var 7) (.cons (.var 8) (.cons (.var 9) (.nil))))))) (.nil))) (.nil)) (.nil))) (.cons (.asg [4] 5 (.ite (.var 4) (.call 113 (.cons (.var 4) (.cons (.bif .dict (.cons (.lst (.cons (.tup (.cons (.idx (.idx (.var 2) (.cst (.int 0))) (.cst (.int 0))) (.cons (.cst (.int 5)) (.nil)))) (.nil))) (.nil))) (.nil)))) (.lst (.nil)))) (.cons (.ret [] (.cmp .eq (.var 5) (.bin .mul (.lst (.cons (.tup (.cons (.cst (.int 0)) (.cons (.cst (.int 1)) (.nil)))) (.nil))) (.olen 4)))) (.nil)))))
def cb_with_more : CSs := .cons (.tas [] [2, 3, 4, 5] (.idx (.var 0) (.var 1))) (.cons (.ret [] (.bin .add (.bin .add (.slc (.var 0) (.cst .non) (.var 1)) (.lst (.cons (.tup (.cons (.var 2) (.cons (.var 3) (.cons (.bin .add (.var 4) (.cst (.int 1))) (.cons (.var 5) (.nil)))))) (.nil)))) (.slc (.var 0) (.bin .add (.var 1) (.cst (.int 1))) (.cst .non)))) (.nil))
def cb_sways : CSs := .cons (.ex [] (.call 107 (.cons (.var 0) (.cons (.var 1) (.nil))))) (.cons (.asg [] 2 (.call 110 (.cons (.var 0) (.cons (.var 1) (.nil))))) (.cons (.own [] 3 (.lst (.nil))) (.cons (.forR [] (.nm 4) (.cst (.int 0)) (.bif .len (.cons (.var 0) (.nil))) (.cons (.asg [] 5 (.call 110 (.cons (.call 142 (.cons (.var 0) (.cons (.var 4) (.nil)))) (.cons (.var 1) (.nil))))) (.cons (.app [] 3 (.bif .dict (.cons (.comp (.nm 6) (.ksort (.var 2)) (.cst (.bl true)) (.tup (.cons (.var 6) (.cons (.call 45 (.cons (.idx (.var 5) (.var 6)) (.cons (.idx (.var 2) (.var 6)) (.nil)))) (.nil))))) (.nil)))) (.nil)))) (.cons (.ret [3] (.var 3)) (.nil)))))
def cb_rests : CSs := .cons (.asg [] 3 (.call 112 (.cons (.var 0) (.cons (.call 110 (.cons (.var 0) (.cons (.var 1) (.nil)))) (.nil))))) (.cons (.asg [] 4 (.call 112 (.cons (.call 142 (.cons (.var 0) (.cons (.var 2) (.nil)))) (.cons (.call 110 (.cons (.call 142 (.cons (.var 0) (.cons (.var 2) (.nil)))) (.cons (.var 1) (.nil)))) (.nil))))) (.cons (.ret [] (.compR (.nm 5) (.cst (.int 0)) (.bif .len (.cons (.var 0) (.nil))) (.cst (.bl true)) (.call 45 (.cons (.idx (.var 4) (.var 5)) (.cons (.idx (.var 3) (.var 5)) (.nil)))))) (.nil)))
def cb_shares_v1 : CSs := .cons (.ex [] (.call 107 (.cons (.var 0) (.cons (.var 1) (.nil))))) (.cons (.ret [] (.compR (.nm 2) (.cst (.int 0)) (.bif .len (.cons (.var 0) (.nil))) (.cst (.bl true)) (.idx (.call 144 (.cons (.var 0) (.cons (.var 1) (.cons (.var 2) (.nil))))) (.var 2)))) (.nil))
def cb_alike : CSs := .cons (.ex [] (.call 107 (.cons (.var 0) (.cons (.var 1) (.nil))))) (.cons (.ifs [] (.or (.not (.call 3 (.cons (.var 2) (.cons (.cst (.int 0)) (.cons (.bin .sub (.bif .len (.cons (.var 0) (.nil))) (.cst (.int 1))) (.nil)))))) (.not (.call 3 (.cons (.var 3) (.cons (.cst (.int 0)) (.cons (.bin .sub (.bif .len (.cons (.var 0) (.nil))) (.cst (.int 1))) (.nil))))))) (.cons (.rse 7) (.nil)) (.nil)) (.cons (.ifs [] (.cmp .eq (.var 2) (.var 3)) (.cons (.ret [] (.cst (.int 1))) (.nil)) (.nil)) (.cons (.ifs [] (.cmp .nin (.bif .tuple (.cons (.bif .sorted (.cons (.lst (.cons (.var 2) (.cons (.var 3) (.nil)))) (.nil))) (.nil))) (.call 125 (.cons (.var 0) (.cons (.var 1) (.nil))))) (.cons (.ret [] (.cst .non)) (.nil)) (.nil)) (.cons (.ret [] (.ite (.cmp .eq (.call 144 (.cons (.var 0) (.cons (.var 1) (.cons (.var 2) (.nil))))) (.call 144 (.cons (.var 0) (.cons (.var 1) (.cons (.var 3) (.nil)))))) (.cst (.int 1)) (.neg (.cst (.int 1))))) (.nil)))))
def cb_w_ring_v1 : CSs := .cons (.asg [] 2 (.slc (.lst (.cons (.cst (.str "a")) (.cons (.cst (.str "b")) (.cons (.cst (.str "c")) (.cons (.cst (.str "hill")) (.cons (.cst (.str "dam")) (.cons (.cst (.str "zzzzzzzz")) (.nil)))))))) (.cst .non) (.bin .add (.cst (.int 3)) (.call 11 (.cons (.var 0) (.cons (.var 1) (.cons (.cst (.int 4)) (.nil)))))))) (.cons (.own [] 3 (.lst (.nil))) (.cons (.forR [] (.nm 4) (.cst (.int 0)) (.bif .len (.cons (.var 2) (.nil))) (.cons (.asg [] 5 (.lst (.cons (.idx (.var 2) (.bin .sub (.var 4) (.cst (.int 1)))) (.cons (.idx (.var 2) (.var 4)) (.nil))))) (.cons (.asg [] 5 (.ite (.cmp .eq (.call 11 (.cons (.var 0) (.cons (.var 1) (.cons (.cst (.int 2)) (.nil))))) (.cst (.int 0))) (.rev (.var 5)) (.var 5))) (.cons (.app [] 3 (.tup (.cons (.idx (.var 5) (.cst (.int 0))) (.cons (.idx (.var 5) (.cst (.int 1))) (.cons (.call 11 (.cons (.var 0) (.cons (.var 1) (.cons (.cst (.int 99)) (.nil))))) (.cons (.bin .add (.cst (.int 1)) (.call 11 (.cons (.var 0) (.cons (.var 1) (.cons (.cst (.int 9)) (.nil)))))) (.nil))))))) (.nil))))) (.cons (.forR [] (.nm 4) (.cst (.int 0)) (.call 11 (.cons (.var 0) (.cons (.var 1) (.cons (.cst (.int 3)) (.nil))))) (.cons (.asg [] 6 (.call 12 (.cons (.var 0) (.cons (.var 1) (.cons (.var 2) (.nil)))))) (.cons (.app [] 3 (.tup (.cons (.var 6) (.cons (.call 12 (.cons (.var 0) (.cons (.var 1) (.cons (.comp (.nm 7) (.var 2) (.cmp .ne (.var 7) (.var 6)) (.var 7)) (.nil))))) (.cons (.cst (.int 5)) (.cons (.cst (.int 2)) (.nil))))))) (.nil)))) (.cons (.ret [3] (.var 3)) (.nil)))))
def cb_w_with : CSs := .cons (.tas [] [3, 4, 5, 6] (.idx (.var 0) (.var 1))) (.cons (.ret [] (.bin .add (.bin .add (.slc (.var 0) (.cst .non) (.var 1)) (.lst (.cons (.tup (.cons (.var 3) (.cons (.var 4) (.cons (.bin .add (.var 5) (.var 2)) (.cons (.var 6) (.nil)))))) (.nil)))) (.slc (.var 0) (.bin .add (.var 1) (.cst (.int 1))) (.cst .non)))) (.nil))
end FR
/-! FrEv: the evaluator's equations for simp, wishes over results. -/
namespace FR
open PySem (Str)
/-! ### equations -/
section
variable {en : En} {g : G} {s : S}
@[simp] theorem evE_cst {c : Cst} : evE en (.cst c) g s = some (.ok c.d, s) := rfl
@[simp] theorem evE_var {i : Nat} : evE en (.var i) g s = rp (g.rd i) s := rfl
@[simp] theorem evE_glo {i : Nat} : evE en (.glo i) g s = some (.ok (en.gl i), s) := rfl
@[simp] theorem evE_bin {o : Op} {a b : CE} : evE en (.bin o a b) g s = rb (evE en a g s) fun x s => rb (evE en b g s) fun y s => rp (binD o x y) s := rfl
def negD : D → Option D
  | .int i => some (.int (-i))
  | _ => none
@[simp] theorem negD_int {i : Int} : negD (.int i) = some (.int (-i)) := rfl
@[simp] theorem evE_neg {a : CE} : evE en (.neg a) g s = rb (evE en a g s) fun x s => rp (negD x) s := rfl
@[simp] theorem evE_not {a : CE} : evE en (.not a) g s = rb (evE en a g s) fun x s => rb (tru x s) fun b s => some (.ok (.bl (!b)), s) := rfl
@[simp] theorem evE_cmp {o : Cm} {a b : CE} : evE en (.cmp o a b) g s = rb (evE en a g s) fun x s => rb (evE en b g s) fun y s => rp ((cmpD o x y).map D.bl) s := rfl
@[simp] theorem evE_chn {o p : Cm} {a b c : CE} : evE en (.chn o p a b c) g s = rb (evE en a g s) fun x s => rb (evE en b g s) fun y s => rb (rp (cmpD o x y) s) fun k s =>
      if k then rb (evE en c g s) fun z s => rp ((cmpD p y z).map D.bl) s else some (.ok (.bl false), s) := rfl
@[simp] theorem evE_and {a b : CE} : evE en (.and a b) g s = rb (evE en a g s) fun x s => rb (tru x s) fun t s => if t then evE en b g s else some (.ok x, s) := rfl
@[simp] theorem evE_or {a b : CE} : evE en (.or a b) g s = rb (evE en a g s) fun x s => rb (tru x s) fun t s => if t then some (.ok x, s) else evE en b g s := rfl
@[simp] theorem evE_ite {t a b : CE} : evE en (.ite t a b) g s = rb (evE en t g s) fun x s => rb (tru x s) fun t s => if t then evE en a g s else evE en b g s := rfl
@[simp] theorem evE_tup {es : CEs} : evE en (.tup es) g s = rb (evEs en es g s) fun ds s => if ds.length ≤ SZ then some (.ok (.tup ds), s) else none := rfl
@[simp] theorem evE_lst {es : CEs} : evE en (.lst es) g s = rb (evEs en es g s) fun ds s => if ds.length ≤ SZ then some (.ok (.lst ds), s) else none := rfl
@[simp] theorem evE_idx {a i : CE} : evE en (.idx a i) g s = rb (evE en a g s) fun x s => rb (evE en i g s) fun y s => rp (idxD x y) s := rfl
@[simp] theorem evE_slc {a lo hi : CE} : evE en (.slc a lo hi) g s = rb (evE en a g s) fun x s =>
      rb (if lo.isNon then some (.ok none, s) else rb (evE en lo g s) fun l s => rp (partD l) s) fun l s =>
      rb (if hi.isNon then some (.ok none, s) else rb (evE en hi g s) fun h s => rp (partD h) s) fun h s => rp (slcD x l h) s := rfl
@[simp] theorem evE_rev {a : CE} : evE en (.rev a) g s = rb (evE en a g s) fun x s => rp (revD x) s := rfl
@[simp] theorem evE_call {f : Nat} {es : CEs} : evE en (.call f es) g s = rb (evEs en es g s) fun ds s => en.Φ f ds s := rfl
@[simp] theorem evE_bif {f : Bf} {es : CEs} : evE en (.bif f es) g s = rb (evEs en es g s) fun ds s => rp (bifD f ds s) s := rfl
@[simp] theorem evE_isi {a : CE} {t : Ty} : evE en (.isi a t) g s = rb (evE en a g s) fun x s => rp ((isiE en.sub x t).map D.bl) s := rfl
@[simp] theorem isiE_int {sub : Nat → Nat → Option Bool} {d : D} : isiE sub d .int = isiD d .int := by cases d <;> rfl
@[simp] theorem isiE_bool {sub : Nat → Nat → Option Bool} {d : D} : isiE sub d .bool = isiD d .bool := by cases d <;> rfl
@[simp] theorem isiE_tuple {sub : Nat → Nat → Option Bool} {d : D} : isiE sub d .tuple = isiD d .tuple := by cases d <;> rfl
@[simp] theorem isiE_list {sub : Nat → Nat → Option Bool} {d : D} : isiE sub d .list = isiD d .list := by cases d <;> rfl
@[simp] theorem isiE_str {sub : Nat → Nat → Option Bool} {d : D} : isiE sub d .str = isiD d .str := by cases d <;> rfl
@[simp] theorem isiE_dict {sub : Nat → Nat → Option Bool} {d : D} : isiE sub d .dict = isiD d .dict := by cases d <;> rfl
@[simp] theorem isiE_cls {sub : Nat → Nat → Option Bool} {c c' : Nat} : isiE sub (.exc c) (.cls c') = sub c c' := rfl
@[simp] theorem isiE_ve {sub : Nat → Nat → Option Bool} {c : Nat} : isiE sub (.exc c) .ve = (sub c c).map fun _ => true := rfl
@[simp] theorem evE_mth {m : Mt} {a : CE} {es : CEs} : evE en (.mth m a es) g s = rb (evE en a g s) fun x s => if mthT m x then rb (evEs en es g s) fun ds s => rp (mthD m x ds) s else none := rfl
@[simp] theorem evS_tr {L : List Nat} {j : Nat} {e : CE} {c : Nat} {h : Hd} : evS en (.tr L j e c h) g s = trK en.sub c h g (exE en L e g s fun d g s => some (.ok (.nx (g.set j (.dat d))), s)) := rfl
/-- a comprehension's one round -/
def cmp1 (en : En) (g : G) (tg : Tgt) (ifs elt : CE) (d : D) (s : S) : EV (Option D) := match setT g d tg with
  | none => none
  | some g1 => rb (evE en ifs g1 s) fun c s => rb (tru c s) fun t s => if t then rb (evE en elt g1 s) fun e s => some (.ok (some e), s) else some (.ok none, s)
def bigL (es : List D) (s : S) : EV D := if es.length ≤ SZ then some (.ok (.lst es), s) else none
@[simp] theorem evE_comp {tg : Tgt} {it ifs elt : CE} : evE en (.comp tg it ifs elt) g s = rb (evE en it g s) fun x s => rb (rp (itemsD x) s) fun ds s => rb (compL (cmp1 en g tg ifs elt) ds s) bigL := rfl
@[simp] theorem evE_compR {tg : Tgt} {lo hi ifs elt : CE} : evE en (.compR tg lo hi ifs elt) g s = rb (evE en lo g s) fun x s => rb (evE en hi g s) fun y s => rb (rp (rngD x y) s) fun ds s => rb (compL (cmp1 en g tg ifs elt) ds s) bigL := rfl
def ownI (sl : Option Sl) (k : List D → EV D) : EV D := match ownL sl with
  | some ds => k ds
  | none => none
@[simp] theorem ownI_lst {ds : List D} {k : List D → EV D} : ownI (some (.dat (.lst ds))) k = k ds := rfl
@[simp] theorem ownI_own {ds : List D} {k : List D → EV D} : ownI (some (.own ds)) k = k ds := rfl
def atD (ds : List D) : D → Option D
  | .int k => atL ds k
  | _ => none
@[simp] theorem atD_int {ds : List D} {k : Int} : atD ds (.int k) = atL ds k := rfl
@[simp] theorem evE_oidx {i : Nat} {e : CE} : evE en (.oidx i e) g s = ownI g[i]? fun ds => rb (evE en e g s) fun y s => rp (atD ds y) s := rfl
@[simp] theorem evE_dct0 : evE en .dct0 g s = some (.ok (.dct []), s) := rfl
@[simp] theorem evE_olen {i : Nat} : evE en (.olen i) g s = ownI g[i]? fun ds => some (.ok (.int ds.length), s) := by
  show rp ((ownL g[i]?).map fun ds => D.int ds.length) s = _
  unfold ownI
  cases ownL g[i]? <;> rfl
@[simp] theorem evEs_nil : evEs en .nil g s = some (.ok [], s) := rfl
@[simp] theorem evEs_cons {e : CE} {es : CEs} : evEs en (.cons e es) g s = rb (evE en e g s) fun d s => rb (evEs en es g s) fun ds s => some (.ok (d :: ds), s) := rfl
/-! statements -/
@[simp] theorem evS_asg {L : List Nat} {i : Nat} {e : CE} : evS en (.asg L i e) g s = exE en L e g s fun d g s => some (.ok (.nx (g.set i (.dat d))), s) := rfl
def ownK (g : G) (L : List Nat) (i : Nat) (d : D) (s : S) : EV Fl := match d with
  | .lst ds => some (.ok (.nx ((if D.lfL ds then g else frz g L).set i (.own ds))), s)
  | .dct ks => some (.ok (.nx ((if D.lfL (ks.map (·.2)) then g else frz g L).set i (.ownD ks))), s)
  | _ => none
@[simp] theorem ownK_nil {L : List Nat} {i : Nat} {ds : List D} : ownK g L i (.lst ds) s = some (.ok (.nx ((if D.lfL ds then g else frz g L).set i (.own ds))), s) := rfl
@[simp] theorem evS_own {L : List Nat} {i : Nat} {e : CE} : evS en (.own L i e) g s = rb (evE en e (frz g L) s) fun d s => ownK g L i d s := rfl
def keepK (g : G) (o : Option (List D)) (s : S) : EV Fl := match o with
  | some _ => some (.ok (.nx g), s)
  | none => none
@[simp] theorem keepK_some {ds : List D} : keepK g (some ds) s = some (.ok (.nx g), s) := rfl
@[simp] theorem ownL_own {ds : List D} : ownL (some (.own ds)) = some ds := rfl
@[simp] theorem ownL_lst {ds : List D} : ownL (some (.dat (.lst ds))) = some ds := rfl
@[simp] theorem evS_oif {i : Nat} {t e : CE} : evS en (.oif i t e) g s = rb (testE en [] t g s) fun c s => if c then rb (evE en e g s) fun d s => ownK g [] i d s else keepK g (ownL g[i]?) s := rfl
@[simp] theorem evS_tas {L is : List Nat} {e : CE} : evS en (.tas L is e) g s = exE en L e g s fun d g s => rb (rp (setT g d (.tp is)) s) fun g s => some (.ok (.nx g), s) := rfl
@[simp] theorem evS_par {L is : List Nat} {es : CEs} : evS en (.par L is es) g s = rb (evEs en es (frz g L) s) fun ds s => rb (rp (setAll (if D.lfL ds then g else frz g L) is ds) s) fun g s => some (.ok (.nx g), s) := rfl
@[simp] theorem evS_app {L : List Nat} {i : Nat} {e : CE} : evS en (.app L i e) g s = owned g i (exE en L e g s fun d g s => rb (rp (appO g i (appF d)) s) fun g s => some (.ok (.nx g), s)) := rfl
def tapK (g : G) (sl : Option Sl) (s : S) : EV Fl := match sl, s with
  | some (.dat .town), some n => if n < SZ then some (.ok (.nx g), some (n + 1)) else none
  | _, _ => none
@[simp] theorem tapK_some {n : Nat} : tapK g (some (.dat .town)) (some n) = if n < SZ then some (.ok (.nx g), some (n + 1)) else none := rfl
@[simp] theorem evS_tap {i : Nat} : evS en (.tap i) g s = tapK g g[i]? s := rfl
@[simp] theorem evS_ext {L : List Nat} {i : Nat} {e : CE} : evS en (.ext L i e) g s = owned g i (exE en L e g s fun d g s => rb (rp (appO g i (extF d)) s) fun g s => some (.ok (.nx g), s)) := rfl
def popF : List D → Option (List D)
  | [] => none
  | d :: ds => some (d :: ds).dropLast
@[simp] theorem evS_pop {i : Nat} : evS en (.pop i) g s = rb (rp (appO g i popF) s) fun g s => some (.ok (.nx g), s) := by
  show rb (rp (appO g i fun ds => match ds with | [] => none | _ :: _ => some ds.dropLast) s) _ = _
  have : (fun ds : List D => match ds with | [] => none | _ :: _ => some ds.dropLast) = popF := by
    funext ds
    cases ds <;> rfl
  rw [this]
@[simp] theorem evS_ex {L : List Nat} {e : CE} : evS en (.ex L e) g s = exE en L e g s fun _ g s => some (.ok (.nx g), s) := rfl
@[simp] theorem evS_ifs {L : List Nat} {t : CE} {a b : CSs} : evS en (.ifs L t a b) g s = rb (testE en L t g s) fun c s => if c then evSs en a g s else evSs en b g s := rfl
@[simp] theorem evS_for {L : List Nat} {tg : Tgt} {it : CE} {b : CSs} : evS en (.for_ L tg it b) g s = rb (evE en it (frz g L) s) fun x s => rb (rp (itemsD x) s) fun ds s => forL tg (evSs en b) ds (frz g L) s := rfl
@[simp] theorem evS_forR {L : List Nat} {tg : Tgt} {lo hi : CE} {b : CSs} : evS en (.forR L tg lo hi b) g s = rb (evE en lo (frz g L) s) fun x s => rb (evE en hi (frz g L) s) fun y s => rb (rp (rngD x y) s) fun ds s => forL tg (evSs en b) ds (frz g L) s := rfl
@[simp] theorem evS_whl {L : List Nat} {t : CE} {b : CSs} : evS en (.whl L t b) g s = whO (testE en L t) (evSs en b) g s := rfl
@[simp] theorem evS_ret {L : List Nat} {e : CE} : evS en (.ret L e) g s = exE en L e g s fun d _ s => some (.ok (.rt d), s) := rfl
@[simp] theorem evS_rtn : evS en .rtn g s = some (.ok (.rt .non), s) := rfl
@[simp] theorem evS_rse {c : Nat} : evS en (.rse c) g s = some (.exn c, s) := rfl
@[simp] theorem evS_pas : evS en .pas g s = some (.ok (.nx g), s) := rfl
@[simp] theorem evS_cnt : evS en .cnt g s = some (.ok (.ct g), s) := rfl
@[simp] theorem evS_brk : evS en .brk g s = some (.ok (.bk g), s) := rfl
noncomputable def seqK (en : En) (cs : CSs) (f : Fl) (s : S) : EV Fl := match f with
  | .nx g => evSs en cs g s
  | f => some (.ok f, s)
@[simp] theorem seqK_nx {cs : CSs} : seqK en cs (.nx g) s = evSs en cs g s := rfl
@[simp] theorem seqK_rt {cs : CSs} {d : D} : seqK en cs (.rt d) s = some (.ok (.rt d), s) := rfl
@[simp] theorem seqK_ct {cs : CSs} : seqK en cs (.ct g) s = some (.ok (.ct g), s) := rfl
@[simp] theorem seqK_bk {cs : CSs} : seqK en cs (.bk g) s = some (.ok (.bk g), s) := rfl
@[simp] theorem evSs_nil : evSs en .nil g s = some (.ok (.nx g), s) := rfl
@[simp] theorem evSs_cons {c : CS} {cs : CSs} : evSs en (.cons c cs) g s = rb (evS en c g s) (seqK en cs) := rfl
@[simp] theorem exE_nil {e : CE} {k : D → G → S → EV Fl} : exE en [] e g s k = rb (evE en e g s) fun d s => k d g s := by
  unfold exE
  congr 1
  funext d s
  split <;> rfl
@[simp] theorem testE_nil {e : CE} : testE en [] e g s = rb (evE en e g s) tru := rfl
@[simp] theorem frz_nil : frz g [] = g := rfl
@[simp] theorem runB_nx : runB (some (.ok (.nx g), s)) = some (.ok .non, s) := rfl
@[simp] theorem runB_rt {d : D} : runB (some (.ok (.rt d), s)) = some (.ok d, s) := rfl
@[simp] theorem runB_exn {c : Nat} : runB (some (.exn c, s)) = some (.exn c, s) := rfl
end
theorem gl_of {tb : Tb} {i : Nat} {d : D} [H : HasG tb i d] : tb.gl i = d := H.h
/-! data -/
@[simp] theorem cd_non : Cst.non.d = .non := rfl
@[simp] theorem cd_bl {b : Bool} : (Cst.bl b).d = .bl b := rfl
@[simp] theorem cd_int {i : Int} : (Cst.int i).d = .int i := rfl
@[simp] theorem cd_str {x : Str} : (Cst.str x).d = .str x := rfl
@[simp] theorem rd_nil {i : Nat} : G.rd [] i = none := rfl
@[simp] theorem rd_zero {d : D} {g : List Sl} : G.rd (.dat d :: g) 0 = some d := rfl
@[simp] theorem rd_succ {x : Sl} {g : List Sl} {i : Nat} : G.rd (x :: g) (i + 1) = G.rd g i := rfl
@[simp] theorem SZ_eq : SZ = 1000000 := rfl
@[simp] theorem tru_bl {b : Bool} {s : S} : tru (.bl b) s = some (.ok b, s) := rfl
@[simp] theorem tru_int {i : Int} {s : S} : tru (.int i) s = some (.ok (i != 0), s) := rfl
@[simp] theorem tru_lst {xs : List D} {s : S} : tru (.lst xs) s = some (.ok (!xs.isEmpty), s) := rfl
@[simp] theorem tru_tup {xs : List D} {s : S} : tru (.tup xs) s = some (.ok (!xs.isEmpty), s) := rfl
@[simp] theorem tru_scr {xs : List Int} {s : S} : tru (.scr xs) s = some (.ok (!xs.isEmpty), s) := rfl
@[simp] theorem tru_non {s : S} : tru .non s = some (.ok false, s) := rfl
@[simp] theorem add_int {i j : Int} : binD .add (.int i) (.int j) = some (.int (i + j)) := rfl
@[simp] theorem sub_int {i j : Int} : binD .sub (.int i) (.int j) = some (.int (i - j)) := rfl
theorem mul_int {i j : Int} (h : mulOk i j = true) : binD .mul (.int i) (.int j) = some (.int (i * j)) := if_pos h
theorem fdiv_int {i j : Int} (h : divOk j = true) : binD .fdiv (.int i) (.int j) = some (.int (i.fdiv j)) := if_pos h
theorem mod_int {i j : Int} (h : j ≠ 0) : binD .mod (.int i) (.int j) = some (.int (i.fmod j)) := if_neg h
theorem add_lst {xs ys : List D} (h : xs.length + ys.length ≤ SZ) : binD .add (.lst xs) (.lst ys) = some (.lst (xs ++ ys)) := if_pos h
@[simp] theorem lt_int {i j : Int} : cmpD .lt (.int i) (.int j) = some (decide (i < j)) := rfl
@[simp] theorem le_int {i j : Int} : cmpD .le (.int i) (.int j) = some (decide (i ≤ j)) := rfl
@[simp] theorem gt_int {i j : Int} : cmpD .gt (.int i) (.int j) = some (decide (j < i)) := rfl
@[simp] theorem ge_int {i j : Int} : cmpD .ge (.int i) (.int j) = some (decide (j ≤ i)) := rfl
@[simp] theorem eq_int {i j : Int} : cmpD .eq (.int i) (.int j) = some (i == j) := rfl
@[simp] theorem ne_int {i j : Int} : cmpD .ne (.int i) (.int j) = some (!(i == j)) := rfl
@[simp] theorem len_lst {xs : List D} {s : S} : bifD .len [.lst xs] s = some (.int xs.length) := rfl
@[simp] theorem len_tup {xs : List D} {s : S} : bifD .len [.tup xs] s = some (.int xs.length) := rfl
@[simp] theorem len_scr {xs : List Int} {s : S} : bifD .len [.scr xs] s = some (.int xs.length) := rfl
@[simp] theorem len_town {n : Nat} : bifD .len [.town] (some n) = some (.int n) := rfl
@[simp] theorem abs_int {i : Int} {s : S} : bifD .abs [.int i] s = some (.int (if i < 0 then -i else i)) := rfl
@[simp] theorem idx_lst {xs : List D} {i : Int} : idxD (.lst xs) (.int i) = atL xs i := rfl
@[simp] theorem idx_tup {xs : List D} {i : Int} : idxD (.tup xs) (.int i) = atL xs i := rfl
@[simp] theorem idx_scr {xs : List Int} {i : Int} : idxD (.scr xs) (.int i) = (atL xs i).map D.int := rfl
theorem at_nat {α : Type} {xs : List α} {i : Nat} : atL xs (i : Int) = xs[i]? := by
  unfold atL
  rw [if_pos (Int.natCast_nonneg i), Int.toNat_natCast]
theorem at_pos {α : Type} {xs : List α} {i : Int} (h : 0 ≤ i) : atL xs i = xs[i.toNat]? := if_pos h
@[simp] theorem at0 {α : Type} {x : α} {xs : List α} : atL (x :: xs) 0 = some x := rfl
@[simp] theorem at1 {α : Type} {x y : α} {xs : List α} : atL (x :: y :: xs) 1 = some y := rfl
@[simp] theorem at2 {α : Type} {x y z : α} {xs : List α} : atL (x :: y :: z :: xs) 2 = some z := rfl
/-! ### wishes -/
def W {α : Type} (o : EV α) (Q : α → S → Prop) : Prop := ∃ a s, o = some (.ok a, s) ∧ Q a s
@[simp] theorem W_ok {α : Type} {a : α} {s : S} {Q : α → S → Prop} : W (some (.ok a, s)) Q ↔ Q a s := ⟨fun ⟨_, _, e, q⟩ => by cases e; exact q, fun q => ⟨_, _, rfl, q⟩⟩
@[simp] theorem W_none {α : Type} {Q : α → S → Prop} : W none Q ↔ False := ⟨fun h => (by obtain ⟨_, _, e, _⟩ := h; cases e), False.elim⟩
@[simp] theorem W_exn {α : Type} {c : Nat} {s : S} {Q : α → S → Prop} : W (some (.exn c, s)) Q ↔ False := ⟨fun h => (by obtain ⟨_, _, e, _⟩ := h; cases e), False.elim⟩
@[simp] theorem W_rb {α β : Type} {o : EV α} {f : α → S → EV β} {Q : β → S → Prop} : W (rb o f) Q ↔ W o fun a s => W (f a s) Q := by
  constructor
  · rintro ⟨b, s, e, q⟩
    cases o with
    | none => cases e
    | some p =>
      obtain ⟨r, s1⟩ := p
      cases r with
      | exn c => cases e
      | ok a => exact ⟨a, s1, rfl, b, s, e, q⟩
  · rintro ⟨a, s1, rfl, b, s, e, q⟩
    exact ⟨b, s, e, q⟩
theorem W.mono {α : Type} {o : EV α} {Q Q' : α → S → Prop} (h : W o Q) (i : ∀ a s, Q a s → Q' a s) : W o Q' := by
  obtain ⟨a, s, e, q⟩ := h
  exact ⟨a, s, e, i a s q⟩
/-- the end of a body -/
def retK (Q : D → S → Prop) (f : Fl) (s : S) : Prop := match f with
  | .nx _ => Q .non s
  | .rt d => Q d s
  | _ => False
@[simp] theorem retK_nx {Q : D → S → Prop} {g : G} {s : S} : retK Q (.nx g) s = Q .non s := rfl
@[simp] theorem retK_rt {Q : D → S → Prop} {d : D} {s : S} : retK Q (.rt d) s = Q d s := rfl
theorem W_run {o : EV Fl} {Q : D → S → Prop} : W (runB o) Q ↔ W o (retK Q) := by
  unfold runB
  rw [W_rb]
  constructor
  · rintro ⟨f, s, e, q⟩
    refine ⟨f, s, e, ?_⟩
    cases f <;> simpa using q
  · rintro ⟨f, s, e, q⟩
    refine ⟨f, s, e, ?_⟩
    cases f
    · simpa using q
    · simpa using q
    · exact q.elim
    · exact q.elim
end FR
/-! FrDraw: sizes of numbers; a law's draws. -/
namespace FR
open PySem (Str)
/-! ### sizes -/
def bt (i : Int) (n : Nat) : Prop := i.natAbs < 2 ^ n
theorem bt.mono {i : Int} {n m : Nat} (h : bt i n) (l : n ≤ m) : bt i m := Nat.lt_of_lt_of_le h (Nat.pow_le_pow_right (by decide) l)
theorem bt_add {i j : Int} {n : Nat} (h : bt i n) (k : bt j n) : bt (i + j) (n + 1) := by
  unfold bt at *
  have := Int.natAbs_add_le i j
  rw [Nat.pow_succ]
  omega
theorem bt_neg {i : Int} {n : Nat} (h : bt i n) : bt (-i) n := by
  unfold bt at *
  rw [Int.natAbs_neg]
  exact h
theorem bt_sub {i j : Int} {n : Nat} (h : bt i n) (k : bt j n) : bt (i - j) (n + 1) := by
  rw [Int.sub_eq_add_neg]
  exact bt_add h (bt_neg k)
theorem bt_mul {i j : Int} {n m : Nat} (h : bt i n) (k : bt j m) : bt (i * j) (n + m) := by
  unfold bt at *
  rw [Int.natAbs_mul, Nat.pow_add]
  exact Nat.mul_lt_mul'' h k
theorem bt_of {i : Int} {n : Nat} (h1 : -(2 ^ n : Nat) < i) (h2 : i < (2 ^ n : Nat)) : bt i n := by
  unfold bt
  omega
theorem log2_le_of {a n : Nat} (h : a < 2 ^ n) : a.log2 ≤ n := by
  by_cases z : a = 0
  · subst z
    exact Nat.zero_le _
  · exact Nat.le_of_lt ((Nat.log2_lt z).mpr h)
theorem mulOk_of {i j : Int} {n m : Nat} (h : bt i n) (k : bt j m) (l : n + m < 1000000) : mulOk i j = true := by
  unfold mulOk
  have h1 := log2_le_of h
  have h2 := log2_le_of k
  exact decide_eq_true (by omega)
theorem divOk_of {j : Int} {n : Nat} (z : j ≠ 0) (h : bt j n) (l : n < 9000) : divOk j = true := by
  unfold divOk
  have h1 := log2_le_of h
  exact decide_eq_true ⟨z, by omega⟩
theorem mul_bt {i j : Int} {n m : Nat} (h : bt i n) (k : bt j m) (l : n + m < 1000000) : binD .mul (.int i) (.int j) = some (.int (i * j)) := mul_int (mulOk_of h k l)
theorem at_in {α : Type} {xs : List α} {i : Int} (h0 : 0 ≤ i) (h1 : i < xs.length) : ∃ x ∈ xs, atL xs i = some x := by
  rw [at_pos h0]
  have : i.toNat < xs.length := by omega
  exact ⟨xs[i.toNat], List.getElem_mem this, List.getElem?_eq_getElem this⟩
/-! ### draws -/
section
variable {tb : Tb} [Has tb 9 cb_w_cell 2 2] [Has tb 10 cb_w_mix 3 2] [Has tb 11 cb_w_draw 3 3] [Has tb 12 cb_w_pick 3 3]
theorem cell_eq {k n : Nat} {ns : List Int} {s : S} : ∃ c : Int, sem tb (k + 1) 9 [.scr ns, .int n] s = some (.ok (.int c), s) := by
  rw [sem_of rfl]
  cases ns with
  | nil =>
    refine ⟨0, ?_⟩
    simp [cb_w_cell, startG]
  | cons a r =>
    have h0 : (0 : Int) < (r.length : Int) + 1 := by omega
    have h : (((r.length : Int) + 1)) ≠ 0 := by omega
    obtain ⟨x, _, e⟩ := at_in (xs := a :: r) (Int.fmod_nonneg_of_pos (n : Int) h0) (by rw [List.length_cons, Int.natCast_add]; exact Int.fmod_lt_of_pos _ h0)
    refine ⟨x, ?_⟩
    simp [cb_w_cell, startG, mod_int h, e]
theorem pow_int {i : Int} (h0 : 0 ≤ i) (h : i < 4294967296) : binD .pow (.int i) (.int 5) = some (.int (i ^ 5)) := if_pos ⟨by decide, by decide, by omega⟩
theorem mix_eq {k n : Nat} {ns : List Int} {s : S} (hn : n < 1000000000) : ∃ c : Int, sem tb (k + 2) 10 [.scr ns, .int n] s = some (.ok (.int c), s) := by
  rw [sem_of rfl]
  obtain ⟨c, e⟩ := cell_eq (tb := tb) (k := k) (n := n) (ns := ns) (s := s)
  have m1 : binD .mul (.int 104729) (.int ((n : Int) + 1)) = some (.int (104729 * ((n : Int) + 1))) := mul_bt (n := 40) (m := 40) (bt_of (by decide) (by decide)) (bt_of (by omega) (by omega)) (by decide)
  generalize hx : (c + 104729 * ((n : Int) + 1)).fmod 4294967291 = x
  have x0 : 0 ≤ x := by rw [← hx]; exact Int.fmod_nonneg_of_pos _ (by decide)
  have x1 : x < 4294967291 := by rw [← hx]; exact Int.fmod_lt_of_pos _ (by decide)
  generalize hy : (x ^ 5).fmod 4294967279 = y
  have y0 : 0 ≤ y := by rw [← hy]; exact Int.fmod_nonneg_of_pos _ (by decide)
  have y1 : y < 4294967279 := by rw [← hy]; exact Int.fmod_lt_of_pos _ (by decide)
  have z0 : y.fdiv 64 = y / 64 := Int.fdiv_eq_ediv_of_nonneg _ (by decide)
  have m2 : binD .mul (.int (y / 64)) (.int 69621) = some (.int (y / 64 * 69621)) := mul_bt (n := 40) (m := 40) (bt_of (by omega) (by omega)) (bt_of (by decide) (by decide)) (by decide)
  refine ⟨(y / 64 * 69621 + y).fmod 4294967231, ?_⟩
  simp [cb_w_mix, startG, e, m1, mod_int, hx, pow_int x0 (by omega : x < 4294967296), hy, fdiv_int (show divOk 64 = true from rfl), z0, m2]
theorem W_draw {k n : Nat} {ns : List Int} {m : Int} {Q : D → S → Prop} (hn : n < 900000) (hm : 0 < m) (h : ∀ r : Int, 0 ≤ r → r < m → Q (.int r) (some (n + 1))) : W (sem tb (k + 3) 11 [.scr ns, .town, .int m] (some n)) Q := by
  obtain ⟨c, e⟩ := mix_eq (tb := tb) (k := k) (n := n + 1) (ns := ns) (s := some (n + 1)) (by omega)
  refine ⟨_, _, ?_, h ((c.fdiv 8).fmod m) (Int.fmod_nonneg_of_pos _ hm) (Int.fmod_lt_of_pos _ hm)⟩
  rw [sem_of rfl]
  have hs : n < 1000000 := Nat.lt_trans hn (by decide)
  have hz : m ≠ 0 := by omega
  rw [Int.natCast_add] at e
  have e' : sem tb (k + 2) 10 [.scr ns, .int ((n : Int) + 1)] (some (n + 1)) = some (.ok (.int c), some (n + 1)) := e
  simp [cb_w_draw, startG, hs, e', fdiv_int (show divOk 8 = true from rfl), mod_int hz]
theorem W_pick {k n : Nat} {ns : List Int} {xs : List D} {Q : D → S → Prop} (hn : n < 900000) (hm : xs ≠ []) (h : ∀ x ∈ xs, Q x (some (n + 1))) : W (sem tb (k + 4) 12 [.scr ns, .town, .lst xs] (some n)) Q := by
  rw [sem_of rfl]
  have hl : (0 : Int) < xs.length := by
    have := List.length_pos_iff.mpr hm
    omega
  obtain ⟨r, s, e, r', rfl, h0, h1, rfl⟩ := W_draw (tb := tb) (k := k) (ns := ns) (m := xs.length) (Q := fun d s => ∃ r : Int, d = .int r ∧ 0 ≤ r ∧ r < xs.length ∧ s = some (n + 1)) hn hl fun r h0 h1 => ⟨r, rfl, h0, h1, rfl⟩
  obtain ⟨x, hx, ex⟩ := at_in h0 h1
  refine ⟨_, _, ?_, h x hx⟩
  simp [cb_w_pick, startG, e, ex]
end
end FR
/-! FrEv2: the evaluator's equations for dicts, sets, stores. -/
namespace FR
open PySem (Str)
section
variable {en : En} {g : G} {s : S}
def ownJ (sl : Option Sl) (k : List (Ky × D) → EV D) : EV D := match ownDc sl with
  | some ds => k ds
  | none => none
@[simp] theorem ownJ_dct {ds : List (Ky × D)} {k : List (Ky × D) → EV D} : ownJ (some (.dat (.dct ds))) k = k ds := by rfl
@[simp] theorem ownJ_own {ds : List (Ky × D)} {k : List (Ky × D) → EV D} : ownJ (some (.ownD ds)) k = k ds := by rfl
@[simp] theorem evE_odix {i : Nat} {e : CE} : evE en (.odix i e) g s = ownJ g[i]? fun kvs => rb (evE en e g s) fun y s => rp ((keyD y).bind (getK kvs)) s := by rfl
@[simp] theorem evE_ssort {a : CE} : evE en (.ssort a) g s = rb (evE en a g s) fun x s => rp (setSortD x) s := by rfl
@[simp] theorem evE_slen {a : CE} : evE en (.slen a) g s = rb (evE en a g s) fun x s => rp (setLenD x) s := by rfl
@[simp] theorem evE_ksort {a : CE} : evE en (.ksort a) g s = rb (evE en a g s) fun x s => rp (keySortD x) s := by rfl
@[simp] theorem evE_klist {a : CE} : evE en (.klist a) g s = rb (evE en a g s) fun x s => rp ((keysD x).map D.lst) s := by rfl
@[simp] theorem evE_compK {tg : Tgt} {it ifs elt : CE} : evE en (.compK tg it ifs elt) g s = rb (evE en it g s) fun x s => rb (rp (keysD x) s) fun ds s => rb (compL (cmp1 en g tg ifs elt) ds s) bigL := by rfl
@[simp] theorem evE_rngl {lo hi : CE} : evE en (.rngl lo hi) g s = rb (evE en lo g s) fun x s => rb (evE en hi g s) fun y s => rp ((rngD x y).map D.lst) s := by rfl
@[simp] theorem evE_dctd {k : Cst} {a : CE} : evE en (.dctd k a) g s = rb (evE en a g s) fun x s => rp ((cstK k).map fun k => .dct [(k, x)]) s := by rfl
@[simp] theorem evE_callO {f h : Nat} {es : CEs} : evE en (.callO f h es) g s = rb (evEs en es g s) fun ds s => rb (en.ΦF h ds s) fun d s => en.ΦO f [d] s := by rfl
/-- behind the value and the place of a store -/
def stK (g : G) (L : List Nat) (i : Nat) (d j : D) (s : S) : EV Fl := match (if d.lf && j.lf then g else frz g L)[i]?, j with
      | some (.own ds), .int k => rb (rp (setL ds k d) s) fun ds s => some (.ok (.nx ((if d.lf && j.lf then g else frz g L).set i (.own ds))), s)
      | some (.ownD ks), _ => rb (rp (keyD j) s) fun k s => if ks.length < SZ then some (.ok (.nx ((if d.lf && j.lf then g else frz g L).set i (.ownD (putK ks k d)))), s) else none
      | _, _ => none
@[simp] theorem evS_sti {L : List Nat} {i : Nat} {e v : CE} : evS en (.sti L i e v) g s = if ownB g[i]? then rb (evE en v (frz g L) s) fun d s => rb (evE en e (frz g L) s) fun j s => stK g L i d j s else none := by rfl
theorem stK_own {i : Nat} {d : D} {k : Int} {ds es : List D} (h : g[i]? = some (.own ds)) (hs : setL ds k d = some es) : stK g [] i d (.int k) s = some (.ok (.nx (g.set i (.own es))), s) := by
  unfold stK
  have e : (if (d.lf && (D.int k).lf) = true then g else frz g []) = g := by split <;> rfl
  rw [e, h]
  dsimp only
  rw [hs]
  rfl
theorem stK_dct {i : Nat} {d j : D} {k : Ky} {ks : List (Ky × D)} (h : g[i]? = some (.ownD ks)) (hk : keyD j = some k) (hl : ks.length < SZ) : stK g [] i d j s = some (.ok (.nx (g.set i (.ownD (putK ks k d)))), s) := by
  unfold stK
  have e : (if (d.lf && j.lf) = true then g else frz g []) = g := by split <;> rfl
  rw [e, h]
  cases j <;> first | (cases hk; done) | (dsimp only; rw [hk]; exact if_pos hl)
@[simp] theorem ownB_own {ds : List D} : ownB (some (.own ds)) = true := by rfl
@[simp] theorem ownB_ownD {ds : List (Ky × D)} : ownB (some (.ownD ds)) = true := by rfl
def lkG (g : G) (i : Nat) : G := match g[i]? with | some (.ownD ks) => g.set i (.dat (.dct ks)) | _ => g
@[simp] theorem evS_lkd {i : Nat} : evS en (.lkd i) g s = some (.ok (.nx (lkG g i)), s) := by rfl
theorem lkG_own {i : Nat} {ks : List (Ky × D)} (h : g[i]? = some (.ownD ks)) : lkG g i = g.set i (.dat (.dct ks)) := by
  unfold lkG
  rw [h]
theorem lkG_dat {i : Nat} {d : D} (h : g[i]? = some (.dat d)) : lkG g i = g := by
  unfold lkG
  rw [h]
@[simp] theorem evS_forK {L : List Nat} {tg : Tgt} {it : CE} {b : CSs} : evS en (.forK L tg it b) g s = rb (evE en it (frz g L) s) fun x s => rb (rp (keysD x) s) fun ds s => forL tg (evSs en b) ds (frz g L) s := by rfl
end
@[simp] theorem keysD_dct {kvs : List (Ky × D)} : keysD (.dct kvs) = some (kvs.map fun kv => Ky.d kv.1) := by rfl
@[simp] theorem keyD_str {x : Str} : keyD (.str x) = some (.inr x) := by rfl
@[simp] theorem keyD_int {x : Int} : keyD (.int x) = some (.inl x) := by rfl
@[simp] theorem len_dct {xs : List (Ky × D)} {s : S} : bifD .len [.dct xs] s = some (.int xs.length) := by rfl
@[simp] theorem len_str {x : Str} {s : S} : bifD .len [.str x] s = if x.length ≤ 100000 then some (.int x.length) else none := by rfl
theorem strsD_map (l : List Str) : strsD (l.map D.str) = some l := by
  induction l with
  | nil => rfl
  | cons x r ih =>
    rw [List.map_cons, strsD, ih]
    rfl
theorem setSort_map {l : List Str} (h : l.length < 64) : setSortD (.lst (l.map D.str)) = some (.lst ((sortS (onceS l)).map D.str)) := by
  show (strsD (l.map D.str)).bind _ = _
  rw [strsD_map]
  exact if_pos h
theorem sorted_map {l : List Str} {s : S} (h : l.length < 64) : bifD .sorted [.lst (l.map D.str)] s = some (.lst ((sortS l).map D.str)) := by
  show sortedL (l.map D.str) = _
  unfold sortedL
  rw [strsD_map]
  exact if_pos h
/-- a dict with texts as keys -/
def kD {α : Type} (f : α → D) (l : List (Str × α)) : D := .dct (l.map fun p => (.inr p.1, f p.2))
theorem keySort_kD {α : Type} {f : α → D} {l : List (Str × α)} (h : l.length < 64) : keySortD (kD f l) = some (.lst ((sortS (l.map (·.1))).map D.str)) := by
  show (strsD ((l.map fun p => ((.inr p.1 : Ky), f p.2)).map fun kv => Ky.d kv.1)).bind _ = _
  have e : ((l.map fun p => ((.inr p.1 : Ky), f p.2)).map fun kv => Ky.d kv.1) = (l.map (·.1)).map D.str := by
    rw [List.map_map, List.map_map]
    rfl
  rw [e, strsD_map]
  exact if_pos (by rw [List.length_map]; exact h)
theorem keys_kD {α : Type} {f : α → D} {l : List (Str × α)} : keysD (kD f l) = some (l.map fun p => .str p.1) := by
  show some ((l.map fun p => ((.inr p.1 : Ky), f p.2)).map fun kv => Ky.d kv.1) = _
  rw [List.map_map]
  rfl
def getQ {α : Type} (l : List (Str × α)) (x : Str) : Option α := (l.find? fun p => decide (p.1 = x)).map (·.2)
theorem getK_kD {α : Type} {f : α → D} {l : List (Str × α)} {x : Str} : getK (l.map fun p => ((.inr p.1 : Ky), f p.2)) (.inr x) = (getQ l x).map f := by
  unfold getK getQ
  induction l with
  | nil => rfl
  | cons p r ih =>
    rw [List.map_cons, List.find?_cons, List.find?_cons]
    have e : (decide ((Sum.inr p.1 : Ky) = .inr x)) = decide (p.1 = x) := by
      by_cases q : p.1 = x
      · simp [q]
      · simp [q]
    rw [e]
    cases q : decide (p.1 = x) with
    | true => rfl
    | false => exact ih
theorem idx_kD {α : Type} {f : α → D} {l : List (Str × α)} {x : Str} : idxD (kD f l) (.str x) = (getQ l x).map f := getK_kD
theorem in_kD {α : Type} {f : α → D} {l : List (Str × α)} {x : Str} : cmpD .isin (.str x) (kD f l) = some (getQ l x).isSome := by
  show some ((getK (l.map fun p => ((.inr p.1 : Ky), f p.2)) (.inr x)).isSome) = _
  rw [getK_kD, Option.isSome_map]
theorem nin_kD {α : Type} {f : α → D} {l : List (Str × α)} {x : Str} : cmpD .nin (.str x) (kD f l) = some (!(getQ l x).isSome) := by
  show (cmpD .isin (.str x) (kD f l)).map (!·) = _
  rw [in_kD]
  rfl
/-- put in its place, or at the end -/
def putQ {α : Type} (l : List (Str × α)) (x : Str) (v : α) : List (Str × α) :=
  if (l.any fun p => decide (p.1 = x)) = true then l.map (fun p => if p.1 = x then (p.1, v) else p) else l ++ [(x, v)]
theorem putK_kD {α : Type} {f : α → D} {l : List (Str × α)} {x : Str} {v : α} : putK (l.map fun p => ((.inr p.1 : Ky), f p.2)) (.inr x) (f v) = (putQ l x v).map fun p => (.inr p.1, f p.2) := by
  unfold putK putQ
  have e : ((l.map fun p => ((.inr p.1 : Ky), f p.2)).any fun kv => decide (kv.1 = .inr x)) = l.any fun p => decide (p.1 = x) := by
    rw [List.any_map]
    congr 1
    funext p
    show decide ((Sum.inr p.1 : Ky) = .inr x) = _
    by_cases q : p.1 = x <;> simp [q]
  rw [e]
  split
  · rw [List.map_map, List.map_map]
    apply List.map_congr_left
    intro p _
    by_cases q : p.1 = x <;> simp [q]
  · rw [List.map_append]
    rfl
end FR
/-! FrGraph: what hangs together. -/
namespace FR
open PySem (Str)
abbrev Ed := Str × Str
inductive Rch (E : List Ed) (ns : List Str) : Str → Prop
  | base {x : Str} : x ∈ ns → Rch E ns x
  | fw {a b : Str} : (a, b) ∈ E → Rch E ns a → Rch E ns b
  | bw {a b : Str} : (a, b) ∈ E → Rch E ns b → Rch E ns a
theorem Rch.mono {E E' : List Ed} {ns ns' : List Str} {x : Str} (h : Rch E ns x) (he : ∀ e ∈ E, e ∈ E') (hn : ∀ y ∈ ns, y ∈ ns') : Rch E' ns' x := by
  induction h with
  | base h => exact .base (hn _ h)
  | fw h _ ih => exact .fw (he _ h) ih
  | bw h _ ih => exact .bw (he _ h) ih
/-- a sight's look -/
def stepH (f : List Str) (e : Ed) : List Str := if decide (e.1 ∈ f) != decide (e.2 ∈ f) then f ++ [if e.1 ∈ f then e.2 else e.1] else f
def passH (E : List Ed) (f : List Str) : List Str := E.foldl stepH f
theorem stepH_cases (f : List Str) (e : Ed) : ((e.1 ∈ f ↔ e.2 ∈ f) ∧ stepH f e = f) ∨ (e.1 ∈ f ∧ e.2 ∉ f ∧ stepH f e = f ++ [e.2]) ∨ (e.1 ∉ f ∧ e.2 ∈ f ∧ stepH f e = f ++ [e.1]) := by
  unfold stepH
  by_cases h1 : e.1 ∈ f <;> by_cases h2 : e.2 ∈ f <;> simp [h1, h2]
theorem stepH_len (f : List Str) (e : Ed) : f.length ≤ (stepH f e).length := by
  rcases stepH_cases f e with ⟨_, h⟩ | ⟨_, _, h⟩ | ⟨_, _, h⟩ <;> rw [h] <;> simp
theorem passH_len (E : List Ed) : ∀ f : List Str, f.length ≤ (passH E f).length := by
  induction E with
  | nil => exact fun f => Nat.le_refl _
  | cons e E ih => exact fun f => Nat.le_trans (stepH_len f e) (ih _)
theorem passH_pre (E : List Ed) : ∀ f : List Str, ∀ x ∈ f, x ∈ passH E f := by
  induction E with
  | nil => exact fun f x h => h
  | cons e E ih =>
    intro f x h
    refine ih _ x ?_
    rcases stepH_cases f e with ⟨_, q⟩ | ⟨_, _, q⟩ | ⟨_, _, q⟩ <;> rw [q] <;> simp [h]
theorem passH_nodup (E : List Ed) : ∀ f : List Str, f.Nodup → (passH E f).Nodup := by
  induction E with
  | nil => exact fun f h => h
  | cons e E ih =>
    intro f h
    refine ih _ ?_
    rcases stepH_cases f e with ⟨_, q⟩ | ⟨_, h2, q⟩ | ⟨h2, _, q⟩ <;> rw [q]
    · exact h
    · exact List.nodup_append.mpr ⟨h, by simp, fun a ha b hb => by cases List.mem_singleton.mp hb; exact fun z => h2 (z ▸ ha)⟩
    · exact List.nodup_append.mpr ⟨h, by simp, fun a ha b hb => by cases List.mem_singleton.mp hb; exact fun z => h2 (z ▸ ha)⟩
theorem passH_rch {E0 : List Ed} {ns : List Str} : ∀ (E : List Ed) (f : List Str), (∀ e ∈ E, e ∈ E0) → (∀ x ∈ f, Rch E0 ns x) → ∀ x ∈ passH E f, Rch E0 ns x := by
  intro E
  induction E with
  | nil => exact fun f _ h => h
  | cons e E ih =>
    intro f he h
    refine ih _ (fun e' h' => he e' (List.mem_cons_of_mem _ h')) fun x hx => ?_
    have he0 : (e.1, e.2) ∈ E0 := he e List.mem_cons_self
    rcases stepH_cases f e with ⟨_, q⟩ | ⟨h1, h2, q⟩ | ⟨h1, h2, q⟩ <;> rw [q] at hx
    · exact h x hx
    · rcases List.mem_append.mp hx with hx | hx
      · exact h x hx
      · cases List.mem_singleton.mp hx
        exact .fw he0 (h _ h1)
    · rcases List.mem_append.mp hx with hx | hx
      · exact h x hx
      · cases List.mem_singleton.mp hx
        exact .bw he0 (h _ h2)
/-- nothing was put to it: all is there -/
theorem passH_fix : ∀ (E : List Ed) (f : List Str), (passH E f).length = f.length → passH E f = f ∧ ∀ e ∈ E, e.1 ∈ f ↔ e.2 ∈ f := by
  intro E
  induction E with
  | nil => exact fun f _ => ⟨rfl, fun e h => nomatch h⟩
  | cons e E ih =>
    intro f h
    have h' : (passH E (stepH f e)).length = f.length := h
    have l1 := passH_len E (stepH f e)
    have l2 := stepH_len f e
    have es : stepH f e = f ∧ (e.1 ∈ f ↔ e.2 ∈ f) := by
      rcases stepH_cases f e with ⟨a, q⟩ | ⟨_, _, q⟩ | ⟨_, _, q⟩
      · exact ⟨q, a⟩
      · rw [q] at l1
        rw [q] at h'
        simp at l1
        omega
      · rw [q] at l1
        rw [q] at h'
        simp at l1
        omega
    rw [es.1] at h'
    obtain ⟨i1, i2⟩ := ih f h'
    refine ⟨?_, fun e' he => ?_⟩
    · show passH E (stepH f e) = f
      rw [es.1]
      exact i1
    · rcases List.mem_cons.mp he with rfl | he
      · exact es.2
      · exact i2 e' he
def itH (E : List Ed) : Nat → List Str → List Str
  | 0, f => f
  | n + 1, f => itH E n (passH E f)
theorem itH_fix {E : List Ed} {f : List Str} (h : passH E f = f) : ∀ n, itH E n f = f
  | 0 => rfl
  | n + 1 => by
    rw [itH, h]
    exact itH_fix h n
theorem sub_len {l m : List Str} (n : l.Nodup) (h : ∀ x ∈ l, x ∈ m) : l.length ≤ m.length := by
  induction l generalizing m with
  | nil => exact Nat.zero_le _
  | cons x l ih =>
    obtain ⟨n1, n2⟩ := List.nodup_cons.mp n
    have hx := h x List.mem_cons_self
    have q := ih (m := m.erase x) n2 fun y hy => (List.mem_erase_of_ne (a := y) (b := x) fun e => n1 (by rw [← e]; exact hy)).mpr (h y (List.mem_cons_of_mem _ hy))
    rw [List.length_erase_of_mem hx] at q
    have := List.length_pos_of_mem hx
    rw [List.length_cons]
    omega
theorem passH_sub {B : List Str} : ∀ (E : List Ed) (f : List Str), (∀ e ∈ E, e.1 ∈ B ∧ e.2 ∈ B) → (∀ x ∈ f, x ∈ B) → ∀ x ∈ passH E f, x ∈ B := by
  intro E
  induction E with
  | nil => exact fun f _ h => h
  | cons e E ih =>
    intro f he h
    refine ih _ (fun e' h' => he e' (List.mem_cons_of_mem _ h')) fun x hx => ?_
    have he0 := he e List.mem_cons_self
    rcases stepH_cases f e with ⟨_, q⟩ | ⟨h1, h2, q⟩ | ⟨h1, h2, q⟩ <;> rw [q] at hx
    · exact h x hx
    · rcases List.mem_append.mp hx with hx | hx
      · exact h x hx
      · cases List.mem_singleton.mp hx
        exact he0.2
    · rcases List.mem_append.mp hx with hx | hx
      · exact h x hx
      · cases List.mem_singleton.mp hx
        exact he0.1
/-- what is wanted of benches, sights among them, a start -/
structure GrOk (E : List Ed) (f B : List Str) : Prop where
  nd : f.Nodup
  sub : ∀ x ∈ f, x ∈ B
  ed : ∀ e ∈ E, e.1 ∈ B ∧ e.2 ∈ B
theorem GrOk.pass {E : List Ed} {f B : List Str} (h : GrOk E f B) : GrOk E (passH E f) B := ⟨passH_nodup E f h.nd, passH_sub E f h.ed h.sub, h.ed⟩
theorem GrOk.len {E : List Ed} {f B : List Str} (h : GrOk E f B) : f.length ≤ B.length := sub_len h.nd h.sub
/-- enough rounds -/
theorem itH_end {E : List Ed} {B : List Str} : ∀ (n : Nat) (f : List Str), GrOk E f B → B.length - f.length < n → passH E (itH E n f) = itH E n f := by
  intro n
  induction n with
  | zero => exact fun f _ h => absurd h (Nat.not_lt_zero _)
  | succ n ih =>
    intro f g h
    by_cases e : (passH E f).length = f.length
    · have q := (passH_fix E f e).1
      rw [itH_fix q (n + 1)]
      exact q
    · have l1 := passH_len E f
      have l2 := g.pass.len
      exact ih (passH E f) g.pass (by omega)
theorem itH_mem {E : List Ed} {B : List Str} {n : Nat} {f : List Str} (g : GrOk E f B) (h : B.length - f.length < n) (x : Str) : x ∈ itH E n f ↔ Rch E f x := by
  have key : ∀ n f0, (∀ x ∈ f0, Rch E f x) → ∀ x ∈ itH E n f0, Rch E f x := by
    intro n
    induction n with
    | zero => exact fun f0 h => h
    | succ n ih => exact fun f0 h => ih _ (passH_rch E f0 (fun _ h => h) h)
  have pre : ∀ n f0, ∀ x ∈ f0, x ∈ itH E n f0 := by
    intro n
    induction n with
    | zero => exact fun f0 x h => h
    | succ n ih => exact fun f0 x h => ih _ x (passH_pre E f0 x h)
  refine ⟨key n f (fun x h => .base h) x, fun r => ?_⟩
  have q := itH_end n f g h
  have cl := (passH_fix E (itH E n f) (by rw [q])).2
  induction r with
  | base h => exact pre n f _ h
  | fw he _ ih => exact (cl _ he).mp ih
  | bw he _ ih => exact (cl _ he).mpr ih
theorem itH_gr {E : List Ed} {B : List Str} : ∀ (n : Nat) (f : List Str), GrOk E f B → GrOk E (itH E n f) B
  | 0, _, g => g
  | n + 1, f, g => itH_gr n _ g.pass
/-- all that hangs together, in order -/
def heldP (E : List Ed) (f : List Str) : List Str := sortS (itH E 12 f)
theorem held_mem {E : List Ed} {B f : List Str} (g : GrOk E f B) (h : B.length ≤ 11) (x : Str) : x ∈ heldP E f ↔ Rch E f x := by
  unfold heldP
  rw [mem_sortS]
  exact itH_mem g (by omega) x
theorem held_all {E : List Ed} {B f : List Str} (g : GrOk E f B) (h : B.length ≤ 11) (sB : SrtS B) (nB : B.Nodup) : heldP E f = B ↔ ∀ x ∈ B, Rch E f x := by
  constructor
  · intro e x hx
    rw [← e] at hx
    exact (held_mem g h x).mp hx
  · intro q
    refine (srt_uniq ?_ sB (sortS_srt _)).symm
    have n2 : (heldP E f).Nodup := (sortS_perm _).nodup_iff.mpr (itH_gr 12 f g).nd
    exact (List.perm_ext_iff_of_nodup nB n2).mpr fun x => ⟨fun hx => (held_mem g h x).mpr (q x hx), fun hx => (itH_gr 12 f g).sub x (mem_sortS.mp hx)⟩
end FR
/-! FrFrac: fractions. -/
namespace FR
open PySem (Str)
theorem gcd_fmod (a b : Int) : Int.gcd b (a.fmod b) = Int.gcd a b := by
  rw [Int.fmod_def, Int.gcd_comm a b]
  simp
theorem fmod_small (a : Int) {b : Int} (h : b ≠ 0) : (a.fmod b).natAbs < b.natAbs := by
  rw [Int.fmod_eq_emod]
  have h1 := Int.emod_nonneg a h
  have h2 := Int.emod_lt a h
  split
  · omega
  · rename_i hn
    have : 0 < a % b := by
      have : ¬ b ∣ a := fun hd => hn (.inr hd)
      have : a % b ≠ 0 := fun e => this (Int.dvd_of_emod_eq_zero e)
      omega
    omega
theorem whF_step {t : G → S → EV Bool} {b : G → S → EV Fl} {n : Nat} {g g2 : G} {s s1 s2 : S} (h1 : t g s = some (.ok true, s1)) (h2 : b g s1 = some (.ok (.nx g2), s2)) : whF t b (n + 1) g s = whF t b n g2 s2 := by
  rw [whF, h1, rb_ok, if_pos rfl, h2, rb_ok]
theorem whF_stop {t : G → S → EV Bool} {b : G → S → EV Fl} {n : Nat} {g : G} {s s1 : S} (h1 : t g s = some (.ok false, s1)) : whF t b (n + 1) g s = some (.ok (.nx g), s1) := by
  rw [whF, h1, rb_ok]
  rfl
def dv_body : CSs := .cons (.par [] [0, 1] (.cons (.var 1) (.cons (.bin .mod (.var 0) (.var 1)) (.nil)))) (.nil)
theorem div_loop {en : En} {s : S} : ∀ (n : Nat) (a b : Int), b.natAbs < n → ∃ x : Int, whF (testE en [] (.var 1)) (evSs en dv_body) n [.dat (.int a), .dat (.int b)] s = some (.ok (.nx [.dat (.int x), .dat (.int 0)]), s) ∧ x.natAbs = Int.gcd a b
  | 0, _, _, h => by omega
  | n + 1, a, b, h => by
    by_cases hb : b = 0
    · subst hb
      refine ⟨a, whF_stop (by simp), ?_⟩
      simp
    · have hs := fmod_small a hb
      obtain ⟨x, e, hx⟩ := div_loop (en := en) (s := s) n b (a.fmod b) (by omega)
      refine ⟨x, ?_, ?_⟩
      · rw [whF_step (s1 := s) (s2 := s) (g2 := [.dat (.int b), .dat (.int (a.fmod b))])]
        · exact e
        · simp [hb]
        · simp [dv_body, mod_int hb, setAll]
      · rw [hx, gcd_fmod]
section
variable {tb : Tb} [Has tb 1 cb_divisor 2 2]
theorem divisor_eq {k : Nat} {a b : Int} {s : S} : sem tb (k + 1) 1 [.int a, .int b] s = some (.ok (.int (Int.gcd a b)), s) := by
  rw [sem_of rfl]
  obtain ⟨x, e, hx⟩ := div_loop (en := enOf tb k) (s := s) (b.natAbs + 1) a b (by omega)
  have := whO_of e
  unfold dv_body at this
  have hx2 : (if x < 0 then -x else x) = (Int.gcd a b : Int) := by
    rw [← hx]
    split <;> omega
  simp [cb_divisor, startG, this, hx2]
end
/-- the fraction q as the program writes it -/
def frD (q : Rat) : D := .tup [.int q.num, .int q.den]
theorem frD_divInt {a b : Int} (h : b ≠ 0) : frD (Rat.divInt a b) = .tup [.int (b.sign * a / (b.gcd a : Int)), .int (b.natAbs / b.gcd a : Nat)] := by
  unfold frD
  rw [Rat.num_divInt, Rat.den_divInt, if_neg h]
section
variable {tb : Tb} [Has tb 1 cb_divisor 2 2] [Has tb 2 cb_least 3 2]
theorem least_eq {k : Nat} {a b : Int} {s : S} (h : b ≠ 0) (hb : bt b 8999) : sem tb (k + 2) 2 [.int a, .int b] s = some (.ok (frD (Rat.divInt a b)), s) := by
  rw [sem_of rfl, frD_divInt h]
  have hg0 : (0 : Int) < (Int.gcd a b : Int) := by
    have := Int.gcd_pos_of_ne_zero_right a h
    omega
  have hgd : (Int.gcd a b : Int) ∣ b := Int.gcd_dvd_right a b
  have hgl : (Int.gcd a b) ≤ b.natAbs := Nat.le_of_dvd (by omega) (Int.natAbs_dvd_natAbs.mpr hgd)
  have hok : divOk (Int.gcd a b : Int) = true := divOk_of (n := 8999) (by omega) (by unfold bt at *; omega) (by decide)
  have fd : ∀ x : Int, x.fdiv (Int.gcd a b : Int) = x / (Int.gcd a b : Int) := fun x => Int.fdiv_eq_ediv_of_nonneg _ (by omega)
  have hn : ((b.natAbs / Int.gcd a b : Nat) : Int) = (b.natAbs : Int) / (Int.gcd a b : Int) := Int.natCast_ediv _ _
  rw [Int.gcd_comm b a, hn]
  by_cases hneg : b < 0
  · have d1 : sem tb (k + 1) 1 [.int (0 - a), .int (0 - b)] s = some (.ok (.int (Int.gcd a b)), s) := by
      rw [divisor_eq, Int.zero_sub, Int.zero_sub, Int.neg_gcd, Int.gcd_neg]
    rw [Int.sign_eq_neg_one_of_neg hneg]
    have e1 : (-1 : Int) * a = 0 - a := by omega
    have e2 : (b.natAbs : Int) = 0 - b := by omega
    rw [e1, e2]
    simp only [cb_least, startG]
    simp only [Int.zero_sub] at d1 ⊢
    simp [hneg, setAll, d1, fdiv_int hok, fd, SZ]
  · have d1 : sem tb (k + 1) 1 [.int a, .int b] s = some (.ok (.int (Int.gcd a b)), s) := divisor_eq
    rw [Int.sign_eq_one_of_pos (by omega)]
    have e2 : (b.natAbs : Int) = b := by omega
    rw [e2, Int.one_mul]
    simp [cb_least, startG, hneg, setAll, d1, fdiv_int hok, fd, SZ]
end
/-! the law's own -/
def lv_body : CSs := .cons (.par [] [3, 4] (.cons (.var 4) (.cons (.bin .mod (.var 3) (.var 4)) (.nil)))) (.nil)
theorem lv_loop {en : En} {s : S} {u v w : Sl} : ∀ (n : Nat) (a b : Int), 0 ≤ a → 0 ≤ b → b.natAbs < n → whF (testE en [] (.cmp .gt (.var 4) (.cst (.int 0)))) (evSs en lv_body) n [u, v, w, .dat (.int a), .dat (.int b)] s = some (.ok (.nx [u, v, w, .dat (.int (Int.gcd a b)), .dat (.int 0)]), s)
  | 0, _, _, _, _, h => by omega
  | n + 1, a, b, h0, h1, h => by
    by_cases hb : b = 0
    · subst hb
      rw [Int.gcd_zero_right, Int.natAbs_of_nonneg h0]
      exact whF_stop (by simp)
    · have hs := fmod_small a hb
      have hf : 0 ≤ a.fmod b := Int.fmod_nonneg_of_pos _ (by omega)
      have e := lv_loop (en := en) (s := s) (u := u) (v := v) (w := w) n b (a.fmod b) h1 hf (by omega)
      rw [gcd_fmod] at e
      rw [← e]
      have hp : 0 < b := by omega
      refine whF_step (s1 := s) (s2 := s) ?_ ?_
      · simp [hp]
      · simp [lv_body, mod_int hb, setAll]
section
variable {tb : Tb} [Has tb 13 cb_w_least 5 2]
theorem wleast_eq {k : Nat} {a b : Int} {s : S} (h : b ≠ 0) (hb : bt b 8999) : sem tb (k + 1) 13 [.int a, .int b] s = some (.ok (frD (Rat.divInt a b)), s) := by
  rw [sem_of rfl, frD_divInt h]
  have hg0 : (0 : Int) < (Int.gcd a b : Int) := by
    have := Int.gcd_pos_of_ne_zero_right a h
    omega
  have hgd : (Int.gcd a b : Int) ∣ b := Int.gcd_dvd_right a b
  have hga : (Int.gcd a b : Int) ∣ a := Int.gcd_dvd_left a b
  have hgl : (Int.gcd a b) ≤ b.natAbs := Nat.le_of_dvd (by omega) (Int.natAbs_dvd_natAbs.mpr hgd)
  have hok : divOk (Int.gcd a b : Int) = true := divOk_of (n := 8999) (by omega) (by unfold bt at *; omega) (by decide)
  have hok2 : divOk (-(Int.gcd a b : Int)) = true := divOk_of (n := 8999) (by omega) (by unfold bt at *; omega) (by decide)
  have fd : ∀ x : Int, x.fdiv (Int.gcd a b : Int) = x / (Int.gcd a b : Int) := fun x => Int.fdiv_eq_ediv_of_nonneg _ (by omega)
  have fn : ∀ x : Int, (Int.gcd a b : Int) ∣ x → x.fdiv (-(Int.gcd a b : Int)) = -x / (Int.gcd a b : Int) := fun x hx => by
    rw [Int.fdiv_eq_ediv, if_pos (.inr (Int.neg_dvd.mpr hx)), Int.ediv_neg, Int.neg_ediv_of_dvd hx]
    omega
  have hn : ((b.natAbs / Int.gcd a b : Nat) : Int) = (b.natAbs : Int) / (Int.gcd a b : Int) := Int.natCast_ediv _ _
  rw [Int.gcd_comm b a, hn]
  have ab : ∀ x : Int, (if x < 0 then -x else x) = (x.natAbs : Int) := fun x => by split <;> omega
  have e := whO_of (lv_loop (en := enOf tb k) (s := s) (u := .dat (.int a)) (v := .dat (.int b)) (w := .un) (b.natAbs + 1) a.natAbs b.natAbs (by omega) (by omega) (by omega))
  have eg : Int.gcd (a.natAbs : Int) (b.natAbs : Int) = Int.gcd a b := by simp [Int.gcd]
  rw [eg] at e
  unfold lv_body at e
  by_cases hneg : b < 0
  · rw [Int.sign_eq_neg_one_of_neg hneg]
    have e1 : (-1 : Int) * a = -a := by omega
    have e2 : (b.natAbs : Int) = -b := by omega
    have hp : ¬ 0 < b := by omega
    rw [e1, e2]
    rw [e2] at e
    simp [cb_w_least, startG, setAll, ab, e2, e, hp, fdiv_int hok2, fn a hga, fn b hgd, SZ]
  · rw [Int.sign_eq_one_of_pos (by omega)]
    have hp : 0 < b := by omega
    have e2 : (b.natAbs : Int) = b := by omega
    rw [e2, Int.one_mul]
    rw [e2] at e
    simp [cb_w_least, startG, setAll, ab, e2, e, hp, fdiv_int hok, fd, SZ]
end
end FR
/-! FrLegs: lists of numbers; legs. -/
namespace FR
open PySem (Str)
theorem compL_map {α : Type} {e : α → D} {f : D → S → EV (Option D)} {h : α → D} {s : S} : ∀ {xs : List α}, (∀ x ∈ xs, f (e x) s = some (.ok (some (h x)), s)) → compL f (xs.map e) s = some (.ok (xs.map h), s)
  | [], _ => rfl
  | x :: xs, H => by
    rw [List.map_cons, compL, H x List.mem_cons_self]
    dsimp only
    rw [compL_map fun y hy => H y (List.mem_cons_of_mem _ hy)]
    rfl
theorem compL_self {f : D → S → EV (Option D)} {h : D → D} {s : S} {xs : List D} (H : ∀ x ∈ xs, f x s = some (.ok (some (h x)), s)) : compL f xs s = some (.ok (xs.map h), s) := by
  have := compL_map (e := id) (f := f) (h := h) (s := s) (xs := xs) H
  rw [List.map_id] at this
  exact this
@[simp] theorem items_lst {xs : List D} : itemsD (.lst xs) = some xs := rfl
@[simp] theorem items_tup {xs : List D} : itemsD (.tup xs) = some xs := rfl
theorem bigL_ok {xs : List D} {s : S} (h : xs.length ≤ SZ) : bigL xs s = some (.ok (.lst xs), s) := if_pos h
theorem intsD_map {α : Type} {f : α → Int} : ∀ {xs : List α}, intsD (xs.map fun x => D.int (f x)) = some (xs.map f)
  | [] => rfl
  | x :: xs => by
    rw [List.map_cons, intsD, intsD_map]
    rfl
theorem boolsD_map {α : Type} {f : α → Bool} : ∀ {xs : List α}, boolsD (xs.map fun x => D.bl (f x)) = some (xs.map f)
  | [] => rfl
  | x :: xs => by
    rw [List.map_cons, boolsD, boolsD_map]
    rfl
theorem sum_map {α : Type} {f : α → Int} {xs : List α} {s : S} : bifD .sum [.lst (xs.map fun x => D.int (f x))] s = some (.int (xs.map f).sum) := by
  show (intsD _).map _ = _
  rw [intsD_map]
  rfl
theorem all_map {α : Type} {f : α → Bool} {xs : List α} {s : S} : bifD .all [.lst (xs.map fun x => D.bl (f x))] s = some (.bl (xs.all f)) := by
  show (boolsD _).map _ = _
  rw [boolsD_map]
  simp
theorem any_map {α : Type} {f : α → Bool} {xs : List α} {s : S} : bifD .any [.lst (xs.map fun x => D.bl (f x))] s = some (.bl (xs.any f)) := by
  show (boolsD _).map _ = _
  rw [boolsD_map]
  simp
@[simp] theorem isi_int {i : Int} : isiD (.int i) .int = some true := rfl
@[simp] theorem isi_int_bool {i : Int} : isiD (.int i) .bool = some false := rfl
@[simp] theorem isi_tup {xs : List D} : isiD (.tup xs) .tuple = some true := rfl
@[simp] theorem isi_tup_list {xs : List D} : isiD (.tup xs) .list = some false := rfl
@[simp] theorem isi_lst {xs : List D} : isiD (.lst xs) .list = some true := rfl
@[simp] theorem isTrue_t : CE.isTrue (.cst (.bl true)) = true := rfl
@[simp] theorem isNon_t : CE.isNon (.cst .non) = true := rfl
@[simp] theorem isNon_i {i : Int} : CE.isNon (.cst (.int i)) = false := rfl
@[simp] theorem isNon_v {i : Nat} : CE.isNon (.var i) = false := rfl
@[simp] theorem part_int {i : Int} : partD (.int i) = some (some i) := rfl
theorem sum_bt {α : Type} {f : α → Int} {B : Int} : ∀ {xs : List α}, (∀ x ∈ xs, -B ≤ f x ∧ f x ≤ B) → -(xs.length * B) ≤ (xs.map f).sum ∧ (xs.map f).sum ≤ xs.length * B
  | [], _ => by simp
  | x :: xs, h => by
    have h1 := h x List.mem_cons_self
    have h2 := sum_bt (f := f) (B := B) (xs := xs) fun y hy => h y (List.mem_cons_of_mem _ hy)
    rw [List.map_cons, List.sum_cons, List.length_cons, Int.natCast_add, Int.add_mul]
    omega
/-! ### legs -/
structure Leg where
  e : Int
  n : Int
  l : Int
def Leg.ok (x : Leg) : Prop := -1000000 ≤ x.e ∧ x.e ≤ 1000000 ∧ -1000000 ≤ x.n ∧ x.n ≤ 1000000 ∧ 1 ≤ x.l ∧ x.l ≤ 2000000
def Leg.d (x : Leg) : D := .tup [.int x.e, .int x.n, .int x.l]
def LegsOk (ls : List Leg) : Prop := (1 ≤ ls.length ∧ ls.length ≤ 40) ∧ ∀ l ∈ ls, l.ok
def legsD (ls : List Leg) : D := .lst (ls.map Leg.d)
def sE (ls : List Leg) : Int := (ls.map Leg.e).sum
def sN (ls : List Leg) : Int := (ls.map Leg.n).sum
def sL (ls : List Leg) : Int := (ls.map Leg.l).sum
section
variable {tb : Tb} [Has tb 7 cb_closing_of 2 1]
theorem cl_of {k : Nat} {ls : List Leg} {s : S} (h : LegsOk ls) : sem tb (k + 1) 7 [legsD ls] s = some (.ok (.tup [.int (sE ls), .int (sN ls)]), s) := by
  rw [sem_of rfl]
  have e0 : ∀ g, compL (cmp1 (enOf tb k) [g, .un] (.nm 1) (.cst (.bl true)) (.idx (.var 1) (.cst (.int 0)))) (ls.map Leg.d) s = some (.ok (ls.map fun x => D.int x.e), s) := fun g => compL_map fun x hx => by simp [cmp1, setT, Leg.d]
  have e1 : ∀ g, compL (cmp1 (enOf tb k) [g, .un] (.nm 1) (.cst (.bl true)) (.idx (.var 1) (.cst (.int 1)))) (ls.map Leg.d) s = some (.ok (ls.map fun x => D.int x.n), s) := fun g => compL_map fun x hx => by simp [cmp1, setT, Leg.d]
  have b : ∀ f : Leg → D, bigL (ls.map f) s = some (.ok (.lst (ls.map f)), s) := fun f => bigL_ok (by have := h.1; rw [List.length_map, SZ]; omega)
  simp [cb_closing_of, startG, legsD, e0, e1, b, sum_map, sE, sN, SZ]
end
section
variable {tb : Tb} [Has tb 3 cb_is_whole 3 3]
theorem whole_eq {k : Nat} {i lo hi : Int} {s : S} : sem tb (k + 1) 3 [.int i, .int lo, .int hi] s = some (.ok (.bl (decide (lo ≤ i ∧ i ≤ hi))), s) := by
  rw [sem_of rfl]
  by_cases h : lo ≤ i
  · simp [cb_is_whole, startG, h]
  · simp [cb_is_whole, startG, h]
variable [Has tb 4 cb_is_leg 2 1] [HasG tb 4 (.int 2000000)] [HasG tb 2 (.int 1000000)]
theorem leg_ok {k : Nat} {x : Leg} {s : S} (h : x.ok) : sem tb (k + 2) 4 [x.d] s = some (.ok (.bl true), s) := by
  rw [sem_of rfl]
  obtain ⟨h1, h2, h3, h4, h5, h6⟩ := h
  have c : cutL [D.int x.e, .int x.n, .int x.l] none (some 2) = [.int x.e, .int x.n] := rfl
  simp [cb_is_leg, startG, Leg.d, gl_of, whole_eq, h1, h2, h3, h4, h5, h6, slcD, c, compL, cmp1, setT, bigL, SZ, show bifD .all [.lst [.bl true, .bl true]] s = some (.bl true) from rfl]
variable [Has tb 5 cb_look_legs 2 1] [HasG tb 3 (.int 40)]
theorem look_ok {k : Nat} {ls : List Leg} {s : S} (h : LegsOk ls) : sem tb (k + 3) 5 [legsD ls] s = some (.ok .non, s) := by
  rw [sem_of rfl]
  obtain ⟨⟨h1, h2⟩, h3⟩ := h
  have e : compL (cmp1 (enOf tb (k + 2)) [.dat (.lst (ls.map Leg.d)), .un] (.nm 1) (.cst (.bl true)) (.call 4 (.cons (.var 1) .nil))) (ls.map Leg.d) s = some (.ok (ls.map fun x => D.bl true), s) :=
    compL_map fun x hx => by simp [cmp1, setT, leg_ok (h3 x hx)]
  have b : bigL (ls.map fun _ => D.bl true) s = some (.ok (.lst (ls.map fun _ => D.bl true)), s) := bigL_ok (by rw [List.length_map, SZ]; omega)
  have a : bifD .all [.lst (ls.map fun _ => D.bl true)] s = some (.bl true) := by
    rw [all_map (f := fun _ : Leg => true)]
    simp
  have l1 : (1 : Int) ≤ ls.length := by omega
  have l2 : (ls.length : Int) ≤ 40 := by omega
  simp [cb_look_legs, startG, legsD, gl_of, l1, l2, e, b, a]
variable [Has tb 7 cb_closing_of 2 1]
variable [Has tb 6 cb_closing 1 1]
theorem closing_eq {k : Nat} {ls : List Leg} {s : S} (h : LegsOk ls) : sem tb (k + 4) 6 [legsD ls] s = some (.ok (.tup [.int (sE ls), .int (sN ls)]), s) := by
  rw [sem_of rfl]
  simp [cb_closing, startG, look_ok h, cl_of h]
theorem sE_bt {ls : List Leg} (h : LegsOk ls) : bt (sE ls) 27 := by
  have := sum_bt (f := Leg.e) (B := 1000000) (xs := ls) fun x hx => ⟨(h.2 x hx).1, (h.2 x hx).2.1⟩
  have := h.1
  exact bt_of (by unfold sE; omega) (by unfold sE; omega)
theorem sN_bt {ls : List Leg} (h : LegsOk ls) : bt (sN ls) 27 := by
  have := sum_bt (f := Leg.n) (B := 1000000) (xs := ls) fun x hx => ⟨(h.2 x hx).2.2.1, (h.2 x hx).2.2.2.1⟩
  have := h.1
  exact bt_of (by unfold sN; omega) (by unfold sN; omega)
theorem sL_bt {ls : List Leg} (h : LegsOk ls) : bt (sL ls) 27 := by
  have := sum_bt (f := Leg.l) (B := 2000000) (xs := ls) fun x hx => ⟨by have := (h.2 x hx).2.2.2.2.1; omega, (h.2 x hx).2.2.2.2.2⟩
  have := h.1
  exact bt_of (by unfold sL; omega) (by unfold sL; omega)
theorem sL_pos : ∀ {ls : List Leg}, ls ≠ [] → (∀ l ∈ ls, l.ok) → 0 < sL ls
  | [], h, _ => absurd rfl h
  | [x], _, h => by
    have := (h x List.mem_cons_self).2.2.2.2.1
    simp [sL]
    omega
  | x :: y :: r, _, h => by
    have h1 := (h x List.mem_cons_self).2.2.2.2.1
    have h2 := sL_pos (ls := y :: r) (List.cons_ne_nil _ _) fun l hl => h l (List.mem_cons_of_mem _ hl)
    unfold sL at *
    rw [List.map_cons, List.sum_cons]
    omega
theorem LegsOk.ne {ls : List Leg} (h : LegsOk ls) : ls ≠ [] := by
  rintro rfl
  have := h.1.1
  simp at this
/-- how sharp a round is -/
def shp (ls : List Leg) : Rat := Rat.divInt (sE ls * sE ls + sN ls * sN ls) (sL ls * sL ls)
theorem sq_ne {i : Int} (h : 0 < i) : i * i ≠ 0 := by
  have := Int.mul_pos h h
  omega
variable [Has tb 8 cb_sharpness 5 1] [Has tb 1 cb_divisor 2 2] [Has tb 2 cb_least 3 2]
theorem sharp_eq {k : Nat} {ls : List Leg} {s : S} (h : LegsOk ls) : sem tb (k + 4) 8 [legsD ls] s = some (.ok (frD (shp ls)), s) := by
  rw [sem_of rfl]
  have e2 : ∀ a b c d e, compL (cmp1 (enOf tb (k + 3)) [a, b, c, d, e] (.nm 4) (.cst (.bl true)) (.idx (.var 4) (.cst (.int 2)))) (ls.map Leg.d) s = some (.ok (ls.map fun x => D.int x.l), s) := fun a b c d e => compL_map fun x hx => by simp [cmp1, setT, Leg.d]
  have b : ∀ f : Leg → D, bigL (ls.map f) s = some (.ok (.lst (ls.map f)), s) := fun f => bigL_ok (by have := h.1; rw [List.length_map, SZ]; omega)
  have bE := sE_bt h
  have bN := sN_bt h
  have bL := sL_bt h
  have m1 := mul_bt bE bE (by decide)
  have m2 := mul_bt bN bN (by decide)
  have m3 := mul_bt bL bL (by decide)
  have c0 := cl_of (tb := tb) (k := k + 2) (s := s) h
  have l0 := look_ok (tb := tb) (k := k) (s := s) h
  have f0 : sem tb (k + 3) 2 [.int (sE ls * sE ls + sN ls * sN ls), .int (sL ls * sL ls)] s = some (.ok (frD (shp ls)), s) := least_eq (sq_ne (sL_pos h.ne h.2)) ((bt_mul bL bL).mono (by decide))
  unfold legsD at c0 l0
  simp only [cb_sharpness, startG, legsD]
  have sm : bifD .sum [.lst (ls.map fun x => D.int x.l)] s = some (.int (sL ls)) := sum_map
  simp [l0, c0, setT, setAll, e2, b, sm, m1, m2, m3, f0]
end
end FR
/-! FrLoop: wishes over loops. -/
namespace FR
open PySem (Str)
def stepK (J : G → S → Prop) (Q : Fl → S → Prop) (f : Fl) (s : S) : Prop := match f with
  | .nx g => J g s
  | .ct g => J g s
  | .bk g => Q (.nx g) s
  | .rt d => Q (.rt d) s
@[simp] theorem stepK_nx {J : G → S → Prop} {Q : Fl → S → Prop} {g : G} {s : S} : stepK J Q (.nx g) s = J g s := rfl
@[simp] theorem stepK_ct {J : G → S → Prop} {Q : Fl → S → Prop} {g : G} {s : S} : stepK J Q (.ct g) s = J g s := rfl
@[simp] theorem stepK_bk {J : G → S → Prop} {Q : Fl → S → Prop} {g : G} {s : S} : stepK J Q (.bk g) s = Q (.nx g) s := rfl
@[simp] theorem stepK_rt {J : G → S → Prop} {Q : Fl → S → Prop} {d : D} {s : S} : stepK J Q (.rt d) s = Q (.rt d) s := rfl
theorem W_forL {tg : Tgt} {b : G → S → EV Fl} {Q : Fl → S → Prop} : ∀ {ds : List D} {I : Nat → G → S → Prop} {g : G} {s : S}, I 0 g s → (∀ (i : Nat) (d : D) (g : G) (s : S), ds[i]? = some d → I i g s → ∃ g1, setT g d tg = some g1 ∧ W (b g1 s) (stepK (I (i + 1)) Q)) →
    (∀ g s, I ds.length g s → Q (.nx g) s) → W (forL tg b ds g s) Q
  | [], I, g, s, h0, _, hf => by
    rw [forL, W_ok]
    exact hf g s h0
  | d :: ds, I, g, s, h0, hs, hf => by
    obtain ⟨g1, e, f, s1, ef, q⟩ := hs 0 d g s rfl h0
    rw [forL, e]
    dsimp only
    rw [ef, rb_ok]
    have next : ∀ g2, I 1 g2 s1 → W (forL tg b ds g2 s1) Q := fun g2 hI => W_forL (I := fun i => I (i + 1)) hI (fun i d g s hd hI => hs (i + 1) d g s hd hI) fun g s hI => hf g s hI
    cases f with
    | nx g2 => exact next g2 q
    | ct g2 => exact next g2 q
    | bk g2 => exact W_ok.mpr q
    | rt d => exact W_ok.mpr q
theorem range_len {lo hi : Int} : (rangeD lo hi).length = (hi - lo).toNat := by
  unfold rangeD
  rw [List.length_map, List.length_range]
theorem range_get {lo hi : Int} {i : Nat} {d : D} (h : (rangeD lo hi)[i]? = some d) : d = .int (lo + i) ∧ lo + i < hi := by
  have hl := (List.getElem?_eq_some_iff.mp h).1
  rw [range_len] at hl
  unfold rangeD at h
  rw [List.getElem?_map, List.getElem?_range hl] at h
  cases h
  exact ⟨rfl, by omega⟩
theorem rng_ok {i j : Int} (h : i.natAbs ≤ SZ) (k : j.natAbs ≤ SZ) : rngD (.int i) (.int j) = some (rangeD i j) := if_pos ⟨h, k⟩
/-- a loop over range(lo, hi) -/
theorem W_range {tg : Nat} {b : G → S → EV Fl} {Q : Fl → S → Prop} {lo hi : Int} {I : Nat → G → S → Prop} {g : G} {s : S} (h0 : I 0 g s) (hs : ∀ (i : Nat) (g : G) (s : S), lo + i < hi → I i g s → W (b (g.set tg (.dat (.int (lo + i)))) s) (stepK (I (i + 1)) Q))
    (hf : ∀ g s, I (hi - lo).toNat g s → Q (.nx g) s) : W (forL (.nm tg) b (rangeD lo hi) g s) Q := by
  refine W_forL (I := I) h0 (fun i d g s hd hI => ?_) fun g s hI => hf g s (by rw [range_len] at hI; exact hI)
  obtain ⟨rfl, hl⟩ := range_get hd
  exact ⟨_, rfl, hs i g s hl hI⟩
section
variable {tb : Tb} [Has tb 9 cb_w_cell 2 2] [Has tb 10 cb_w_mix 3 2] [Has tb 11 cb_w_draw 3 3] [Has tb 12 cb_w_pick 3 3]
theorem W_iteI {c : Prop} [Decidable c] {a b : Int} {s : S} {Q : D → S → Prop} : W (if c then some (.ok (.int a), s) else some (.ok (.int b), s)) Q ↔ Q (.int (if c then a else b)) s := by
  split <;> simp
theorem W_pickI {k n : Nat} {ns : List Int} {xs : List D} {Q : D → S → Prop} (P : Int → Prop) (hn : n < 900000) (hm : xs ≠ []) (hP : ∀ x ∈ xs, ∃ j, x = .int j ∧ P j) (h : ∀ j, P j → Q (.int j) (some (n + 1))) : W (sem tb (k + 4) 12 [.scr ns, .town, .lst xs] (some n)) Q :=
  W_pick hn hm fun x hx => by
    obtain ⟨j, rfl, pj⟩ := hP x hx
    exact h j pj
end
theorem lawT_of {tb : Tb} {fd : Fd} {i k : Nat} (h : ∀ ns : List Int, W (evSs (enOf tb k) fd.body (lawG fd.N.length i ns) (some 0)) (retK fun d _ => d = .bl true)) : LawT tb fd i k := by
  intro ns _
  obtain ⟨d, s, e, rfl⟩ := W_run.mpr (h ns)
  exact ⟨s, e⟩
theorem rd_set {g : G} {j : Nat} {d : D} (h : j < g.length) : G.rd (g.set j (.dat d)) j = some d := by
  unfold G.rd
  rw [List.getElem?_set_self h]
theorem cutL_map {α β : Type} {f : α → β} {xs : List α} {l h : Option Int} : cutL (xs.map f) l h = (cutL xs l h).map f := by
  unfold cutL
  rw [List.length_map, List.map_take, List.map_drop]
theorem cut_from {α : Type} {xs : List α} {i : Int} (h0 : 0 ≤ i) (h1 : i ≤ xs.length) : cutL xs (some i) none = xs.drop i.toNat := by
  unfold cutL clip
  dsimp only
  rw [if_neg (by omega), Nat.min_eq_left (by omega), List.take_of_length_le]
  rw [List.length_drop]
  exact Nat.le_refl _
theorem cut_to {α : Type} {xs : List α} {i : Int} (h0 : 0 ≤ i) : cutL xs none (some i) = xs.take i.toNat := by
  unfold cutL clip
  dsimp only
  rw [if_neg (by omega), List.drop_zero, Nat.sub_zero]
  by_cases h : i.toNat ≤ xs.length
  · rw [Nat.min_eq_left h]
  · rw [Nat.min_eq_right (by omega), List.take_of_length_le (Nat.le_refl _), List.take_of_length_le (by omega)]
theorem slc_lst {xs : List D} {l h : Option Int} : slcD (.lst xs) l h = some (.lst (cutL xs l h)) := rfl
theorem bigL_map {α : Type} {f : α → D} {xs : List α} {s : S} (h : xs.length ≤ SZ) : bigL (xs.map f) s = some (.ok (.lst (xs.map f)), s) := bigL_ok (by rw [List.length_map]; exact h)
theorem ne_t2 {a b c d : Int} : cmpD .ne (.tup [.int a, .int b]) (.tup [.int c, .int d]) = some (!(decide (a = c) && decide (b = d))) := by
  simp [cmpD, D.pl, D.eqv, D.eqvL]
  rfl
theorem eq_t2 {a b c d : Int} : cmpD .eq (.tup [.int a, .int b]) (.tup [.int c, .int d]) = some (decide (a = c) && decide (b = d)) := by
  simp [cmpD, D.pl, D.eqv, D.eqvL]
  rfl
theorem ne_fr {p : Rat} : cmpD .ne (frD p) (frD p) = some false := by
  unfold frD
  rw [ne_t2]
  simp
theorem W_if_same {α : Type} {c : Prop} [Decidable c] {a b : EV α} {r : R α × S} {Q : α → S → Prop} (ha : c → a = some r) (hb : ¬ c → b = some r) (q : W (some r) Q) : W (if c then a else b) Q := by
  by_cases h : c
  · rw [if_pos h, ha h]
    exact q
  · rw [if_neg h, hb h]
    exact q
theorem add_map {α : Type} {f : α → D} {xs ys : List α} (h : xs.length + ys.length ≤ SZ) : binD .add (.lst (xs.map f)) (.lst (ys.map f)) = some (.lst ((xs ++ ys).map f)) := by
  rw [add_lst (by rw [List.length_map, List.length_map]; exact h), List.map_append]
theorem rep_map {α : Type} {f : α → D} {xs : List α} {k : Int} (h : xs.length * k.toNat ≤ SZ) (h2 : k.natAbs ≤ SZ) : binD .mul (.lst (xs.map f)) (.int k) = some (.lst ((List.replicate k.toNat xs).flatten.map f)) := by
  have : binD .mul (.lst (xs.map f)) (.int k) = if (xs.map f).length * k.toNat ≤ SZ ∧ k.natAbs ≤ SZ then some (.lst (repD (xs.map f) k)) else none := rfl
  rw [this, if_pos ⟨by rw [List.length_map]; exact h, h2⟩]
  unfold repD
  rw [List.map_flatten, List.map_replicate]
theorem sum_rev (l : List Int) : l.reverse.sum = l.sum := by
  induction l with
  | nil => rfl
  | cons x l ih => simp [ih]; omega
@[simp] theorem nox_ok {α : Type} {a : α} {s : S} : nox (some (.ok a, s)) = some (.ok a, s) := rfl
@[simp] theorem W_nox {α : Type} {o : EV α} {Q : α → S → Prop} : W (nox o) Q ↔ W o Q := by
  cases o with
  | none => exact Iff.rfl
  | some p =>
    obtain ⟨r, s⟩ := p
    cases r with
    | ok a => exact Iff.rfl
    | exn c => simp [nox]
def cnsK (f : D → S → EV (Option D)) (ds : List D) (o : Option D) (s : S) : EV (List D) := match o with
  | none => compL f ds s
  | some e => rb (compL f ds s) fun es s2 => some (.ok (e :: es), s2)
@[simp] theorem cnsK_none {f : D → S → EV (Option D)} {ds : List D} {s : S} : cnsK f ds none s = compL f ds s := rfl
@[simp] theorem cnsK_some {f : D → S → EV (Option D)} {ds : List D} {e : D} {s : S} : cnsK f ds (some e) s = rb (compL f ds s) fun es s2 => some (.ok (e :: es), s2) := rfl
@[simp] theorem compL_nil {f : D → S → EV (Option D)} {s : S} : compL f [] s = some (.ok [], s) := rfl
theorem compL_cons {f : D → S → EV (Option D)} {d : D} {ds : List D} {s : S} : compL f (d :: ds) s = rb (nox (f d s)) (cnsK f ds) := by
  rw [compL]
  cases h : f d s with
  | none => rfl
  | some p =>
    obtain ⟨r, s1⟩ := p
    cases r with
    | ok o => cases o <;> rfl
    | exn c => rfl
@[simp] theorem big1 {a : D} {s : S} : bigL [a] s = some (.ok (.lst [a]), s) := rfl
@[simp] theorem big2 {a b : D} {s : S} : bigL [a, b] s = some (.ok (.lst [a, b]), s) := rfl
end FR
namespace FR
open PySem (Str)
section
variable {tb : Tb} [Has tb 9 cb_w_cell 2 2] [Has tb 10 cb_w_mix 3 2] [Has tb 11 cb_w_draw 3 3] [Has tb 12 cb_w_pick 3 3]
variable [Has tb 18 cb_w_legs 8 2]
theorem k01_legs {k n : Nat} {ns : List Int} {Q : D → S → Prop} (hn : n < 800000) (h : ∀ (ls : List Leg) (m : Nat), LegsOk ls → m ≤ n + 1000 → Q (legsD ls) (some m)) : W (sem tb (k + 5) 18 [.scr ns, .town] (some n)) Q := by
  rw [sem_of rfl, W_run]
  simp only [cb_w_legs, startG]
  simp
  refine W_draw (by omega) (by decide) fun kind _ _ => ?_
  refine W_pickI (fun j => 1 ≤ j ∧ j ≤ 40) (by omega) (by simp) (by simp) fun j ⟨j1, j2⟩ => ?_
  refine W_draw (by omega) (by omega) fun r r0 r1 => ?_
  simp
  rw [rng_ok (by decide) (by unfold SZ; omega)]
  simp
  refine W_range (I := fun i g s => ∃ (ls : List Leg) (m : Nat) (x5 x6 x7 : Sl), ls.length = i ∧ (∀ l ∈ ls, l.ok) ∧ s = some m ∧ m ≤ n + 10 + 10 * i ∧ g = [.dat (.scr ns), .dat .town, .dat (.int kind), .dat (.int (1 + r)), .own (ls.map Leg.d), x5, x6, x7])
    ⟨[], _, _, _, _, rfl, by simp, rfl, by omega, rfl⟩ ?_ ?_
  · rintro i g s hi ⟨ls, m, x5, x6, x7, hl, hok, rfl, hm, rfl⟩
    simp
    refine W_draw (by omega) (by decide) fun r1 a1 b1 => ?_
    simp
    refine W_pickI (fun j => -1000000 ≤ j ∧ j ≤ 1000000) (by omega) (by simp) (by simp; omega) fun e he => ?_
    refine W_draw (by omega) (by decide) fun r2 a2 b2 => ?_
    simp
    refine W_pickI (fun j => -1000000 ≤ j ∧ j ≤ 1000000) (by omega) (by simp) (by simp; omega) fun f hf => ?_
    rw [W_iteI, W_iteI]
    have he2 : -1000000 ≤ (if kind = 1 then 0 else e) ∧ (if kind = 1 then 0 else e) ≤ 1000000 := by split <;> omega
    have hf2 : -1000000 ≤ (if kind = 2 then 0 else f) ∧ (if kind = 2 then 0 else f) ≤ 1000000 := by split <;> omega
    generalize (if kind = 1 then 0 else e) = e2 at he2 ⊢
    generalize (if kind = 2 then 0 else f) = f2 at hf2 ⊢
    simp [owned]
    refine W_draw (by omega) (by decide) fun r3 a3 b3 => ?_
    simp
    refine W_pickI (fun j => 1 ≤ j ∧ j ≤ 2000000) (by omega) (by simp) (by simp; omega) fun l hlen => ?_
    have hls : ls.length < 1000000 := by omega
    simp [SZ, appO, appF, hls]
    refine ⟨ls ++ [⟨e2, f2, l⟩], by simp [hl], fun x hx => ?_, by omega, ?_⟩
    · rcases List.mem_append.mp hx with hx | hx
      · exact hok x hx
      · cases List.mem_singleton.mp hx
        exact ⟨he2.1, he2.2, hf2.1, hf2.2, hlen.1, hlen.2⟩
    · simp [Leg.d]
  · rintro g s ⟨ls, m, x5, x6, x7, hl, hok, rfl, hm, rfl⟩
    simp [exE, frz, frzS]
    exact h ls m ⟨by omega, hok⟩ (by omega)
end
theorem comp_e {en : En} {g : G} {j : Nat} {ls : List Leg} {s : S} (h : j < g.length) : compL (cmp1 en g (.nm j) (.cst (.bl true)) (.idx (.var j) (.cst (.int 0)))) (ls.map Leg.d) s = some (.ok (ls.map fun x => .int x.e), s) :=
  compL_map fun x hx => by simp [cmp1, setT, Leg.d, rd_set h]
theorem comp_n {en : En} {g : G} {j : Nat} {ls : List Leg} {s : S} (h : j < g.length) : compL (cmp1 en g (.nm j) (.cst (.bl true)) (.idx (.var j) (.cst (.int 1)))) (ls.map Leg.d) s = some (.ok (ls.map fun x => .int x.n), s) :=
  compL_map fun x hx => by simp [cmp1, setT, Leg.d, rd_set h]
theorem comp_l {en : En} {g : G} {j : Nat} {ls : List Leg} {s : S} (h : j < g.length) : compL (cmp1 en g (.nm j) (.cst (.bl true)) (.idx (.var j) (.cst (.int 2)))) (ls.map Leg.d) s = some (.ok (ls.map fun x => .int x.l), s) :=
  compL_map fun x hx => by simp [cmp1, setT, Leg.d, rd_set h]
theorem sE_app {a b : List Leg} : sE (a ++ b) = sE a + sE b := by simp [sE]
theorem sN_app {a b : List Leg} : sN (a ++ b) = sN a + sN b := by simp [sN]
theorem sL_app {a b : List Leg} : sL (a ++ b) = sL a + sL b := by simp [sL]
theorem LegsOk.app {a b : List Leg} (h : LegsOk a) (k : LegsOk b) (l : a.length + b.length ≤ 40) : LegsOk (a ++ b) := by
  refine ⟨by rw [List.length_append]; have := h.1; omega, fun x hx => ?_⟩
  rcases List.mem_append.mp hx with hx | hx
  · exact h.2 x hx
  · exact k.2 x hx
def Leg.neg (x : Leg) : Leg := ⟨0 - x.e, 0 - x.n, x.l⟩
theorem LegsOk.neg {a : List Leg} (h : LegsOk a) : LegsOk (a.map Leg.neg) := by
  refine ⟨by rw [List.length_map]; exact h.1, fun x hx => ?_⟩
  obtain ⟨y, hy, rfl⟩ := List.mem_map.mp hx
  obtain ⟨h1, h2, h3, h4, h5, h6⟩ := h.2 y hy
  exact ⟨by unfold Leg.neg; dsimp only; omega, by unfold Leg.neg; dsimp only; omega, by unfold Leg.neg; dsimp only; omega, by unfold Leg.neg; dsimp only; omega, h5, h6⟩
theorem sE_neg {a : List Leg} : sE (a.map Leg.neg) = 0 - sE a := by
  induction a with
  | nil => rfl
  | cons x a ih =>
    unfold sE at *
    simp only [List.map_cons, List.sum_cons, ih, Leg.neg]
    omega
theorem sN_neg {a : List Leg} : sN (a.map Leg.neg) = 0 - sN a := by
  induction a with
  | nil => rfl
  | cons x a ih =>
    unfold sN at *
    simp only [List.map_cons, List.sum_cons, ih, Leg.neg]
    omega
theorem sL_neg {a : List Leg} : sL (a.map Leg.neg) = sL a := by
  unfold sL
  rw [List.map_map]
  rfl
end FR
/-! FrOps: the operations over fractions, their sizes. -/
namespace FR
open PySem (Str)
/-- n binary digits above, d below -/
def sz (n d : Nat) (q : Rat) : Prop := bt q.num n ∧ q.den < 2 ^ d
theorem sz.mono {n d m e : Nat} {q : Rat} (h : sz n d q) (h1 : n ≤ m) (h2 : d ≤ e) : sz m e q := ⟨h.1.mono h1, Nat.lt_of_lt_of_le h.2 (Nat.pow_le_pow_right (by decide) h2)⟩
theorem sz_mk {a : Int} {b n d : Nat} (h : bt a n) (k : b < 2 ^ d) (hd : 0 < d) : sz n d (mkRat a b) := by
  constructor
  · rw [Rat.num_mkRat]
    split
    · unfold bt
      exact Nat.pow_pos (by decide)
    · unfold bt at *
      refine Nat.lt_of_le_of_lt ?_ h
      exact Int.natAbs_ediv_le_natAbs a _
  · rw [Rat.den_mkRat]
    split
    · exact Nat.one_lt_two_pow (by omega)
    · exact Nat.lt_of_le_of_lt (Nat.div_le_self _ _) k
theorem den_bt {q : Rat} {d : Nat} (h : q.den < 2 ^ d) : bt (q.den : Int) d := by
  unfold bt
  rw [Int.natAbs_natCast]
  exact h
theorem sz_dpos {n d : Nat} {q : Rat} (h : sz n d q) : 0 < d := by
  rcases Nat.eq_zero_or_pos d with rfl | h0
  · have := h.2
    have := q.den_pos
    omega
  · exact h0
theorem sz_add {p q : Rat} {n d m e N : Nat} (h : sz n d p) (k : sz m e q) (h1 : n + e ≤ N) (h2 : m + d ≤ N) : sz (N + 1) (d + e) (p + q) := by
  rw [Rat.add_def']
  refine sz_mk (bt_add ((bt_mul h.1 (den_bt k.2)).mono h1) ((bt_mul k.1 (den_bt h.2)).mono h2)) ?_ (by have := sz_dpos h; omega)
  rw [Nat.pow_add]
  exact Nat.mul_lt_mul'' h.2 k.2
theorem sz_sub {p q : Rat} {n d m e N : Nat} (h : sz n d p) (k : sz m e q) (h1 : n + e ≤ N) (h2 : m + d ≤ N) : sz (N + 1) (d + e) (p - q) := by
  rw [Rat.sub_def']
  refine sz_mk (bt_sub ((bt_mul h.1 (den_bt k.2)).mono h1) ((bt_mul k.1 (den_bt h.2)).mono h2)) ?_ (by have := sz_dpos h; omega)
  rw [Nat.pow_add]
  exact Nat.mul_lt_mul'' h.2 k.2
theorem sz_mul {p q : Rat} {n d m e : Nat} (h : sz n d p) (k : sz m e q) : sz (n + m) (d + e) (p * q) := by
  rw [Rat.mul_def']
  refine sz_mk (bt_mul h.1 k.1) ?_ (by have := sz_dpos h; omega)
  rw [Nat.pow_add]
  exact Nat.mul_lt_mul'' h.2 k.2
theorem sz_neg {p : Rat} {n d : Nat} (h : sz n d p) : sz n d (-p) := ⟨by rw [Rat.neg_num]; exact bt_neg h.1, by rw [Rat.neg_den]; exact h.2⟩
theorem sz_int {i : Int} {n : Nat} (h : bt i n) : sz n 1 (i : Rat) := ⟨h, by show 1 < 2 ^ 1; decide⟩
/-- fit to be reckoned with -/
def fit (q : Rat) : Prop := sz 400000 4400 q
theorem sz.fit {n d : Nat} {q : Rat} (h : sz n d q) (h1 : n ≤ 400000 := by decide) (h2 : d ≤ 4400 := by decide) : fit q := h.mono h1 h2
theorem fit_mul {p q : Rat} (h : fit p) (k : fit q) : binD .mul (.int p.num) (.int q.num) = some (.int (p.num * q.num)) := mul_bt h.1 k.1 (by decide)
theorem fit_nd {p q : Rat} (h : fit p) (k : fit q) : binD .mul (.int p.num) (.int q.den) = some (.int (p.num * q.den)) := mul_bt h.1 (den_bt k.2) (by decide)
theorem fit_dn {p q : Rat} (h : fit p) (k : fit q) : binD .mul (.int p.den) (.int q.num) = some (.int (p.den * q.num)) := mul_bt (den_bt h.2) k.1 (by decide)
theorem fit_dd {p q : Rat} (h : fit p) (k : fit q) : binD .mul (.int p.den) (.int q.den) = some (.int (p.den * q.den)) := mul_bt (den_bt h.2) (den_bt k.2) (by decide)
theorem fit_db {p q : Rat} (h : fit p) (k : fit q) : bt ((p.den : Int) * q.den) 8999 := (bt_mul (den_bt h.2) (den_bt k.2)).mono (by decide)
theorem dd_ne {p q : Rat} : (p.den : Int) * q.den ≠ 0 := by
  have h1 := p.den_pos
  have h2 := q.den_pos
  exact Int.mul_ne_zero (by omega) (by omega)
theorem add_divInt {p q : Rat} : Rat.divInt (p.num * q.den + q.num * p.den) ((p.den : Int) * q.den) = p + q := by
  rw [Rat.add_def', ← Rat.divInt_ofNat, Int.natCast_mul]
theorem sub_divInt {p q : Rat} : Rat.divInt (p.num * q.den - q.num * p.den) ((p.den : Int) * q.den) = p - q := by
  rw [Rat.sub_def', ← Rat.divInt_ofNat, Int.natCast_mul]
theorem mul_divInt {p q : Rat} : Rat.divInt (p.num * q.num) ((p.den : Int) * q.den) = p * q := by
  rw [Rat.mul_def', ← Rat.divInt_ofNat, Int.natCast_mul]
theorem div_divInt {p q : Rat} : Rat.divInt (p.num * q.den) (p.den * q.num) = p / q := by
  rw [Rat.div_def, Rat.inv_def, ← Rat.divInt_mul_divInt, Rat.num_divInt_den]
@[simp] theorem fr_i0 {q : Rat} : idxD (frD q) (.int 0) = some (.int q.num) := rfl
@[simp] theorem fr_i1 {q : Rat} : idxD (frD q) (.int 1) = some (.int q.den) := rfl
theorem fr_tup {q : Rat} : frD q = .tup [.int q.num, .int q.den] := rfl
section
variable {tb : Tb} [Has tb 1 cb_divisor 2 2] [Has tb 2 cb_least 3 2]
theorem plus_eq [Has tb 32 cb_plus 2 2] {k : Nat} {p q : Rat} {s : S} (h : fit p) (k1 : fit q) : sem tb (k + 3) 32 [frD p, frD q] s = some (.ok (frD (p + q)), s) := by
  rw [sem_of rfl, ← add_divInt]
  simp [cb_plus, startG, fit_nd h k1, fit_nd k1 h, fit_dd h k1, least_eq (tb := tb) (s := s) dd_ne (fit_db h k1)]
theorem minus_eq [Has tb 45 cb_minus 2 2] {k : Nat} {p q : Rat} {s : S} (h : fit p) (k1 : fit q) : sem tb (k + 3) 45 [frD p, frD q] s = some (.ok (frD (p - q)), s) := by
  rw [sem_of rfl, ← sub_divInt]
  simp [cb_minus, startG, fit_nd h k1, fit_nd k1 h, fit_dd h k1, least_eq (tb := tb) (s := s) dd_ne (fit_db h k1)]
theorem times_eq [Has tb 46 cb_times 2 2] {k : Nat} {p q : Rat} {s : S} (h : fit p) (k1 : fit q) : sem tb (k + 3) 46 [frD p, frD q] s = some (.ok (frD (p * q)), s) := by
  rw [sem_of rfl, ← mul_divInt]
  simp [cb_times, startG, fit_mul h k1, fit_dd h k1, least_eq (tb := tb) (s := s) dd_ne (fit_db h k1)]
theorem over_eq [Has tb 70 cb_over 2 2] {k : Nat} {p q : Rat} {s : S} (h : fit p) (k1 : fit q) (k2 : bt q.num 4400) (hq : q ≠ 0) : sem tb (k + 3) 70 [frD p, frD q] s = some (.ok (frD (p / q)), s) := by
  rw [sem_of rfl, ← div_divInt]
  have h1 : (p.den : Int) * q.num ≠ 0 := Int.mul_ne_zero (by have := p.den_pos; omega) (by rw [Ne, Rat.num_eq_zero]; exact hq)
  simp [cb_over, startG, fit_nd h k1, fit_dn h k1, least_eq (tb := tb) (s := s) h1 ((bt_mul (den_bt h.2) k2).mono (by decide))]
end
section
variable {tb : Tb} [Has tb 13 cb_w_least 5 2]
theorem wplus_eq [Has tb 14 cb_w_plus 2 2] {k : Nat} {p q : Rat} {s : S} (h : fit p) (k1 : fit q) : sem tb (k + 2) 14 [frD p, frD q] s = some (.ok (frD (p + q)), s) := by
  rw [sem_of rfl, ← add_divInt]
  simp [cb_w_plus, startG, fit_nd h k1, fit_nd k1 h, fit_dd h k1, wleast_eq (tb := tb) (s := s) dd_ne (fit_db h k1)]
theorem wminus_eq [Has tb 15 cb_w_minus 2 2] {k : Nat} {p q : Rat} {s : S} (h : fit p) (k1 : fit q) : sem tb (k + 2) 15 [frD p, frD q] s = some (.ok (frD (p - q)), s) := by
  rw [sem_of rfl, ← sub_divInt]
  simp [cb_w_minus, startG, fit_nd h k1, fit_nd k1 h, fit_dd h k1, wleast_eq (tb := tb) (s := s) dd_ne (fit_db h k1)]
theorem wtimes_eq [Has tb 16 cb_w_times 2 2] {k : Nat} {p q : Rat} {s : S} (h : fit p) (k1 : fit q) : sem tb (k + 2) 16 [frD p, frD q] s = some (.ok (frD (p * q)), s) := by
  rw [sem_of rfl, ← mul_divInt]
  simp [cb_w_times, startG, fit_mul h k1, fit_dd h k1, wleast_eq (tb := tb) (s := s) dd_ne (fit_db h k1)]
end
/-- the partial sums keep fit -/
theorem sum_sz {n d : Nat} : ∀ {qs : List Rat}, (∀ q ∈ qs, sz n d q) → sz (n + (d + 1) * (qs.length + 1)) (d * qs.length + 1) qs.sum
  | [], _ => ⟨by unfold bt; exact Nat.pow_pos (by decide), by show 1 < 2 ^ (d * 0 + 1); simp⟩
  | q :: qs, h => by
    rw [List.sum_cons, Rat.add_comm, List.length_cons]
    have h1 := sum_sz (n := n) (d := d) (qs := qs) fun x hx => h x (List.mem_cons_of_mem _ hx)
    have h2 := h q List.mem_cons_self
    have h3 := sz_add (N := n + (d + 1) * (qs.length + 1) + d) h1 h2 (by omega) (by simp only [Nat.add_mul, Nat.mul_add]; omega)
    refine h3.mono ?_ ?_
    · simp only [Nat.add_mul, Nat.mul_add]; omega
    · simp only [Nat.add_mul, Nat.mul_add]; omega
def fitS (qs : List Rat) : Prop := ∀ i, fit (qs.take i).sum
theorem fitS_of {n d m : Nat} {qs : List Rat} (h : ∀ q ∈ qs, sz n d q) (hl : qs.length ≤ m) (h1 : n + (d + 1) * (m + 1) ≤ 400000) (h2 : d * m + 1 ≤ 4400) : fitS qs := fun i => by
  have hq := sum_sz (n := n) (d := d) (qs := qs.take i) fun q hq => h q (List.mem_of_mem_take hq)
  have l1 : (qs.take i).length ≤ m := by rw [List.length_take]; omega
  refine hq.fit (Nat.le_trans ?_ h1) (Nat.le_trans ?_ h2)
  · have := Nat.mul_le_mul_left (d + 1) (Nat.succ_le_succ l1)
    simp only [Nat.succ_eq_add_one] at this
    omega
  · have := Nat.mul_le_mul_left d l1
    omega
section
variable {tb : Tb} [Has tb 13 cb_w_least 5 2] [Has tb 14 cb_w_plus 2 2] [Has tb 17 cb_w_sum 3 1]
theorem wsum_eq {k : Nat} {qs : List Rat} {s : S} (h : ∀ q ∈ qs, fit q) (hs : fitS qs) : sem tb (k + 3) 17 [.lst (qs.map frD)] s = some (.ok (frD qs.sum), s) := by
  have w : W (sem tb (k + 3) 17 [.lst (qs.map frD)] s) fun d s' => d = frD qs.sum ∧ s' = s := by
    rw [sem_of rfl, W_run]
    simp only [cb_w_sum, startG]
    simp
    refine W_forL (I := fun i g s' => ∃ x, s' = s ∧ g = [.dat (.lst (qs.map frD)), .dat (frD (qs.take i).sum), x]) ⟨.un, rfl, by simp [frD]⟩ ?_ ?_
    · rintro i d g s' hd ⟨x, rfl, rfl⟩
      rw [List.getElem?_map] at hd
      obtain ⟨q, hq, rfl⟩ := Option.map_eq_some_iff.mp hd
      have hm : q ∈ qs := List.mem_of_getElem? hq
      refine ⟨_, rfl, ?_⟩
      simp [wplus_eq (hs i) (h q hm)]
      obtain ⟨hi, e⟩ := List.getElem?_eq_some_iff.mp hq
      rw [List.take_add_one, List.sum_append, hq]
      simp [Rat.add_zero]
    · rintro g s' ⟨x, rfl, rfl⟩
      simp
  obtain ⟨d, s', e, rfl, rfl⟩ := w
  exact e
end
end FR
/-! FrPts: points, rounds of points. -/
namespace FR
open PySem (Str)
abbrev Pt := Rat × Rat
def ptD (p : Pt) : D := .tup [frD p.1, frD p.2]
@[simp] theorem pt_i0 {p : Pt} : idxD (ptD p) (.int 0) = some (frD p.1) := rfl
@[simp] theorem pt_i1 {p : Pt} : idxD (ptD p) (.int 1) = some (frD p.2) := rfl
theorem fr_pl {n : Nat} {q : Rat} : (frD q).pl (n + 1) = true := by
  unfold frD
  simp [D.pl]
theorem pt_pl {n : Nat} {p : Pt} : (ptD p).pl (n + 2) = true := by
  unfold ptD
  simp [D.pl, fr_pl]
theorem fr_eqv {p q : Rat} : D.eqv (frD p) (frD q) = decide (p = q) := by
  unfold frD
  simp only [D.eqv, D.eqvL]
  by_cases h : p = q
  · subst h
    simp
  · rw [decide_eq_false h]
    by_cases h1 : p.num = q.num
    · have : p.den ≠ q.den := fun h2 => h (Rat.ext h1 h2)
      have h3 : ((p.den : Int) == (q.den : Int)) = false := by
        rw [beq_eq_false_iff_ne]
        omega
      simp [h3]
    · have h3 : (p.num == q.num) = false := by
        rw [beq_eq_false_iff_ne]
        exact h1
      simp [h3]
theorem pt_eqv {p q : Pt} : D.eqv (ptD p) (ptD q) = decide (p = q) := by
  unfold ptD
  simp only [D.eqv, D.eqvL, fr_eqv]
  by_cases h1 : p.1 = q.1
  · by_cases h2 : p.2 = q.2
    · simp [h1, h2, Prod.ext_iff]
    · simp [h1, h2, Prod.ext_iff]
  · simp [h1, Prod.ext_iff]
theorem eq_fr {p q : Rat} : cmpD .eq (frD p) (frD q) = some (decide (p = q)) := by
  unfold cmpD
  simp only [fr_pl, fr_eqv]
  rfl
theorem ne_fr2 {p q : Rat} : cmpD .ne (frD p) (frD q) = some (!decide (p = q)) := by
  unfold cmpD
  simp only [fr_pl, fr_eqv]
  rfl
theorem eq_pt {p q : Pt} : cmpD .eq (ptD p) (ptD q) = some (decide (p = q)) := by
  unfold cmpD
  simp only [pt_pl, pt_eqv]
  rfl
theorem ne_pt {p q : Pt} : cmpD .ne (ptD p) (ptD q) = some (!decide (p = q)) := by
  unfold cmpD
  simp only [pt_pl, pt_eqv]
  rfl
/-! ### sums round -/
/-- over neighbours -/
def ch (f : Pt → Pt → Rat) : List Pt → Rat
  | [] => 0
  | [_] => 0
  | x :: y :: r => f x y + ch f (y :: r)
/-- over neighbours, the last beside the first -/
def cyc (f : Pt → Pt → Rat) (l : List Pt) : Rat := match l.getLast? with
  | none => 0
  | some z => ch f (z :: l)
theorem ch_app {f : Pt → Pt → Rat} {y : Pt} {b : List Pt} : ∀ {a : List Pt}, ch f (a ++ y :: b) = ch f (a ++ [y]) + ch f (y :: b)
  | [] => by
    show ch f (y :: b) = ch f [y] + _
    rw [show ch f [y] = 0 from rfl, Rat.zero_add]
  | [x] => by
    show f x y + ch f (y :: b) = f x y + ch f [y] + _
    rw [show ch f [y] = 0 from rfl, Rat.add_zero]
  | x :: x2 :: a => by
    show f x x2 + ch f (x2 :: a ++ y :: b) = f x x2 + ch f (x2 :: a ++ [y]) + _
    rw [ch_app (a := x2 :: a), Rat.add_assoc]
theorem cyc_cons {f : Pt → Pt → Rat} {x : Pt} {l : List Pt} : cyc f (x :: l) = ch f (x :: l ++ [x]) := by
  unfold cyc
  rw [List.getLast?_eq_some_getLast (List.cons_ne_nil x l)]
  dsimp only
  rw [show ch f ((x :: l).getLast (List.cons_ne_nil x l) :: x :: l) = f ((x :: l).getLast (List.cons_ne_nil x l)) x + ch f (x :: l) from rfl]
  have e := List.dropLast_concat_getLast (List.cons_ne_nil x l)
  generalize (x :: l).getLast (List.cons_ne_nil x l) = z at *
  generalize (x :: l).dropLast = d at *
  rw [← e, List.append_assoc, List.singleton_append, ch_app (b := [x]), Rat.add_comm, show ch f [z, x] = f z x + ch f [x] from rfl, show ch f [x] = 0 from rfl, Rat.add_zero]
theorem cyc_rot {f : Pt → Pt → Rat} {a b : List Pt} : cyc f (a ++ b) = cyc f (b ++ a) := by
  cases a with
  | nil => rw [List.nil_append, List.append_nil]
  | cons x a =>
    cases b with
    | nil => rw [List.nil_append, List.append_nil]
    | cons y b =>
      rw [show (x :: a) ++ (y :: b) = x :: (a ++ y :: b) from rfl, show (y :: b) ++ (x :: a) = y :: (b ++ x :: a) from rfl, cyc_cons, cyc_cons]
      have e1 : x :: (a ++ y :: b) ++ [x] = (x :: a) ++ y :: (b ++ [x]) := by simp
      have e2 : y :: (b ++ x :: a) ++ [y] = (y :: b) ++ x :: (a ++ [y]) := by simp
      rw [e1, e2, ch_app (a := x :: a), ch_app (a := y :: b) (y := x), Rat.add_comm]
      rfl
theorem ch_rev {f : Pt → Pt → Rat} : ∀ {l : List Pt}, ch f l.reverse = ch (fun a b => f b a) l
  | [] => rfl
  | [x] => rfl
  | x :: y :: r => by
    rw [List.reverse_cons, List.reverse_cons, List.append_assoc, List.singleton_append, ch_app, ← List.reverse_cons, ch_rev (l := y :: r), Rat.add_comm]
    show f y x + ch f [x] + _ = f y x + _
    rw [show ch f [x] = 0 from rfl, Rat.add_zero]
theorem cyc_rev {f : Pt → Pt → Rat} {l : List Pt} : cyc f l.reverse = cyc (fun a b => f b a) l := by
  cases l with
  | nil => rfl
  | cons x l =>
    rw [List.reverse_cons, cyc_rot, List.singleton_append, cyc_cons, cyc_cons, ← ch_rev]
    congr 1
    simp
theorem ch_map {f : Pt → Pt → Rat} {g : Pt → Pt} : ∀ {l : List Pt}, ch f (l.map g) = ch (fun a b => f (g a) (g b)) l
  | [] => rfl
  | [x] => rfl
  | x :: y :: r => by
    rw [List.map_cons, List.map_cons]
    show f (g x) (g y) + ch f (g y :: r.map g) = f (g x) (g y) + _
    rw [← List.map_cons, ch_map (l := y :: r)]
theorem cyc_map {f : Pt → Pt → Rat} {g : Pt → Pt} {l : List Pt} : cyc f (l.map g) = cyc (fun a b => f (g a) (g b)) l := by
  cases l with
  | nil => rfl
  | cons x l =>
    rw [List.map_cons, cyc_cons, cyc_cons, ← ch_map (f := f) (g := g), List.map_append, List.map_cons]
    rfl
theorem ch_tel {h : Pt → Rat} : ∀ {x : Pt} {l : List Pt}, ch (fun a b => h b - h a) (x :: l) = h ((x :: l).getLast (List.cons_ne_nil x l)) - h x
  | x, [] => by
    show (0 : Rat) = h x - h x
    grind
  | x, y :: r => by
    show h y - h x + ch _ (y :: r) = _
    rw [ch_tel, List.getLast_cons (List.cons_ne_nil y r)]
    grind
theorem ch_lin {f g : Pt → Pt → Rat} {c : Rat} : ∀ {l : List Pt}, ch (fun a b => f a b + c * g a b) l = ch f l + c * ch g l
  | [] => by
    show (0 : Rat) = 0 + c * 0
    grind
  | [x] => by
    show (0 : Rat) = 0 + c * 0
    grind
  | x :: y :: r => by
    show f x y + c * g x y + ch _ (y :: r) = (f x y + ch f (y :: r)) + c * (g x y + ch g (y :: r))
    rw [ch_lin]
    grind
theorem cyc_lin {f g : Pt → Pt → Rat} {c : Rat} {l : List Pt} : cyc (fun a b => f a b + c * g a b) l = cyc f l + c * cyc g l := by
  cases l with
  | nil =>
    show (0 : Rat) = 0 + c * 0
    grind
  | cons x l => rw [cyc_cons, cyc_cons, cyc_cons, ch_lin]
theorem cyc_tel {h : Pt → Rat} {l : List Pt} : cyc (fun a b => h b - h a) l = 0 := by
  cases l with
  | nil => rfl
  | cons x l =>
    rw [cyc_cons, List.cons_append, ch_tel]
    have : (x :: (l ++ [x])).getLast (List.cons_ne_nil _ _) = x := List.getLast_concat (l := x :: l)
    rw [this]
    grind
theorem cyc_congr {f g : Pt → Pt → Rat} {l : List Pt} (h : ∀ a b, f a b = g a b) : cyc f l = cyc g l := by
  have : f = g := by
    funext a b
    exact h a b
  rw [this]
theorem cyc_scale {f : Pt → Pt → Rat} {c : Rat} {l : List Pt} : cyc (fun a b => c * f a b) l = c * cyc f l := by
  have e := cyc_lin (f := fun _ _ => 0) (g := f) (c := c) (l := l)
  have z : cyc (fun _ _ => 0) l = 0 := by
    have := cyc_tel (h := fun _ => 0) (l := l)
    rw [← this]
    exact cyc_congr fun a b => by grind
  rw [z] at e
  rw [← cyc_congr (f := fun a b => 0 + c * f a b) fun a b => by grind, e]
  grind
/-- the outer product -/
def xf (a b : Pt) : Rat := a.1 * b.2 - b.1 * a.2
/-- twice the area -/
def dar (l : List Pt) : Rat := cyc xf l
theorem dar_rot {a b : List Pt} : dar (a ++ b) = dar (b ++ a) := cyc_rot
theorem dar_rev {l : List Pt} : dar l.reverse = - dar l := by
  unfold dar
  rw [cyc_rev, cyc_congr (g := fun a b => (-1) * xf a b) fun a b => by unfold xf; grind, cyc_scale]
  grind
theorem dar_lin {g : Pt → Pt} {c : Rat} {l : List Pt} (h : ∀ a b, xf (g a) (g b) = c * xf a b) : dar (l.map g) = c * dar l := by
  unfold dar
  rw [cyc_map, cyc_congr h, cyc_scale]
theorem dar_move {u v : Rat} {l : List Pt} : dar (l.map fun p => (p.1 + u, p.2 + v)) = dar l := by
  unfold dar
  rw [cyc_map, cyc_congr (g := fun a b => (fun a b : Pt => xf a b) a b + 1 * (fun a b : Pt => (fun p : Pt => u * p.2 - v * p.1) b - (fun p : Pt => u * p.2 - v * p.1) a) a b) fun a b => by unfold xf; grind, cyc_lin, cyc_tel]
  grind
/-- seen from a home -/
def crs (o a b : Pt) : Rat := (a.1 - o.1) * (b.2 - o.2) - (a.2 - o.2) * (b.1 - o.1)
theorem cyc_crs {o : Pt} {l : List Pt} : cyc (crs o) l = dar l := by
  rw [← dar_move (u := -o.1) (v := -o.2)]
  unfold dar
  rw [cyc_map]
  exact cyc_congr fun a b => by unfold crs xf; grind
/-! the sum by places: that ahead of the first is the last -/
def prv (l : List Pt) : List Pt := match l.getLast? with
  | none => []
  | some z => z :: l.dropLast
def prs (l : List Pt) : List (Pt × Pt) := (prv l).zip l
theorem ch_zip {f : Pt → Pt → Rat} : ∀ {x : Pt} {l : List Pt}, (((x :: l).dropLast.zip l).map fun p => f p.1 p.2).sum = ch f (x :: l)
  | x, [] => rfl
  | x, y :: r => by
    rw [List.dropLast_cons_of_ne_nil (List.cons_ne_nil y r), List.zip_cons_cons, List.map_cons, List.sum_cons, ch_zip]
    rfl
theorem prv_len {l : List Pt} : (prv l).length = l.length := by
  cases l with
  | nil => rfl
  | cons x l =>
    unfold prv
    rw [List.getLast?_eq_some_getLast (List.cons_ne_nil x l)]
    simp
theorem prs_len {l : List Pt} : (prs l).length = l.length := by
  unfold prs
  rw [List.length_zip, prv_len, Nat.min_self]
theorem cyc_prs {f : Pt → Pt → Rat} {l : List Pt} : ((prs l).map fun p => f p.1 p.2).sum = cyc f l := by
  cases l with
  | nil => rfl
  | cons x l =>
    unfold cyc prs prv
    rw [List.getLast?_eq_some_getLast (List.cons_ne_nil x l)]
    dsimp only
    rw [← ch_zip]
    congr 1
theorem prv_get {l : List Pt} {i : Nat} {p : Pt} (h : (prv l)[i]? = some p) : atL l ((i : Int) - 1) = some p := by
  cases l with
  | nil => cases h
  | cons x l =>
    unfold prv at h
    rw [List.getLast?_eq_some_getLast (List.cons_ne_nil x l)] at h
    cases i with
    | zero =>
      cases h
      unfold atL
      rw [if_neg (by omega), if_pos (by simp; omega), List.getLast_eq_getElem, List.getElem?_eq_getElem (by simp; omega)]
      congr 2
      simp
      omega
    | succ i =>
      rw [List.getElem?_cons_succ] at h
      have hl := (List.getElem?_eq_some_iff.mp h).1
      rw [List.length_dropLast] at hl
      rw [List.getElem?_dropLast, if_pos hl] at h
      rw [show ((i + 1 : Nat) : Int) - 1 = (i : Int) by omega, at_nat]
      exact h
theorem prs_get {l : List Pt} {i : Nat} {a b : Pt} (h : (prs l)[i]? = some (a, b)) : atL l ((i : Int) - 1) = some a ∧ atL l (i : Int) = some b := by
  unfold prs at h
  rw [List.getElem?_zip_eq_some] at h
  exact ⟨prv_get h.1, by rw [at_nat]; exact h.2⟩
theorem atL_map {α β : Type} {f : α → β} {l : List α} {i : Int} : atL (l.map f) i = (atL l i).map f := by
  unfold atL
  rw [List.length_map]
  split
  · rw [List.getElem?_map]
  · split
    · rw [List.getElem?_map]
    · rfl
theorem prs_mem {l : List Pt} {a b : Pt} (h : (a, b) ∈ prs l) : a ∈ l ∧ b ∈ l := by
  unfold prs at h
  have h2 := List.of_mem_zip h
  refine ⟨?_, h2.2⟩
  obtain ⟨i, hi⟩ := List.mem_iff_getElem?.mp h2.1
  have := prv_get hi
  unfold atL at this
  split at this
  · exact List.mem_of_getElem? this
  · split at this
    · exact List.mem_of_getElem? this
    · cases this
end FR
/-! FrArea: the walk over points and areas. -/
namespace FR
open PySem (Str)
theorem compL_from {α : Type} {f : D → S → EV (Option D)} {h : α → D} {s : S} : ∀ {xs : List α} {lo : Int}, (∀ (i : Nat) (x : α), xs[i]? = some x → f (.int (lo + i)) s = some (.ok (some (h x)), s)) →
    compL f ((List.range xs.length).map fun (i : Nat) => D.int (lo + i)) s = some (.ok (xs.map h), s)
  | [], _, _ => rfl
  | x :: xs, lo, H => by
    rw [List.length_cons, List.range_succ_eq_map, List.map_cons, compL, H 0 x rfl]
    dsimp only
    rw [List.map_map]
    have e : (fun (i : Nat) => D.int (lo + i)) ∘ Nat.succ = fun (i : Nat) => D.int (lo + 1 + i) := by
      funext i
      show D.int (lo + ((i + 1 : Nat) : Int)) = _
      congr 1
      omega
    rw [e, compL_from (xs := xs) (lo := lo + 1) fun i y hy => by
      rw [show lo + 1 + (i : Int) = lo + ((i + 1 : Nat) : Int) by omega]
      exact H (i + 1) y hy]
    rfl
theorem compL_idx {α : Type} {f : D → S → EV (Option D)} {h : α → D} {s : S} {xs : List α} {n : Int} (hn : n = xs.length) (H : ∀ (i : Nat) (x : α), xs[i]? = some x → f (.int i) s = some (.ok (some (h x)), s)) :
    compL f (rangeD 0 n) s = some (.ok (xs.map h), s) := by
  subst hn
  unfold rangeD
  rw [Int.sub_zero, Int.toNat_natCast]
  exact compL_from fun i x hx => by
    rw [Int.zero_add]
    exact H i x hx
@[simp] theorem isi_fr {q : Rat} : isiD (frD q) .tuple = some true := rfl
@[simp] theorem len_fr {q : Rat} {s : S} : bifD .len [frD q] s = some (.int 2) := rfl
@[simp] theorem items_fr {q : Rat} : itemsD (frD q) = some [.int q.num, .int q.den] := rfl
@[simp] theorem isi_pt {p : Pt} : isiD (ptD p) .tuple = some true := rfl
@[simp] theorem len_pt {p : Pt} {s : S} : bifD .len [ptD p] s = some (.int 2) := rfl
@[simp] theorem items_pt {p : Pt} : itemsD (ptD p) = some [frD p.1, frD p.2] := rfl
theorem all2 {a b : Bool} {s : S} : bifD .all [.lst [.bl a, .bl b]] s = some (.bl (a && b)) := by
  cases a <;> cases b <;> rfl
def co (n d : Nat) (p : Pt) : Prop := sz n d p.1 ∧ sz n d p.2
def PtsOk (l : List Pt) : Prop := (3 ≤ l.length ∧ l.length ≤ 40) ∧ ∀ p ∈ prs l, p.1 ≠ p.2
theorem den_pos' {q : Rat} : (0 : Int) < q.den := by
  have := q.den_pos
  omega
section
variable {tb : Tb} [Has tb 1 cb_divisor 2 2] [Has tb 2 cb_least 3 2] [Has tb 47 cb_is_fraction 2 1]
theorem isfr_ok {k : Nat} {q : Rat} {s : S} (h : fit q) : sem tb (k + 3) 47 [frD q] s = some (.ok (.bl true), s) := by
  rw [sem_of rfl]
  have e := least_eq (tb := tb) (k := k) (a := q.num) (b := q.den) (s := s) (by have := den_pos' (q := q); omega) ((den_bt h.2).mono (by decide))
  rw [Rat.num_divInt_den] at e
  simp [cb_is_fraction, startG, compL, cmp1, setT, bigL, all2, q.den_pos, e, eq_fr]
variable [Has tb 48 cb_is_point 2 1]
theorem ispt_ok {k : Nat} {p : Pt} {s : S} (h1 : fit p.1) (h2 : fit p.2) : sem tb (k + 4) 48 [ptD p] s = some (.ok (.bl true), s) := by
  rw [sem_of rfl]
  simp [cb_is_point, startG, compL, cmp1, setT, bigL, all2, isfr_ok h1, isfr_ok h2]
variable [Has tb 49 cb_look_points 3 1] [HasG tb 9 (.int 40)]
theorem lookp_ok {k : Nat} {l : List Pt} {s : S} (h : PtsOk l) (hf : ∀ p ∈ l, fit p.1 ∧ fit p.2) : sem tb (k + 5) 49 [.lst (l.map ptD)] s = some (.ok .non, s) := by
  rw [sem_of rfl]
  have e1 : ∀ a b c, compL (cmp1 (enOf tb (k + 4)) [a, b, c] (.nm 2) (.cst (.bl true)) (.call 48 (.cons (.var 2) .nil))) (l.map ptD) s = some (.ok (l.map fun _ => D.bl true), s) := fun a b c =>
    compL_map fun p hp => by simp [cmp1, setT, ispt_ok (hf p hp).1 (hf p hp).2]
  have lz : l.length ≤ SZ := by have := h.1; unfold SZ; omega
  have a1 : bifD .all [.lst (l.map fun _ => D.bl true)] s = some (.bl true) := by
    rw [all_map (f := fun _ : Pt => true)]
    simp
  have e2 : ∀ b c, compL (cmp1 (enOf tb (k + 4)) [.dat (.lst (l.map ptD)), b, c] (.nm 1) (.cst (.bl true)) (.cmp .eq (.idx (.var 0) (.bin .sub (.var 1) (.cst (.int 1)))) (.idx (.var 0) (.var 1)))) (rangeD 0 l.length) s = some (.ok ((prs l).map fun p => D.bl (decide (p.1 = p.2))), s) := fun b c =>
    compL_idx (by rw [prs_len]) fun i p hp => by
      obtain ⟨g1, g2⟩ := prs_get hp
      simp [cmp1, setT, atL_map, g1, g2, eq_pt]
  have a2 : bifD .any [.lst ((prs l).map fun p => D.bl (decide (p.1 = p.2)))] s = some (.bl false) := by
    rw [any_map (f := fun p : Pt × Pt => decide (p.1 = p.2))]
    congr 2
    rw [List.any_eq_false]
    intro p hp
    simp [h.2 p hp]
  have l1 : (3 : Int) ≤ l.length := by have := h.1; omega
  have l2 : (l.length : Int) ≤ 40 := by have := h.1; omega
  have r0 : rngD (.int 0) (.int l.length) = some (rangeD 0 l.length) := rng_ok (by decide) (by unfold SZ; omega)
  have lp : (prs l).length ≤ SZ := by rw [prs_len]; exact lz
  simp [cb_look_points, startG, gl_of, l1, l2, e1, bigL_map lz, a1, r0, e2, bigL_map lp, a2]
end
theorem xf_sz {n d : Nat} {a b : Pt} (ha : co n d a) (hb : co n d b) : sz (2 * n + 2 * d + 1) (4 * d) (xf a b) := by
  unfold xf
  have h := sz_sub (N := 2 * n + 2 * d) (sz_mul ha.1 hb.2) (sz_mul hb.1 ha.2) (by omega) (by omega)
  exact h.mono (by omega) (by omega)
section
variable {tb : Tb} [Has tb 1 cb_divisor 2 2] [Has tb 2 cb_least 3 2] [Has tb 32 cb_plus 2 2] [Has tb 45 cb_minus 2 2] [Has tb 46 cb_times 2 2] [Has tb 50 cb_double_area 5 1]
theorem dar_eq {k n d : Nat} {l : List Pt} {s : S} (hl : l.length ≤ 100) (hc : ∀ p ∈ l, co n d p) (hn : n ≤ 1000) (hd : d * l.length ≤ 1090) : sem tb (k + 4) 50 [.lst (l.map ptD)] s = some (.ok (frD (dar l)), s) := by
  by_cases hl0 : l = []
  · subst hl0
    rw [sem_of rfl]
    simp [cb_double_area, startG, rng_ok, show rangeD 0 0 = [] from rfl, forL]
    rfl
  have hlp : 0 < l.length := List.length_pos_iff.mpr hl0
  have hd2 : d ≤ 1090 := Nat.le_trans (Nat.le_mul_of_pos_right d hlp) hd
  have hfit : ∀ {q : Rat}, sz n d q → fit q := fun h => h.fit (by omega) (by omega)
  have hs : fitS ((prs l).map fun p => xf p.1 p.2) := by
    refine fitS_of (n := 2 * n + 2 * d + 1) (d := 4 * d) (m := l.length) (fun q hq => ?_) (by rw [List.length_map, prs_len]; exact Nat.le_refl _) ?_ ?_
    · obtain ⟨⟨a, b⟩, hp, rfl⟩ := List.mem_map.mp hq
      obtain ⟨ha, hb⟩ := prs_mem hp
      exact xf_sz (hc a ha) (hc b hb)
    · have : (4 * d + 1) * (l.length + 1) = 4 * (d * l.length) + l.length + 4 * d + 1 := by
        rw [Nat.add_mul, Nat.mul_add, Nat.mul_assoc]
        omega
      omega
    · rw [Nat.mul_assoc]
      omega
  have w : W (sem tb (k + 4) 50 [.lst (l.map ptD)] s) fun v s' => v = frD (dar l) ∧ s' = s := by
    rw [sem_of rfl, W_run]
    simp only [cb_double_area, startG]
    have r0 : rngD (.int 0) (.int l.length) = some (rangeD 0 l.length) := rng_ok (by decide) (by unfold SZ; omega)
    simp [r0]
    refine W_range (I := fun i g s' => ∃ x y z, s' = s ∧ g = [.dat (.lst (l.map ptD)), .dat (frD (((prs l).map fun p => xf p.1 p.2).take i).sum), x, y, z]) ⟨.un, .un, .un, rfl, by simp [frD]⟩ ?_ ?_
    · rintro i g s' hi ⟨x, y, z, rfl, rfl⟩
      have hil : i < (prs l).length := by rw [prs_len]; omega
      obtain ⟨⟨a, b⟩, hg⟩ : ∃ p, (prs l)[i]? = some p := ⟨_, List.getElem?_eq_getElem hil⟩
      obtain ⟨g1, g2⟩ := prs_get hg
      obtain ⟨ha, hb⟩ := prs_mem (List.mem_of_getElem? hg)
      have ca := hc a ha
      have cb := hc b hb
      have f1 := (sz_mul ca.1 cb.2).fit (by omega) (by omega)
      have f2 := (sz_mul cb.1 ca.2).fit (by omega) (by omega)
      have f3 := (xf_sz ca cb).fit (by omega) (by omega)
      unfold xf at f3
      simp [atL_map, g1, g2, setAll, times_eq (hfit ca.1) (hfit cb.2), times_eq (hfit cb.1) (hfit ca.2), minus_eq f1 f2, plus_eq (hs i) f3]
      rw [List.take_add_one, List.sum_append]
      simp [hg, Rat.add_zero, xf]
    · rintro g s' ⟨x, y, z, rfl, rfl⟩
      simp
      congr 1
      rw [List.take_of_length_le (by rw [List.length_map, prs_len]; omega), cyc_prs]
      rfl
  obtain ⟨v, s', e, rfl, rfl⟩ := w
  exact e
theorem half_divInt {q : Rat} : Rat.divInt q.num (2 * q.den) = q / 2 := by
  have h := div_divInt (p := q) (q := 2)
  rw [← h]
  show _ = Rat.divInt (q.num * 1) (q.den * 2)
  rw [Int.mul_one, Int.mul_comm 2]
theorem half_den {q : Rat} {d : Nat} (h : q.den < 2 ^ d) : bt (2 * (q.den : Int)) (d + 1) := by
  unfold bt
  rw [Nat.pow_succ]
  omega
theorem two_mul_den {q : Rat} {d : Nat} (h : q.den < 2 ^ d) (hd : d ≤ 4400) : binD .mul (.int 2) (.int q.den) = some (.int (2 * q.den)) := mul_bt (n := 2) (bt_of (by decide) (by decide)) (den_bt h) (by omega)
theorem dar_fit {n d : Nat} {l : List Pt} (hl : l.length ≤ 100) (hc : ∀ p ∈ l, co n d p) (hn : n ≤ 1000) (hd : d * l.length ≤ 1090) : fit (dar l) := by
  have e := sum_sz (n := 2 * n + 2 * d + 1) (d := 4 * d) (qs := (prs l).map fun p => xf p.1 p.2) fun q hq => by
    obtain ⟨⟨a, b⟩, hp, rfl⟩ := List.mem_map.mp hq
    obtain ⟨ha, hb⟩ := prs_mem hp
    exact xf_sz (hc a ha) (hc b hb)
  rw [cyc_prs, List.length_map, prs_len] at e
  by_cases hl0 : l = []
  · subst hl0
    exact ⟨by show 0 < 2 ^ 400000; exact Nat.pow_pos (by decide), by show 1 < 2 ^ 4400; exact Nat.one_lt_two_pow (by decide)⟩
  have hlp : 0 < l.length := List.length_pos_iff.mpr hl0
  have hd2 : d ≤ 1090 := Nat.le_trans (Nat.le_mul_of_pos_right d hlp) hd
  refine e.fit ?_ ?_
  · have : (4 * d + 1) * (l.length + 1) = 4 * (d * l.length) + l.length + 4 * d + 1 := by
      rw [Nat.add_mul, Nat.mul_add, Nat.mul_assoc]
      omega
    omega
  · rw [Nat.mul_assoc]
    omega
variable [Has tb 47 cb_is_fraction 2 1] [Has tb 48 cb_is_point 2 1] [Has tb 49 cb_look_points 3 1] [HasG tb 9 (.int 40)] [Has tb 51 cb_area 2 1]
theorem area_eq {k n d : Nat} {l : List Pt} {s : S} (h : PtsOk l) (hc : ∀ p ∈ l, co n d p) (hn : n ≤ 1000) (hd : d ≤ 27) : sem tb (k + 6) 51 [.lst (l.map ptD)] s = some (.ok (frD (dar l / 2)), s) := by
  rw [sem_of rfl]
  have hl := h.1
  have hd2 : d * l.length ≤ 1090 := Nat.le_trans (Nat.mul_le_mul hd hl.2) (by decide)
  have hfit : ∀ {q : Rat}, sz n d q → fit q := fun h => h.fit (by omega) (by omega)
  have e1 := lookp_ok (tb := tb) (k := k) (s := s) h fun p hp => ⟨hfit (hc p hp).1, hfit (hc p hp).2⟩
  have e2 := dar_eq (tb := tb) (k := k + 1) (s := s) (by omega) hc hn hd2
  have hf := dar_fit (by omega) hc hn hd2
  have e3 := least_eq (tb := tb) (k := k + 3) (a := (dar l).num) (b := 2 * (dar l).den) (s := s) (by have := den_pos' (q := dar l); omega) ((half_den hf.2).mono (by decide))
  rw [half_divInt] at e3
  simp [cb_area, startG, e1, e2, two_mul_den hf.2 (Nat.le_refl _), e3]
end
end FR
/-! FrK11: the laws' drawn points. -/
namespace FR
open PySem (Str)
/-- neighbours differ -/
def neC : List Pt → Prop
  | [] => True
  | [_] => True
  | x :: y :: r => x ≠ y ∧ neC (y :: r)
theorem neC_snoc {p : Pt} : ∀ {l : List Pt}, neC l → (∀ z, l.getLast? = some z → z ≠ p) → neC (l ++ [p])
  | [], _, _ => trivial
  | [x], _, h => ⟨h x rfl, trivial⟩
  | x :: y :: r, h, k => ⟨h.1, neC_snoc (l := y :: r) h.2 fun z hz => k z (by rw [← hz]; exact List.getLast?_cons_cons ..)⟩
theorem neC_zip : ∀ {x : Pt} {l : List Pt}, neC (x :: l) → ∀ p ∈ (x :: l).dropLast.zip l, p.1 ≠ p.2
  | x, [], _, p, hp => by cases hp
  | x, y :: r, h, p, hp => by
    rw [List.dropLast_cons_of_ne_nil (List.cons_ne_nil y r), List.zip_cons_cons] at hp
    rcases List.mem_cons.mp hp with rfl | hp
    · exact h.1
    · exact neC_zip h.2 p hp
theorem neC_prs {l : List Pt} (h : neC l) (k : ∀ x z, l.head? = some x → l.getLast? = some z → x ≠ z) : ∀ p ∈ prs l, p.1 ≠ p.2 := by
  cases l with
  | nil =>
    intro p hp
    cases hp
  | cons x l =>
    intro p hp
    unfold prs prv at hp
    rw [List.getLast?_eq_some_getLast (List.cons_ne_nil x l)] at hp
    have hz := k x _ rfl (List.getLast?_eq_some_getLast (List.cons_ne_nil x l))
    rcases List.mem_cons.mp hp with rfl | hp
    · exact fun e => hz e.symm
    · exact neC_zip h p hp
theorem at_last {α : Type} {l : List α} (h : l ≠ []) : atL l (-1) = l.getLast? := by
  have hp : 0 < l.length := List.length_pos_iff.mpr h
  unfold atL
  rw [if_neg (by decide), if_pos (by omega), List.getLast?_eq_getElem?]
  congr 1
  omega
theorem at_first {α : Type} {l : List α} : atL l 0 = l.head? := by
  cases l <;> rfl
theorem pts_pl {n : Nat} {l : List Pt} : (D.lst (l.map ptD)).pl (n + 3) = true := by
  simp [D.pl, pt_pl]
theorem eq_nil {l : List Pt} : cmpD .eq (.lst (l.map ptD)) (.lst []) = some (decide (l = [])) := by
  unfold cmpD
  simp only [pts_pl]
  cases l with
  | nil => rfl
  | cons x l => simp [D.pl, D.eqv, D.eqvL]
theorem mul_one_lst {d : D} {b : Bool} : binD .mul (.lst [d]) (.int (if b = true then 1 else 0)) = some (.lst (if b = true then [d] else [])) := by
  cases b <;> rfl
@[simp] theorem int_bl {b : Bool} {s : S} : bifD .int [.bl b] s = some (.int (if b then 1 else 0)) := by
  cases b <;> rfl
theorem fr_of {i : Int} : D.tup [.int i, .int 1] = frD (i : Rat) := rfl
theorem sz_di {a b : Int} {n d : Nat} (h : bt a n) (k : bt b d) (hb : 0 < b) (hd : 0 < d) : sz n d (Rat.divInt a b) := by
  obtain ⟨c, rfl⟩ := Int.eq_ofNat_of_zero_le (Int.le_of_lt hb)
  rw [Rat.divInt_ofNat]
  refine sz_mk h ?_ hd
  unfold bt at k
  rw [Int.natAbs_natCast] at k
  exact k
section
variable {tb : Tb} [Has tb 9 cb_w_cell 2 2] [Has tb 10 cb_w_mix 3 2] [Has tb 11 cb_w_draw 3 3] [Has tb 12 cb_w_pick 3 3] [Has tb 13 cb_w_least 5 2] [Has tb 52 cb_w_number 2 2]
theorem W_number {k n : Nat} {ns : List Int} {Q : D → S → Prop} (hn : n < 800000) (h : ∀ q : Rat, sz 4 2 q → Q (frD q) (some (n + 2))) : W (sem tb (k + 5) 52 [.scr ns, .town] (some n)) Q := by
  rw [sem_of rfl, W_run]
  simp only [cb_w_number, startG]
  simp
  refine W_draw (by omega) (by decide) fun r r0 r1 => ?_
  refine W_pickI (fun j => 1 ≤ j ∧ j ≤ 3) (by omega) (by simp) (by simp) fun j ⟨j1, j2⟩ => ?_
  rw [wleast_eq (by omega) (bt.mono (n := 2) (bt_of (by omega) (by omega)) (by decide))]
  simp
  exact h _ (sz_di (bt_of (by omega) (by omega)) (bt_of (by omega) (by omega)) (by omega) (by decide))
variable [Has tb 53 cb_w_points 6 2]
def quad : List Pt := [(0, 0), (5, Rat.divInt 1 2), (3, 4), (0, Rat.divInt 7 3)]
theorem quad_d : [D.tup [.tup [.int 0, .int 1], .tup [.int 0, .int 1]], .tup [.tup [.int 5, .int 1], .tup [.int 1, .int 2]], .tup [.tup [.int 3, .int 1], .tup [.int 4, .int 1]], .tup [.tup [.int 0, .int 1], .tup [.int 7, .int 3]]] = quad.map ptD := by
  simp only [quad, List.map_cons, List.map_nil, ptD, frD]
  rfl
theorem quad_ok : PtsOk quad ∧ ∀ p ∈ quad, co 4 2 p := by
  refine ⟨⟨by decide, by decide⟩, fun p hp => ?_⟩
  have : ∀ p ∈ quad, (p.1.num.natAbs < 2 ^ 4 ∧ p.1.den < 2 ^ 2) ∧ (p.2.num.natAbs < 2 ^ 4 ∧ p.2.den < 2 ^ 2) := by decide
  exact this p hp
theorem pts_tail {en : En} {a b c x : Sl} {l : List Pt} {p : Pt} {s : S} (hl : l.length ≤ 1000) : evS en (.asg [] 2 (.bin .add (.var 2) (.bin .mul (.lst (.cons (.var 5) (.nil))) (.bif .int (.cons (.or (.cmp .eq (.var 2) (.lst (.nil))) (.cmp .ne (.idx (.var 2) (.neg (.cst (.int 1)))) (.var 5))) (.nil))))))
      [a, b, .dat (.lst (l.map ptD)), c, x, .dat (ptD p)] s = some (.ok (.nx [a, b, .dat (.lst ((if l = [] ∨ l.getLast? ≠ some p then l ++ [p] else l).map ptD)), c, x, .dat (ptD p)]), s) := by
  have ad : ∀ ys, ys.length ≤ 1 → binD .add (.lst (l.map ptD)) (.lst ys) = some (.lst (l.map ptD ++ ys)) := fun ys h => add_lst (by rw [List.length_map, SZ]; omega)
  by_cases h0 : l = []
  · subst h0
    have := mul_one_lst (d := ptD p) (b := true)
    simp at this
    simp [show cmpD .eq (.lst []) (.lst []) = some true from rfl, this, show binD .add (.lst []) (.lst [ptD p]) = some (.lst [ptD p]) from rfl]
  · have e1 : cmpD .eq (.lst (l.map ptD)) (.lst []) = some false := by
      rw [eq_nil]
      simp [h0]
    obtain ⟨z, hz⟩ : ∃ z, l.getLast? = some z := ⟨_, List.getLast?_eq_some_getLast h0⟩
    have e2 : atL (l.map ptD) (-1) = some (ptD z) := by
      rw [atL_map, at_last h0, hz]
      rfl
    by_cases h1 : z = p
    · subst h1
      have := mul_one_lst (d := ptD z) (b := false)
      simp at this
      simp [e1, e2, ne_pt, this, ad, hz, h0]
    · have := mul_one_lst (d := ptD p) (b := true)
      simp at this
      simp [e1, e2, ne_pt, this, ad, hz, h0, h1]
theorem W_ifB {α : Type} {c : Prop} [Decidable c] {a b : EV α} {Q : α → S → Prop} (ha : c → W a Q) (hb : ¬ c → W b Q) : W (if c then a else b) Q := by
  by_cases h : c
  · rw [if_pos h]
    exact ha h
  · rw [if_neg h]
    exact hb h
def ptsI (n : Nat) (ns : List Int) (c : D) (i : Nat) (g : G) (s : S) : Prop := ∃ (l : List Pt) (m : Nat) (x y : Sl), l.length ≤ i ∧ neC l ∧ (∀ p ∈ l, co 4 2 p) ∧ s = some m ∧ m ≤ n + 10 + 10 * i ∧ g = [.dat (.scr ns), .dat .town, .dat (.lst (l.map ptD)), .dat c, x, y]
theorem W_points {k n : Nat} {ns : List Int} {Q : D → S → Prop} (hn : n < 700000) (h : ∀ (l : List Pt) (m : Nat), PtsOk l → (∀ p ∈ l, co 4 2 p) → m ≤ n + 1000 → Q (.lst (l.map ptD)) (some m)) : W (sem tb (k + 6) 53 [.scr ns, .town] (some n)) Q := by
  rw [sem_of rfl, W_run]
  simp only [cb_w_points, startG]
  simp
  refine W_draw (by omega) (by decide) fun nr nr0 nr1 => ?_
  simp
  refine W_pickI (fun j => 1 ≤ j ∧ j ≤ 38) (by omega) (by simp) (by simp) fun j ⟨j1, j2⟩ => ?_
  refine W_draw (by omega) (by omega) fun r r0 r1 => ?_
  simp
  rw [rng_ok (by decide) (by unfold SZ; omega)]
  simp
  refine W_range (I := ptsI n ns (.bl (nr == 0))) ⟨[], _, .un, .un, Nat.le_refl _, trivial, by simp, rfl, by omega, rfl⟩ ?_ ?_
  · rintro i g s hi ⟨l, m, x, y, hl, hne, hco, rfl, hm, rfl⟩
    simp
    refine W_number (by omega) fun q1 hq1 => ?_
    refine W_number (by omega) fun q2 hq2 => ?_
    have step : ∀ (p : Pt) (m' : Nat), co 4 2 p → m' ≤ m + 6 → ptsI n ns (.bl (nr == 0)) (i + 1) [.dat (.scr ns), .dat .town, .dat (.lst ((if l = [] ∨ l.getLast? ≠ some p then l ++ [p] else l).map ptD)), .dat (.bl (nr == 0)), .dat (.int i), .dat (ptD p)] (some m') := by
      intro p m' hp hm'
      refine ⟨_, m', _, _, ?_, ?_, ?_, rfl, by omega, rfl⟩
      · split
        · rw [List.length_append, List.length_singleton]
          omega
        · omega
      · split
        · rename_i hc
          refine neC_snoc hne fun z hz e => ?_
          subst e
          rcases hc with hc | hc
          · subst hc
            cases hz
          · exact hc hz
        · exact hne
      · split
        · intro x hx
          rcases List.mem_append.mp hx with hx | hx
          · exact hco x hx
          · cases List.mem_singleton.mp hx
            exact hp
        · exact hco
    refine W_ifB (fun hc => ?_) fun hc => ?_
    · simp [-evS_asg]
      refine W_draw (by omega) (by decide) fun u1 a1 b1 => ?_
      refine W_draw (by omega) (by decide) fun u2 a2 b2 => ?_
      have e : D.tup [.tup [.int u1, .int 1], .tup [.int u2, .int 1]] = ptD ((u1 : Rat), (u2 : Rat)) := rfl
      simp only [e]
      rw [pts_tail (by omega)]
      simp only [rb_ok, seqK_nx, evSs_nil, W_ok, stepK_nx]
      exact step _ _ ⟨(sz_int (bt_of (by omega) (by omega))).mono (Nat.le_refl 4) (by decide), (sz_int (bt_of (by omega) (by omega))).mono (Nat.le_refl 4) (by decide)⟩ (by omega)
    · have e : D.tup [frD q1, frD q2] = ptD (q1, q2) := rfl
      simp only [W_ok, seqK_nx, evSs_cons, e]
      rw [pts_tail (by omega)]
      simp only [rb_ok, seqK_nx, evSs_nil, W_ok, stepK_nx]
      exact step _ _ ⟨hq1, hq2⟩ (by omega)
  · rintro g s ⟨l, m, x, y, hl, hne, hco, rfl, hm, rfl⟩
    simp
    have hq := h quad m quad_ok.1 quad_ok.2 (by omega)
    by_cases h3 : l.length < 3
    · have : (l.length : Int) < 3 := by omega
      simp [this, h3, quad_d, hq]
    · have hl0 : l ≠ [] := by
        rintro rfl
        simp at h3
      obtain ⟨z, hz⟩ : ∃ z, l.getLast? = some z := ⟨_, List.getLast?_eq_some_getLast hl0⟩
      obtain ⟨x1, hx1⟩ : ∃ x, l.head? = some x := by
        cases l with
        | nil => exact absurd rfl hl0
        | cons x l => exact ⟨x, rfl⟩
      have e2 : atL (l.map ptD) (-1) = some (ptD z) := by
        rw [atL_map, at_last hl0, hz]
        rfl
      have e3 : atL (l.map ptD) 0 = some (ptD x1) := by
        rw [atL_map, at_first, hx1]
        rfl
      have h3' : ¬ (l.length : Int) < 3 := by omega
      by_cases hxz : x1 = z
      · simp [h3', e2, e3, eq_pt, hxz, quad_d, hq]
      · simp [h3', e2, e3, eq_pt, hxz]
        refine h l m ⟨by omega, neC_prs hne fun x z' hx hz' => ?_⟩ hco (by omega)
        rw [hx1] at hx
        rw [hz] at hz'
        cases hx
        cases hz'
        exact hxz
end
end FR
/-! FrK11b: rounds turned, moved, mirrored. -/
namespace FR
open PySem (Str)
theorem sum_nn : ∀ {l : List Rat}, (∀ x ∈ l, 0 ≤ x) → 0 ≤ l.sum ∧ (l.sum = 0 → ∀ x ∈ l, x = 0)
  | [], _ => ⟨by decide, fun _ x hx => by cases hx⟩
  | x :: l, h => by
    have h1 := h x List.mem_cons_self
    obtain ⟨h2, h3⟩ := sum_nn (l := l) fun y hy => h y (List.mem_cons_of_mem _ hy)
    rw [List.sum_cons]
    refine ⟨by grind, fun e y hy => ?_⟩
    have hx : x = 0 := by grind
    have hl : l.sum = 0 := by grind
    rcases List.mem_cons.mp hy with rfl | hy
    · exact hx
    · exact h3 hl y hy
/-- how often neighbours are the same -/
def ind (a b : Pt) : Rat := if a = b then 1 else 0
theorem ind_iff {l : List Pt} : (∀ p ∈ prs l, p.1 ≠ p.2) ↔ cyc ind l = 0 := by
  rw [← cyc_prs]
  have nn : ∀ x ∈ (prs l).map fun p => ind p.1 p.2, (0 : Rat) ≤ x := fun x hx => by
    obtain ⟨p, _, rfl⟩ := List.mem_map.mp hx
    unfold ind
    split <;> decide
  constructor
  · intro h
    have : (prs l).map (fun p => ind p.1 p.2) = (prs l).map fun _ => (0 : Rat) := List.map_congr_left fun p hp => by
      unfold ind
      rw [if_neg (h p hp)]
    rw [this]
    generalize prs l = q
    induction q with
    | nil => rfl
    | cons x q ih =>
      rw [List.map_cons, List.sum_cons, ih, Rat.add_zero]
  · intro h p hp e
    have := (sum_nn nn).2 h _ (List.mem_map_of_mem hp)
    unfold ind at this
    rw [if_pos e] at this
    exact absurd this (by decide)
theorem PtsOk.rot {a b : List Pt} (h : PtsOk (a ++ b)) : PtsOk (b ++ a) :=
  ⟨by have := h.1; rw [List.length_append] at *; omega, by rw [ind_iff, cyc_rot, ← ind_iff]; exact h.2⟩
theorem PtsOk.rev {l : List Pt} (h : PtsOk l) : PtsOk l.reverse :=
  ⟨by rw [List.length_reverse]; exact h.1, by
    rw [ind_iff, cyc_rev, cyc_congr (g := ind) (fun a b => by unfold ind; simp only [eq_comm]), ← ind_iff]
    exact h.2⟩
theorem PtsOk.map {l : List Pt} {g : Pt → Pt} (h : PtsOk l) (hg : ∀ a b, g a = g b → a = b) : PtsOk (l.map g) :=
  ⟨by rw [List.length_map]; exact h.1, by
    rw [ind_iff, cyc_map, cyc_congr (g := ind) (fun a b => by
      unfold ind
      by_cases e : a = b
      · rw [if_pos e, if_pos (by rw [e])]
      · rw [if_neg e, if_neg fun e2 => e (hg a b e2)]), ← ind_iff]
    exact h.2⟩
theorem half_sz : sz 2 2 (1 / 2 : Rat) := by
  have e : (1 / 2 : Rat) = Rat.divInt 1 2 := by
    rw [Rat.divInt_eq_div]
    rfl
  rw [e]
  exact ⟨by show Int.natAbs _ < 2 ^ 2; decide, by decide⟩
theorem fr_neg {q : Rat} : D.tup [.int (0 - q.num), .int q.den] = frD (-q) := by
  unfold frD
  rw [Rat.neg_num, Rat.neg_den, Int.zero_sub]
theorem fr_neg' {q : Rat} : D.tup [.int (-q.num), .int q.den] = frD (-q) := by
  unfold frD
  rw [Rat.neg_num, Rat.neg_den]
theorem crs_sz {n d : Nat} {o a b : Pt} (ho : co n d o) (ha : co n d a) (hb : co n d b) : sz (2 * (n + d + 1) + 4 * d + 1) (8 * d) (crs o a b) := by
  unfold crs
  have h1 := sz_sub (N := n + d) ha.1 ho.1 (Nat.le_refl _) (Nat.le_refl _)
  have h2 := sz_sub (N := n + d) hb.2 ho.2 (Nat.le_refl _) (Nat.le_refl _)
  have h3 := sz_sub (N := n + d) ha.2 ho.2 (Nat.le_refl _) (Nat.le_refl _)
  have h4 := sz_sub (N := n + d) hb.1 ho.1 (Nat.le_refl _) (Nat.le_refl _)
  exact (sz_sub (N := 2 * (n + d + 1) + 4 * d) (sz_mul h1 h2) (sz_mul h3 h4) (by omega) (by omega)).mono (by omega) (by omega)
theorem co.fit1 {n d : Nat} {p : Pt} (h : co n d p) (h1 : n ≤ 400000 := by decide) (h2 : d ≤ 4400 := by decide) : fit p.1 := h.1.fit h1 h2
theorem co.fit2 {n d : Nat} {p : Pt} (h : co n d p) (h1 : n ≤ 400000 := by decide) (h2 : d ≤ 4400 := by decide) : fit p.2 := h.2.fit h1 h2
theorem co.mono {n d m e : Nat} {p : Pt} (h : co n d p) (h1 : n ≤ m) (h2 : d ≤ e) : co m e p := ⟨h.1.mono h1 h2, h.2.mono h1 h2⟩
section
variable {tb : Tb} [Has tb 13 cb_w_least 5 2] [Has tb 15 cb_w_minus 2 2] [Has tb 16 cb_w_times 2 2] [Has tb 54 cb_w_cross 4 3]
theorem wcross_eq {k n d : Nat} {o a b : Pt} {s : S} (ho : co n d o) (ha : co n d a) (hb : co n d b) (hn : n ≤ 10000) (hd : d ≤ 550) : sem tb (k + 3) 54 [ptD o, ptD a, ptD b] s = some (.ok (frD (crs o a b)), s) := by
  have hf : ∀ {q : Rat}, sz n d q → fit q := fun h => h.fit (by omega) (by omega)
  have h1 := sz_sub (N := n + d) ha.1 ho.1 (Nat.le_refl _) (Nat.le_refl _)
  have h2 := sz_sub (N := n + d) hb.2 ho.2 (Nat.le_refl _) (Nat.le_refl _)
  have h3 := sz_sub (N := n + d) ha.2 ho.2 (Nat.le_refl _) (Nat.le_refl _)
  have h4 := sz_sub (N := n + d) hb.1 ho.1 (Nat.le_refl _) (Nat.le_refl _)
  have g1 : fit (a.1 - o.1) := h1.fit (by omega) (by omega)
  have g2 : fit (b.2 - o.2) := h2.fit (by omega) (by omega)
  have g3 : fit (a.2 - o.2) := h3.fit (by omega) (by omega)
  have g4 : fit (b.1 - o.1) := h4.fit (by omega) (by omega)
  have g5 : fit ((a.1 - o.1) * (b.2 - o.2)) := (sz_mul h1 h2).fit (by omega) (by omega)
  have g6 : fit ((a.2 - o.2) * (b.1 - o.1)) := (sz_mul h3 h4).fit (by omega) (by omega)
  rw [sem_of rfl]
  simp [cb_w_cross, startG, wminus_eq (hf ha.1) (hf ho.1), wminus_eq (hf hb.2) (hf ho.2), wminus_eq (hf ha.2) (hf ho.2), wminus_eq (hf hb.1) (hf ho.1), wtimes_eq g1 g2, wtimes_eq g3 g4, wminus_eq g5 g6, crs]
end
section
variable {tb : Tb} [Has tb 9 cb_w_cell 2 2] [Has tb 10 cb_w_mix 3 2] [Has tb 11 cb_w_draw 3 3] [Has tb 12 cb_w_pick 3 3]
theorem W_pickF {k n : Nat} {ns : List Int} {xs : List D} {Q : D → S → Prop} (P : Rat → Prop) (hn : n < 900000) (hm : xs ≠ []) (hP : ∀ x ∈ xs, ∃ q, x = frD q ∧ P q) (h : ∀ q, P q → Q (frD q) (some (n + 1))) : W (sem tb (k + 4) 12 [.scr ns, .town, .lst xs] (some n)) Q :=
  W_pick hn hm fun x hx => by
    obtain ⟨j, rfl, pj⟩ := hP x hx
    exact h j pj
end
end FR
/-! FrShare: what is put to each leg; the points put right. -/
namespace FR
open PySem (Str)
theorem of_W {o : EV D} {x : D} {s : S} (h : W o fun v s' => v = x ∧ s' = s) : o = some (.ok x, s) := by
  obtain ⟨v, s', e, rfl, rfl⟩ := h
  exact e
@[simp] theorem rng02 : rngD (.int 0) (.int 2) = some [.int 0, .int 1] := rfl
@[simp] theorem max_int {i j : Int} {s : S} : bifD .max2 [.int i, .int j] s = some (.int (if j > i then j else i)) := rfl
@[simp] theorem tuple_lst {xs : List D} {s : S} : bifD .tuple [.lst xs] s = some (.tup xs) := rfl
@[simp] theorem isi_str {x : Str} : isiD (.str x) .str = some true := rfl
inductive Rl where
  | eq | long | parts
def Rl.x : Rl → Str
  | .eq => "equal"
  | .long => "long"
  | .parts => "parts"
def Rl.w : Rl → Leg → Int × Int
  | .eq, _ => (1, 1)
  | .long, l => (l.l, l.l)
  | .parts, l => (l.e.natAbs, l.n.natAbs)
theorem Rl.w_ok {r : Rl} {l : Leg} (h : l.ok) : 0 ≤ (r.w l).1 ∧ (r.w l).1 ≤ 2000000 ∧ 0 ≤ (r.w l).2 ∧ (r.w l).2 ≤ 2000000 := by
  obtain ⟨h1, h2, h3, h4, h5, h6⟩ := h
  cases r <;> simp only [Rl.w] <;> omega
def i2 (p : Int × Int) : D := .tup [.int p.1, .int p.2]
@[simp] theorem i2_0 {p : Int × Int} : idxD (i2 p) (.int 0) = some (.int p.1) := rfl
@[simp] theorem i2_1 {p : Int × Int} : idxD (i2 p) (.int 1) = some (.int p.2) := rfl
section
variable {tb : Tb} [Has tb 21 cb_weights 3 2]
theorem weights_eq {k : Nat} {r : Rl} {ls : List Leg} {s : S} (hl : ls.length ≤ 1000) : sem tb (k + 1) 21 [legsD ls, .str r.x] s = some (.ok (.lst (ls.map fun l => i2 (r.w l))), s) := by
  rw [sem_of rfl]
  have lz : ls.length ≤ SZ := by unfold SZ; omega
  have ab : ∀ x : Int, (if x < 0 then -x else x) = (x.natAbs : Int) := fun x => by split <;> omega
  have c1 : ∀ a b c, compL (cmp1 (enOf tb k) [a, b, c] (.nm 2) (.cst (.bl true)) (.tup (.cons (.cst (.int 1)) (.cons (.cst (.int 1)) (.nil))))) (ls.map Leg.d) s = some (.ok (ls.map fun l => i2 (Rl.eq.w l)), s) := fun a b c => compL_map fun x hx => by simp [cmp1, setT, Leg.d, i2, Rl.w]
  have c2 : ∀ a b c, compL (cmp1 (enOf tb k) [a, b, c] (.nm 2) (.cst (.bl true)) (.tup (.cons (.idx (.var 2) (.cst (.int 2))) (.cons (.idx (.var 2) (.cst (.int 2))) (.nil))))) (ls.map Leg.d) s = some (.ok (ls.map fun l => i2 (Rl.long.w l)), s) := fun a b c => compL_map fun x hx => by simp [cmp1, setT, Leg.d, i2, Rl.w]
  have c3 : ∀ a b c, compL (cmp1 (enOf tb k) [a, b, c] (.nm 2) (.cst (.bl true)) (.tup (.cons (.bif .abs (.cons (.idx (.var 2) (.cst (.int 0))) (.nil))) (.cons (.bif .abs (.cons (.idx (.var 2) (.cst (.int 1))) (.nil))) (.nil))))) (ls.map Leg.d) s = some (.ok (ls.map fun l => i2 (Rl.parts.w l)), s) := fun a b c => compL_map fun x hx => by simp [cmp1, setT, Leg.d, i2, Rl.w, ab]
  simp only [cb_weights, startG, legsD]
  cases r with
  | eq =>
    have e1 : cmpD .eq (.str Rl.eq.x) (.str "equal") = some true := by decide +kernel
    simp [e1, c1, bigL_map lz]
  | long =>
    have e1 : cmpD .eq (.str Rl.long.x) (.str "equal") = some false := by decide +kernel
    have e2 : cmpD .eq (.str Rl.long.x) (.str "long") = some true := by decide +kernel
    simp [e1, e2, c2, bigL_map lz]
  | parts =>
    have e1 : cmpD .eq (.str Rl.parts.x) (.str "equal") = some false := by decide +kernel
    have e2 : cmpD .eq (.str Rl.parts.x) (.str "long") = some false := by decide +kernel
    simp [e1, e2, c3, bigL_map lz]
end
def wS (r : Rl) (ls : List Leg) : Int × Int := ((ls.map fun l => (r.w l).1).sum, (ls.map fun l => (r.w l).2).sum)
/-- what a leg bears, east or north -/
def shr (e w S : Int) : Rat := Rat.divInt (0 - e * w) (if S > 1 then S else 1)
def shP (e : Int × Int) (r : Rl) (ls : List Leg) (l : Leg) : Pt := (shr e.1 (r.w l).1 (wS r ls).1, shr e.2 (r.w l).2 (wS r ls).2)
theorem wS_b {r : Rl} {ls : List Leg} (h : LegsOk ls) : 0 ≤ (wS r ls).1 ∧ (wS r ls).1 ≤ 80000000 ∧ 0 ≤ (wS r ls).2 ∧ (wS r ls).2 ≤ 80000000 := by
  have hn : ∀ (f : Leg → Int), (∀ l ∈ ls, 0 ≤ f l ∧ f l ≤ 2000000) → 0 ≤ (ls.map f).sum ∧ (ls.map f).sum ≤ 80000000 := fun f hf => by
    have h1 := sum_bt (f := f) (B := 2000000) (xs := ls) fun x hx => ⟨by have := hf x hx; omega, (hf x hx).2⟩
    have h2 : ∀ (xs : List Leg), (∀ l ∈ xs, 0 ≤ f l) → 0 ≤ (xs.map f).sum := fun xs => by
      induction xs with
      | nil => intro _; exact Int.le_refl _
      | cons x xs ih =>
        intro hx
        rw [List.map_cons, List.sum_cons]
        have := hx x List.mem_cons_self
        have := ih fun l hl => hx l (List.mem_cons_of_mem _ hl)
        omega
    have := h2 ls fun l hl => (hf l hl).1
    have := h.1
    omega
  have a := hn (fun l => (r.w l).1) fun l hl => ⟨(Rl.w_ok (h.2 l hl)).1, (Rl.w_ok (h.2 l hl)).2.1⟩
  have b := hn (fun l => (r.w l).2) fun l hl => ⟨(Rl.w_ok (h.2 l hl)).2.2.1, (Rl.w_ok (h.2 l hl)).2.2.2⟩
  exact ⟨a.1, a.2, b.1, b.2⟩
theorem shr_sz {e w S : Int} (he : bt e 27) (hw : bt w 21) (hS : S ≤ 80000000) : sz 49 28 (shr e w S) := by
  unfold shr
  refine sz_di ?_ ?_ (by split <;> omega) (by decide)
  · rw [Int.zero_sub]
    exact (bt_neg (bt_mul he hw)).mono (by decide)
  · refine bt_of ?_ ?_ <;> split <;> omega
section
variable {tb : Tb} [Has tb 1 cb_divisor 2 2] [Has tb 2 cb_least 3 2] [Has tb 21 cb_weights 3 2] [Has tb 24 cb_shares 8 3]
theorem shares_eq {k : Nat} {r : Rl} {ls : List Leg} {e : Int × Int} {s : S} (h : LegsOk ls) (he1 : bt e.1 27) (he2 : bt e.2 27) (hz1 : (wS r ls).1 = 0 → e.1 = 0) (hz2 : (wS r ls).2 = 0 → e.2 = 0) :
    sem tb (k + 3) 24 [legsD ls, .str r.x, i2 e] s = some (.ok (.lst (ls.map fun l => ptD (shP e r ls l))), s) := by
  refine of_W ?_
  rw [sem_of rfl, W_run]
  have w0 := weights_eq (tb := tb) (k := k + 1) (r := r) (ls := ls) (s := s) (by have := h.1; omega)
  have lz : ls.length ≤ SZ := by have := h.1; unfold SZ; omega
  have bS := wS_b (r := r) h
  have cA : ∀ a b c d e' f g, compL (cmp1 (enOf tb (k + 2)) [a, b, c, d, e', f, g, .dat (.int 0)] (.nm 6) (.cst (.bl true)) (.idx (.var 6) (.var 7))) (ls.map fun l => i2 (r.w l)) s = some (.ok (ls.map fun l => D.int (r.w l).1), s) := fun a b c d e' f g => compL_map fun x hx => by simp [cmp1, setT]
  have cB : ∀ a b c d e' f g, compL (cmp1 (enOf tb (k + 2)) [a, b, c, d, e', f, g, .dat (.int 1)] (.nm 6) (.cst (.bl true)) (.idx (.var 6) (.var 7))) (ls.map fun l => i2 (r.w l)) s = some (.ok (ls.map fun l => D.int (r.w l).2), s) := fun a b c d e' f g => compL_map fun x hx => by simp [cmp1, setT]
  have sA : bifD .sum [.lst (ls.map fun l => D.int (r.w l).1)] s = some (.int (wS r ls).1) := sum_map
  have sB : bifD .sum [.lst (ls.map fun l => D.int (r.w l).2)] s = some (.int (wS r ls).2) := sum_map
  have any2 : ∀ a b : Bool, bifD .any [.lst [.bl a, .bl b]] s = some (.bl (a || b)) := fun a b => by cases a <;> cases b <;> rfl
  simp only [cb_shares, startG]
  simp [w0, compL_cons, cmp1, setT, cA, cB, bigL_map lz, sA, sB, -evS_for]
  have q1 : ∀ s : S, (if (wS r ls).1 = 0 then (some (R.ok (D.bl (!e.1 == 0)), s) : EV D) else some (R.ok (D.bl ((wS r ls).1 == 0)), s)) = some (.ok (.bl false), s) := fun s => by
    by_cases z : (wS r ls).1 = 0
    · rw [if_pos z, hz1 z]
      rfl
    · rw [if_neg z, beq_eq_false_iff_ne.mpr z]
  have q2 : ∀ s : S, (if (wS r ls).2 = 0 then (some (R.ok (D.bl (!e.2 == 0)), s) : EV D) else some (R.ok (D.bl ((wS r ls).2 == 0)), s)) = some (.ok (.bl false), s) := fun s => by
    by_cases z : (wS r ls).2 = 0
    · rw [if_pos z, hz2 z]
      rfl
    · rw [if_neg z, beq_eq_false_iff_ne.mpr z]
  rw [q1, W_ok, q2, W_ok, any2]
  simp
  refine W_forL (I := fun i g s' => ∃ x, s' = s ∧ g = [.dat (legsD ls), .dat (.str r.x), .dat (i2 e), .dat (.lst (ls.map fun l => i2 (r.w l))), .own ((ls.take i).map fun l => ptD (shP e r ls l)), .dat (.lst [.int (wS r ls).1, .int (wS r ls).2]), x, .un]) ⟨.un, rfl, rfl⟩ ?_ ?_
  · rintro i d g s' hd ⟨x, rfl, rfl⟩
    rw [List.getElem?_map] at hd
    obtain ⟨l, hl, rfl⟩ := Option.map_eq_some_iff.mp hd
    have hm : l ∈ ls := List.mem_of_getElem? hl
    have hil := (List.getElem?_eq_some_iff.mp hl).1
    have hw := Rl.w_ok (r := r) (h.2 l hm)
    have m1 := mul_bt he1 (bt_of (n := 21) (i := (r.w l).1) (by omega) (by omega)) (by decide)
    have m2 := mul_bt he2 (bt_of (n := 21) (i := (r.w l).2) (by omega) (by omega)) (by decide)
    have f1 : sem tb (k + 2) 2 [.int (0 - e.1 * (r.w l).1), .int (if (wS r ls).1 > 1 then (wS r ls).1 else 1)] s' = some (.ok (frD (shP e r ls l).1), s') := least_eq (by split <;> omega) (bt.mono (n := 28) (bt_of (by split <;> omega) (by split <;> omega)) (by decide))
    have f2 : sem tb (k + 2) 2 [.int (0 - e.2 * (r.w l).2), .int (if (wS r ls).2 > 1 then (wS r ls).2 else 1)] s' = some (.ok (frD (shP e r ls l).2), s') := least_eq (by split <;> omega) (bt.mono (n := 28) (bt_of (by split <;> omega) (by split <;> omega)) (by decide))
    have hlen : min i ls.length < 1000000 := by have := h.1; omega
    refine ⟨_, rfl, ?_⟩
    simp only [Int.zero_sub, gt_iff_lt] at f1 f2
    simp [compL_cons, cmp1, setT, m1, m2, f1, f2, owned, appO, appF, hlen]
    rw [List.take_add_one]
    simp [hl, ptD]
  · rintro g s' ⟨x, rfl, rfl⟩
    simp [exE, frz, frzS]
end
section
variable {tb : Tb} [Has tb 7 cb_closing_of 2 1] [Has tb 23 cb_error_to 5 3]
/-- what is wanting -/
def erT (ls : List Leg) (a b : Int × Int) : Int × Int := (a.1 + sE ls - b.1, a.2 + sN ls - b.2)
theorem error_eq {k : Nat} {ls : List Leg} {a b : Int × Int} {s : S} (h : LegsOk ls) : sem tb (k + 2) 23 [legsD ls, i2 a, i2 b] s = some (.ok (i2 (erT ls a b)), s) := by
  rw [sem_of rfl]
  simp [cb_error_to, startG, cl_of h, setT, setAll, i2, erT]
def spB (a : Int × Int) : Prop := -1000000 ≤ a.1 ∧ a.1 ≤ 1000000 ∧ -1000000 ≤ a.2 ∧ a.2 ≤ 1000000
theorem erT_bt {ls : List Leg} {a b : Int × Int} (h : LegsOk ls) (ha : spB a) (hb : spB b) : bt (erT ls a b).1 27 ∧ bt (erT ls a b).2 27 := by
  have h1 := sum_bt (f := Leg.e) (B := 1000000) (xs := ls) fun x hx => ⟨(h.2 x hx).1, (h.2 x hx).2.1⟩
  have h2 := sum_bt (f := Leg.n) (B := 1000000) (xs := ls) fun x hx => ⟨(h.2 x hx).2.2.1, (h.2 x hx).2.2.2.1⟩
  have := h.1
  unfold spB at ha hb
  constructor
  · refine bt_of ?_ ?_ <;> simp only [erT, sE] <;> omega
  · refine bt_of ?_ ?_ <;> simp only [erT, sN] <;> omega
variable [Has tb 3 cb_is_whole 3 3] [HasG tb 2 (.int 1000000)] [Has tb 20 cb_look_spot 2 1]
theorem spot_ok {k : Nat} {a : Int × Int} {s : S} (ha : spB a) : sem tb (k + 2) 20 [i2 a] s = some (.ok .non, s) := by
  rw [sem_of rfl]
  obtain ⟨h1, h2, h3, h4⟩ := ha
  simp [cb_look_spot, startG, i2, compL_cons, cmp1, setT, gl_of, whole_eq, h1, h2, h3, h4, all2]
variable [HasG tb 16 (.tup [.str "equal", .str "long", .str "parts"])] [Has tb 22 cb_look_rule 1 1]
theorem rule_ok {k : Nat} {r : Rl} {s : S} : sem tb (k + 1) 22 [.str r.x] s = some (.ok .non, s) := by
  rw [sem_of rfl]
  have e : cmpD .nin (.str r.x) (.tup [.str "equal", .str "long", .str "parts"]) = some false := by
    cases r <;> decide +kernel
  simp [cb_look_rule, startG, gl_of, e]
variable [Has tb 4 cb_is_leg 2 1] [HasG tb 4 (.int 2000000)] [Has tb 5 cb_look_legs 2 1] [HasG tb 3 (.int 40)] [Has tb 25 cb_look_round 4 4]
theorem round_ok {k : Nat} {r : Rl} {ls : List Leg} {a b : Int × Int} {s : S} (h : LegsOk ls) (ha : spB a) (hb : spB b) : sem tb (k + 4) 25 [legsD ls, .str r.x, i2 a, i2 b] s = some (.ok .non, s) := by
  rw [sem_of rfl]
  simp [cb_look_round, startG, look_ok h, rule_ok, spot_ok ha, spot_ok hb]
variable [Has tb 1 cb_divisor 2 2] [Has tb 2 cb_least 3 2] [Has tb 21 cb_weights 3 2] [Has tb 24 cb_shares 8 3] [Has tb 26 cb_shared 4 4]
/-- the rule can share -/
def canS (r : Rl) (ls : List Leg) (e : Int × Int) : Prop := ((wS r ls).1 = 0 → e.1 = 0) ∧ ((wS r ls).2 = 0 → e.2 = 0)
theorem shared_eq {k : Nat} {r : Rl} {ls : List Leg} {a b : Int × Int} {s : S} (h : LegsOk ls) (ha : spB a) (hb : spB b) (hc : canS r ls (erT ls a b)) : sem tb (k + 5) 26 [legsD ls, .str r.x, i2 a, i2 b] s = some (.ok (.lst (ls.map fun l => ptD (shP (erT ls a b) r ls l))), s) := by
  rw [sem_of rfl]
  have hb2 := erT_bt h ha hb
  simp [cb_shared, startG, round_ok h ha hb, error_eq h, shares_eq h hb2.1 hb2.2 hc.1 hc.2]
variable [Has tb 31 cb_whole 1 1] [Has tb 32 cb_plus 2 2] [Has tb 33 cb_put_right 9 4]
theorem whole1_eq {k : Nat} {i : Int} {s : S} : sem tb (k + 1) 31 [.int i] s = some (.ok (frD (i : Rat)), s) := by
  rw [sem_of rfl]
  simp [cb_whole, startG, fr_of]
/-- the way's parts, each with what is put to it -/
def stp (e : Int × Int) (r : Rl) (ls : List Leg) (l : Leg) : Pt := ((l.e : Rat) + (shP e r ls l).1, (l.n : Rat) + (shP e r ls l).2)
def pos (a : Int × Int) (ts : List Pt) (i : Nat) : Pt := ((a.1 : Rat) + ((ts.take i).map (·.1)).sum, (a.2 : Rat) + ((ts.take i).map (·.2)).sum)
theorem pos_succ {a : Int × Int} {ts : List Pt} {i : Nat} {t : Pt} (h : ts[i]? = some t) : pos a ts (i + 1) = ((pos a ts i).1 + t.1, (pos a ts i).2 + t.2) := by
  unfold pos
  rw [List.take_add_one, h]
  simp only [Option.toList, List.map_append, List.sum_append, List.map_cons, List.map_nil, List.sum_cons, List.sum_nil]
  congr 1 <;> grind
theorem stp_sz {e : Int × Int} {r : Rl} {ls : List Leg} {l : Leg} (h : LegsOk ls) (hl : l ∈ ls) (h1 : bt e.1 27) (h2 : bt e.2 27) : co 51 30 (stp e r ls l) ∧ co 49 28 (shP e r ls l) := by
  have hw := Rl.w_ok (r := r) (h.2 l hl)
  have bS := wS_b (r := r) h
  obtain ⟨o1, o2, o3, o4, o5, o6⟩ := h.2 l hl
  have s1 : sz 49 28 (shP e r ls l).1 := shr_sz h1 (bt_of (by omega) (by omega)) bS.2.1
  have s2 : sz 49 28 (shP e r ls l).2 := shr_sz h2 (bt_of (by omega) (by omega)) bS.2.2.2
  have t1 : sz 21 1 (l.e : Rat) := sz_int (bt_of (by omega) (by omega))
  have t2 : sz 21 1 (l.n : Rat) := sz_int (bt_of (by omega) (by omega))
  exact ⟨⟨(sz_add (N := 50) t1 s1 (by decide) (by decide)).mono (by decide) (by decide), (sz_add (N := 50) t2 s2 (by decide) (by decide)).mono (by decide) (by decide)⟩, s1, s2⟩
theorem pos_sz {a : Int × Int} {ts : List Pt} {i : Nat} (ha : spB a) (ht : ∀ t ∈ ts, co 51 30 t) (hl : ts.length ≤ 40) : co 3000 1300 (pos a ts i) := by
  unfold spB at ha
  have lt : (ts.take i).length ≤ 40 := by rw [List.length_take]; omega
  have u1 := sum_sz (n := 51) (d := 30) (qs := (ts.take i).map (·.1)) fun q hq => by
    obtain ⟨t, ht2, rfl⟩ := List.mem_map.mp hq
    exact (ht t (List.mem_of_mem_take ht2)).1
  have u2 := sum_sz (n := 51) (d := 30) (qs := (ts.take i).map (·.2)) fun q hq => by
    obtain ⟨t, ht2, rfl⟩ := List.mem_map.mp hq
    exact (ht t (List.mem_of_mem_take ht2)).2
  rw [List.length_map] at u1 u2
  have t1 : sz 21 1 (a.1 : Rat) := sz_int (bt_of (by omega) (by omega))
  have t2 : sz 21 1 (a.2 : Rat) := sz_int (bt_of (by omega) (by omega))
  exact ⟨(sz_add (N := 2900) t1 u1 (by omega) (by omega)).mono (by decide) (by omega), (sz_add (N := 2900) t2 u2 (by omega) (by omega)).mono (by decide) (by omega)⟩
theorem leg_i {l : Leg} : idxD l.d (.int 0) = some (.int l.e) ∧ idxD l.d (.int 1) = some (.int l.n) ∧ idxD l.d (.int 2) = some (.int l.l) := ⟨rfl, rfl, rfl⟩
theorem put_eq {k : Nat} {r : Rl} {ls : List Leg} {a b : Int × Int} {s : S} (h : LegsOk ls) (ha : spB a) (hb : spB b) (hc : canS r ls (erT ls a b)) :
    sem tb (k + 6) 33 [legsD ls, .str r.x, i2 a, i2 b] s = some (.ok (.lst ((List.range (ls.length + 1)).map fun i => ptD (pos a (ls.map (stp (erT ls a b) r ls)) i))), s) := by
  refine of_W ?_
  rw [sem_of rfl, W_run]
  have hb2 := erT_bt h ha hb
  have hl := h.1
  generalize he : erT ls a b = e at *
  have se := shares_eq (tb := tb) (k := k + 2) (s := s) (r := r) h hb2.1 hb2.2 hc.1 hc.2
  have ee := error_eq (tb := tb) (k := k + 3) (a := a) (b := b) (s := s) h
  rw [he] at ee
  generalize hts : ls.map (stp e r ls) = ts
  have hco : ∀ t ∈ ts, co 51 30 t := fun t ht => by
    rw [← hts] at ht
    obtain ⟨l, hl, rfl⟩ := List.mem_map.mp ht
    exact (stp_sz h hl hb2.1 hb2.2).1
  have r0 : rngD (.int 0) (.int ls.length) = some (rangeD 0 ls.length) := rng_ok (by decide) (by unfold SZ; omega)
  have ll : bifD .len [legsD ls] s = some (.int ls.length) := by
    unfold legsD
    rw [len_lst, List.length_map]
  have p0 : pos a ts 0 = ((a.1 : Rat), (a.2 : Rat)) := by
    unfold pos
    simp [Rat.add_zero]
  have e0 : D.tup [frD (a.1 : Rat), frD (a.2 : Rat)] = ptD (pos a ts 0) := by
    rw [p0]
    rfl
  simp only [cb_put_right, startG]
  simp [round_ok h ha hb, whole1_eq, ee, se, ll, r0, e0, D.lfL]
  refine W_range (I := fun i g s' => ∃ x y, s' = s ∧ g = [.dat (legsD ls), .dat (.str r.x), .dat (i2 a), .dat (i2 b), .dat (ptD (pos a ts i)), .own ((List.range (i + 1)).map fun j => ptD (pos a ts j)), .dat (.lst (ls.map fun l => ptD (shP e r ls l))), x, y]) ⟨.un, .un, rfl, rfl⟩ ?_ ?_
  · rintro i g s' hi ⟨x, y, rfl, rfl⟩
    have hi2 : i < ls.length := by omega
    obtain ⟨l, hg⟩ : ∃ l, ls[i]? = some l := ⟨_, List.getElem?_eq_getElem hi2⟩
    have hm : l ∈ ls := List.mem_of_getElem? hg
    have ht : ts[i]? = some (stp e r ls l) := by
      rw [← hts, List.getElem?_map, hg]
      rfl
    have g1 : idxD (legsD ls) (.int i) = some l.d := by
      unfold legsD
      rw [idx_lst, at_nat, List.getElem?_map, hg]
      rfl
    have g2 : atL (ls.map fun l => ptD (shP e r ls l)) i = some (ptD (shP e r ls l)) := by
      rw [at_nat, List.getElem?_map, hg]
      rfl
    have cp := pos_sz (i := i) ha hco (by rw [← hts, List.length_map]; omega)
    have cs := (stp_sz (r := r) h hm hb2.1 hb2.2).2
    obtain ⟨o1, o2, o3, o4, o5, o6⟩ := h.2 l hm
    have t1 : sz 21 1 (l.e : Rat) := sz_int (bt_of (by omega) (by omega))
    have t2 : sz 21 1 (l.n : Rat) := sz_int (bt_of (by omega) (by omega))
    have v1 := plus_eq (tb := tb) (k := k + 2) (s := s') cp.fit1 t1.fit
    have v2 := plus_eq (tb := tb) (k := k + 2) (s := s') cp.fit2 t2.fit
    have z1 := (sz_add (N := 3100) cp.1 t1 (by decide) (by decide)).fit
    have z2 := (sz_add (N := 3100) cp.2 t2 (by decide) (by decide)).fit
    have v3 := plus_eq (tb := tb) (k := k + 2) (s := s') z1 cs.fit1
    have v4 := plus_eq (tb := tb) (k := k + 2) (s := s') z2 cs.fit2
    have ps := pos_succ (a := a) ht
    have e5 : D.tup [frD ((pos a ts i).1 + (l.e : Rat) + (shP e r ls l).1), frD ((pos a ts i).2 + (l.n : Rat) + (shP e r ls l).2)] = ptD (pos a ts (i + 1)) := by
      rw [ps]
      unfold ptD stp
      dsimp only
      rw [Rat.add_assoc, Rat.add_assoc]
    have hlen : i + 1 < 1000000 := by omega
    simp [compL_cons, cmp1, setT, g1, g2, leg_i, whole1_eq, v1, v2, v3, v4, e5, owned, appO, appF, hlen]
    rw [List.range_succ (n := i + 1), List.map_append]
    rfl
  · rintro g s' ⟨x, y, rfl, rfl⟩
    simp [exE, frz, frzS]
/-- the nearest whole number, of two the greater -/
def nr (q : Rat) : Int := (2 * q.num + q.den) / (2 * q.den)
variable [Has tb 34 cb_nearest 1 1] [Has tb 35 cb_whole_points 6 4] [Has tb 36 cb_whole_legs 7 4]
omit [Has tb 7 cb_closing_of 2 1] [Has tb 23 cb_error_to 5 3] [Has tb 3 cb_is_whole 3 3] [HasG tb 2 (.int 1000000)] [Has tb 20 cb_look_spot 2 1] [HasG tb 16 (.tup [.str "equal", .str "long", .str "parts"])] [Has tb 22 cb_look_rule 1 1] [Has tb 4 cb_is_leg 2 1] [HasG tb 4 (.int 2000000)] [Has tb 5 cb_look_legs 2 1] [HasG tb 3 (.int 40)] [Has tb 25 cb_look_round 4 4] [Has tb 1 cb_divisor 2 2] [Has tb 2 cb_least 3 2] [Has tb 21 cb_weights 3 2] [Has tb 24 cb_shares 8 3] [Has tb 26 cb_shared 4 4] [Has tb 31 cb_whole 1 1] [Has tb 32 cb_plus 2 2] [Has tb 33 cb_put_right 9 4] [Has tb 35 cb_whole_points 6 4] [Has tb 36 cb_whole_legs 7 4] in
theorem nearest_eq {k : Nat} {q : Rat} {s : S} (h : fit q) : sem tb (k + 1) 34 [frD q] s = some (.ok (.int (nr q)), s) := by
  rw [sem_of rfl]
  have m1 : binD .mul (.int 2) (.int q.num) = some (.int (2 * q.num)) := mul_bt (n := 2) (bt_of (by decide) (by decide)) h.1 (by decide)
  have m2 := two_mul_den h.2 (Nat.le_refl _)
  have d0 : divOk (2 * (q.den : Int)) = true := divOk_of (by have := den_pos' (q := q); omega) (half_den h.2) (by decide)
  have d1 : (2 * q.num + q.den).fdiv (2 * (q.den : Int)) = nr q := Int.fdiv_eq_ediv_of_nonneg _ (by omega)
  simp [cb_nearest, startG, m1, m2, fdiv_int d0, d1]
def nrP (p : Pt) : Int × Int := (nr p.1, nr p.2)
theorem spots_eq {k : Nat} {r : Rl} {ls : List Leg} {a b : Int × Int} {s : S} (h : LegsOk ls) (ha : spB a) (hb : spB b) (hc : canS r ls (erT ls a b)) :
    sem tb (k + 7) 35 [legsD ls, .str r.x, i2 a, i2 b] s = some (.ok (.lst ((List.range (ls.length + 1)).map fun i => i2 (nrP (pos a (ls.map (stp (erT ls a b) r ls)) i)))), s) := by
  rw [sem_of rfl]
  have hl := h.1
  have hb2 := erT_bt h ha hb
  have pe := put_eq (tb := tb) (k := k) (s := s) h ha hb hc
  generalize erT ls a b = e at *
  generalize hts : ls.map (stp e r ls) = ts at *
  have hco : ∀ t ∈ ts, co 51 30 t := fun t ht => by
    rw [← hts] at ht
    obtain ⟨l, hl, rfl⟩ := List.mem_map.mp ht
    exact (stp_sz h hl hb2.1 hb2.2).1
  have cm : ∀ a1 b1 c1 d1 e1 f1, compL (cmp1 (enOf tb (k + 6)) [a1, b1, c1, d1, e1, f1] (.tp [4, 5]) (.cst (.bl true)) (.tup (.cons (.call 34 (.cons (.var 4) (.nil))) (.cons (.call 34 (.cons (.var 5) (.nil))) (.nil))))) ((List.range (ls.length + 1)).map fun i => ptD (pos a ts i)) s = some (.ok ((List.range (ls.length + 1)).map fun i => i2 (nrP (pos a ts i))), s) := fun a1 b1 c1 d1 e1 f1 =>
    compL_map fun i hi => by
      have cp := pos_sz (i := i) ha hco (by rw [← hts, List.length_map]; omega)
      simp [cmp1, setT, ptD, setAll, nearest_eq cp.fit1, nearest_eq cp.fit2, i2, nrP]
  have lz : (List.range (ls.length + 1)).length ≤ SZ := by rw [List.length_range]; unfold SZ; omega
  simp [cb_whole_points, startG, pe, cm, bigL_map lz]
def rowD (x y : Int × Int) (l : Leg) : D := .tup [.int (y.1 - x.1), .int (y.2 - x.2), .int l.l]
theorem rows_eq {k : Nat} {r : Rl} {ls : List Leg} {a b : Int × Int} {s : S} (h : LegsOk ls) (ha : spB a) (hb : spB b) (hc : canS r ls (erT ls a b)) :
    ∃ rows : List D, sem tb (k + 8) 36 [legsD ls, .str r.x, i2 a, i2 b] s = some (.ok (.lst rows), s) ∧ rows.length = ls.length ∧ ∀ (i : Nat) (l : Leg), ls[i]? = some l → rows[i]? = some (rowD (nrP (pos a (ls.map (stp (erT ls a b) r ls)) i)) (nrP (pos a (ls.map (stp (erT ls a b) r ls)) (i + 1))) l) := by
  have w : W (sem tb (k + 8) 36 [legsD ls, .str r.x, i2 a, i2 b] s) fun v s' => s' = s ∧ ∃ rows : List D, v = .lst rows ∧ rows.length = ls.length ∧ ∀ (i : Nat) (l : Leg), ls[i]? = some l → rows[i]? = some (rowD (nrP (pos a (ls.map (stp (erT ls a b) r ls)) i)) (nrP (pos a (ls.map (stp (erT ls a b) r ls)) (i + 1))) l) := by
    rw [sem_of rfl, W_run]
    have hl := h.1
    have pe := spots_eq (tb := tb) (k := k) (s := s) h ha hb hc
    generalize ls.map (stp (erT ls a b) r ls) = ts at *
    have r0 : rngD (.int 0) (.int ls.length) = some (rangeD 0 ls.length) := rng_ok (by decide) (by unfold SZ; omega)
    have ll : bifD .len [legsD ls] s = some (.int ls.length) := by
      unfold legsD
      rw [len_lst, List.length_map]
    simp only [cb_whole_legs, startG]
    simp [pe, ll, r0, D.lfL]
    generalize hsp : (List.range (ls.length + 1)).map (fun i => i2 (nrP (pos a ts i))) = sp
    refine W_range (I := fun i g s' => ∃ rows x, s' = s ∧ g = [.dat (legsD ls), .dat (.str r.x), .dat (i2 a), .dat (i2 b), .dat (.lst sp), .own rows, x] ∧ rows.length = i ∧ ∀ (j : Nat) (l : Leg), j < i → ls[j]? = some l → rows[j]? = some (rowD (nrP (pos a ts j)) (nrP (pos a ts (j + 1))) l)) ⟨[], .un, rfl, rfl, rfl, fun j _ hj => absurd hj (Nat.not_lt_zero j)⟩ ?_ ?_
    · rintro i g s' hi ⟨rows, x, rfl, rfl, hlen, hrow⟩
      have hi2 : i < ls.length := by omega
      obtain ⟨l, hg⟩ : ∃ l, ls[i]? = some l := ⟨_, List.getElem?_eq_getElem hi2⟩
      have g1 : idxD (legsD ls) (.int i) = some l.d := by
        unfold legsD
        rw [idx_lst, at_nat, List.getElem?_map, hg]
        rfl
      have g2 : atL sp i = some (i2 (nrP (pos a ts i))) := by
        rw [at_nat, ← hsp, List.getElem?_map, List.getElem?_range (by omega)]
        rfl
      have g3 : atL sp ((i : Int) + 1) = some (i2 (nrP (pos a ts (i + 1)))) := by
        rw [show (i : Int) + 1 = ((i + 1 : Nat) : Int) by omega, at_nat, ← hsp, List.getElem?_map, List.getElem?_range (by omega)]
        rfl
      have hz : rows.length < 1000000 := by omega
      simp [g1, g2, g3, leg_i, owned, appO, appF, hz]
      refine ⟨by omega, fun j l' hj hl' => ?_⟩
      by_cases hji : j < i
      · rw [List.getElem?_append_left (by omega)]
        exact hrow j l' hji hl'
      · have : j = i := by omega
        subst this
        rw [hg] at hl'
        cases hl'
        rw [List.getElem?_append_right (by omega), hlen]
        simp [rowD]
    · rintro g s' ⟨rows, x, rfl, rfl, hlen, hrow⟩
      simp [exE, frz, frzS]
      refine ⟨by omega, fun i l hil => hrow i l ?_ hil⟩
      have := (List.getElem?_eq_some_iff.mp hil).1
      omega
  obtain ⟨v, s', e, rfl, rows, rfl, h1, h2⟩ := w
  exact ⟨rows, e, h1, h2⟩
end
end FR
namespace FR
open PySem (Str)
section
variable {tb : Tb} [Has tb 9 cb_w_cell 2 2] [Has tb 10 cb_w_mix 3 2] [Has tb 11 cb_w_draw 3 3] [Has tb 12 cb_w_pick 3 3] [Has tb 19 cb_w_spot 3 2]
theorem W_spot {k n : Nat} {ns : List Int} {Q : D → S → Prop} (hn : n < 800000) (h : ∀ a : Int × Int, spB a → Q (i2 a) (some (n + 3))) : W (sem tb (k + 5) 19 [.scr ns, .town] (some n)) Q := by
  rw [sem_of rfl, W_run]
  simp only [cb_w_spot, startG]
  simp
  refine W_draw (by omega) (by decide) fun r r0 r1 => ?_
  simp
  refine W_pickI (fun j => -1000000 ≤ j ∧ j ≤ 1000000) (by omega) (by simp) (by simp; omega) fun e he => ?_
  refine W_pickI (fun j => -1000000 ≤ j ∧ j ≤ 1000000) (by omega) (by simp) (by simp; omega) fun f hf => ?_
  exact h (e, f) ⟨he.1, he.2, hf.1, hf.2⟩
end
/-! plain data is equal to itself -/
theorem eqvL_refl : ∀ {xs : List D}, (∀ x ∈ xs, D.eqv x x = true) → D.eqvL xs xs = true
  | [], _ => rfl
  | x :: xs, h => by
    show (D.eqv x x && D.eqvL xs xs) = true
    rw [h x List.mem_cons_self, eqvL_refl fun y hy => h y (List.mem_cons_of_mem _ hy)]
    rfl
theorem eqv_refl : ∀ {n : Nat} {d : D}, d.pl n = true → D.eqv d d = true
  | _, .non, _ => rfl
  | _, .bl b, _ => by simp [D.eqv]
  | _, .int i, _ => by simp [D.eqv]
  | _, .str x, _ => by simp [D.eqv]
  | 0, .tup xs, h => by simp [D.pl] at h
  | 0, .lst xs, h => by simp [D.pl] at h
  | n + 1, .tup xs, h => by
    show D.eqvL xs xs = true
    exact eqvL_refl fun x hx => eqv_refl (List.all_eq_true.mp h x hx)
  | n + 1, .lst xs, h => by
    show D.eqvL xs xs = true
    exact eqvL_refl fun x hx => eqv_refl (List.all_eq_true.mp h x hx)
  | 0, .dct _, h => by simp [D.pl] at h
  | n + 1, .dct _, h => by simp [D.pl] at h
  | 0, .exc _, h => by simp [D.pl] at h
  | n + 1, .exc _, h => by simp [D.pl] at h
  | 0, .fn _, h => by simp [D.pl] at h
  | n + 1, .fn _, h => by simp [D.pl] at h
  | 0, .town, h => by simp [D.pl] at h
  | n + 1, .town, h => by simp [D.pl] at h
  | 0, .scr _, h => by simp [D.pl] at h
  | n + 1, .scr _, h => by simp [D.pl] at h
theorem ne_self {d : D} (h : d.pl 8 = true) : cmpD .ne d d = some false := by
  unfold cmpD
  rw [h, eqv_refl h]
  rfl
theorem eq_self {d : D} (h : d.pl 8 = true) : cmpD .eq d d = some true := by
  unfold cmpD
  rw [h, eqv_refl h]
  rfl
theorem i2_pl {n : Nat} {p : Int × Int} : (i2 p).pl (n + 1) = true := by
  unfold i2
  simp [D.pl]
theorem eq_i2 {p q : Int × Int} : cmpD .eq (i2 p) (i2 q) = some (decide (p.1 = q.1) && decide (p.2 = q.2)) := eq_t2
theorem ne_i2 {p q : Int × Int} : cmpD .ne (i2 p) (i2 q) = some (!(decide (p.1 = q.1) && decide (p.2 = q.2))) := ne_t2
/-! what is put to all comes to what is wanting -/
theorem cast_sum : ∀ {ws : List Int}, ((ws.sum : Int) : Rat) = (ws.map fun w => ((w : Int) : Rat)).sum
  | [] => rfl
  | w :: ws => by
    rw [List.map_cons, List.sum_cons, List.sum_cons, Rat.intCast_add, cast_sum]
theorem shr_val {e w S : Int} (h0 : 0 < S) : shr e w S = -(e : Rat) / (S : Rat) * (w : Rat) := by
  unfold shr
  have : (if S > 1 then S else 1) = S := by split <;> omega
  rw [this, Rat.divInt_eq_div, Int.zero_sub, Rat.intCast_neg, Rat.intCast_mul]
  grind
theorem sum_mulL {c : Rat} : ∀ {ws : List Rat}, (ws.map fun w => c * w).sum = c * ws.sum
  | [] => by
    show (0 : Rat) = c * 0
    grind
  | w :: ws => by
    rw [List.map_cons, List.sum_cons, List.sum_cons, sum_mulL]
    grind
theorem sum_shr {α : Type} {e S : Int} {f : α → Int} {xs : List α} (hS : (xs.map f).sum = S) (h0 : 0 ≤ S) (hz : S = 0 → e = 0) : (xs.map fun x => shr e (f x) S).sum = -(e : Rat) := by
  by_cases hp : 0 < S
  · have e1 : (xs.map fun x => shr e (f x) S) = ((xs.map f).map fun w => ((w : Int) : Rat)).map fun w => -(e : Rat) / (S : Rat) * w := by
      rw [List.map_map, List.map_map]
      exact List.map_congr_left fun x _ => shr_val hp
    rw [e1, sum_mulL, ← cast_sum, hS]
    have : (S : Rat) ≠ 0 := by
      intro h
      have := Rat.intCast_inj.mp (h.trans Rat.intCast_zero.symm)
      omega
    grind
  · have hS0 : S = 0 := by omega
    have he := hz hS0
    subst he
    have : (xs.map fun x => shr 0 (f x) S) = (xs.map fun _ => (0 : Rat)) := List.map_congr_left fun x _ => by
      unfold shr
      rw [Int.zero_mul, Int.sub_zero, Rat.zero_divInt]
    rw [this]
    have z : ∀ ys : List α, (ys.map fun _ => (0 : Rat)).sum = 0 := fun ys => by
      induction ys with
      | nil => rfl
      | cons y ys ih => rw [List.map_cons, List.sum_cons, ih, Rat.add_zero]
    rw [z]
    rfl
theorem sum_addL {α : Type} {f g : α → Rat} : ∀ {xs : List α}, (xs.map fun x => f x + g x).sum = (xs.map f).sum + (xs.map g).sum
  | [] => by
    show (0 : Rat) = 0 + 0
    rw [Rat.add_zero]
  | x :: xs => by
    rw [List.map_cons, List.map_cons, List.map_cons, List.sum_cons, List.sum_cons, List.sum_cons, sum_addL]
    grind
theorem pos_last {r : Rl} {ls : List Leg} {a b : Int × Int} (h : LegsOk ls) (hc : canS r ls (erT ls a b)) : pos a (ls.map (stp (erT ls a b) r ls)) ls.length = ((b.1 : Rat), (b.2 : Rat)) := by
  have bS := wS_b (r := r) h
  unfold pos
  rw [List.take_of_length_le (by rw [List.length_map]; exact Nat.le_refl _), List.map_map, List.map_map]
  have e1 : (ls.map ((·.1) ∘ stp (erT ls a b) r ls)).sum = (sE ls : Rat) + -((erT ls a b).1 : Rat) := by
    have : (ls.map ((·.1) ∘ stp (erT ls a b) r ls)) = ls.map fun l => (l.e : Rat) + shr (erT ls a b).1 (r.w l).1 (wS r ls).1 := rfl
    rw [this, sum_addL, sum_shr (S := (wS r ls).1) rfl bS.1 hc.1]
    unfold sE
    rw [cast_sum, List.map_map]
    rfl
  have e2 : (ls.map ((·.2) ∘ stp (erT ls a b) r ls)).sum = (sN ls : Rat) + -((erT ls a b).2 : Rat) := by
    have : (ls.map ((·.2) ∘ stp (erT ls a b) r ls)) = ls.map fun l => (l.n : Rat) + shr (erT ls a b).2 (r.w l).2 (wS r ls).2 := rfl
    rw [this, sum_addL, sum_shr (S := (wS r ls).2) rfl bS.2.2.1 hc.2]
    unfold sN
    rw [cast_sum, List.map_map]
    rfl
  rw [e1, e2]
  unfold erT
  simp only [Rat.intCast_add, Rat.intCast_sub]
  congr 1 <;> grind
theorem nr_int {i : Int} : nr (i : Rat) = i := by
  unfold nr
  rw [Rat.num_intCast, Rat.den_intCast]
  show (2 * i + 1) / (2 * 1) = i
  omega
theorem near_math {n d : Int} (h : 0 < d) : n / d + (if 2 * (n - n / d * d) ≥ d then 1 else 0) = (2 * n + d) / (2 * d) := by
  have h1 : n % d = n - n / d * d := by
    have := Int.emod_def n d
    rw [Int.mul_comm] at this
    exact this
  have h2 := Int.emod_nonneg n (Int.ne_of_gt h)
  have h3 := Int.emod_lt_of_pos n h
  rw [← h1]
  have h4 : n = n / d * d + n % d := by omega
  generalize n / d = q at *
  generalize n % d = t at *
  symm
  have hd : (0 : Int) < 2 * d := by omega
  split
  · rename_i hge
    have e : 2 * n + d = (q + 1) * (2 * d) + (2 * t - d) := by rw [h4]; grind
    rw [e, Int.add_comm, Int.add_mul_ediv_right _ _ (by omega), Int.ediv_eq_zero_of_lt (by omega) (by omega)]
    omega
  · rename_i hge
    have e : 2 * n + d = q * (2 * d) + (2 * t + d) := by rw [h4]; grind
    rw [e, Int.add_comm, Int.add_mul_ediv_right _ _ (by omega), Int.ediv_eq_zero_of_lt (by omega) (by omega)]
    omega
section
variable {tb : Tb} [Has tb 37 cb_w_near 2 1]
theorem near_eq {k : Nat} {q : Rat} {s : S} (h : fit q) : sem tb (k + 1) 37 [frD q] s = some (.ok (.int (nr q)), s) := by
  rw [sem_of rfl]
  have hd := den_pos' (q := q)
  have d0 : divOk (q.den : Int) = true := divOk_of (by omega) (den_bt h.2) (by decide)
  have d1 : q.num.fdiv (q.den : Int) = q.num / q.den := Int.fdiv_eq_ediv_of_nonneg _ (by omega)
  have b1 : bt (q.num / q.den) 400000 := by
    have := h.1
    unfold bt at *
    exact Nat.lt_of_le_of_lt (Int.natAbs_ediv_le_natAbs _ _) this
  have m1 : binD .mul (.int (q.num / q.den)) (.int q.den) = some (.int (q.num / q.den * q.den)) := mul_bt b1 (den_bt h.2) (by decide)
  have b2 : bt (q.num - q.num / q.den * q.den) 404401 := bt_sub (h.1.mono (by decide)) ((bt_mul b1 (den_bt h.2)).mono (by decide))
  have m2 : binD .mul (.int 2) (.int (q.num - q.num / q.den * q.den)) = some (.int (2 * (q.num - q.num / q.den * q.den))) := mul_bt (n := 2) (bt_of (by decide) (by decide)) b2 (by decide)
  have nm := near_math (n := q.num) hd
  have e : (if decide ((q.den : Int) ≤ 2 * (q.num - q.num / q.den * q.den)) = true then (1 : Int) else 0) = if 2 * (q.num - q.num / q.den * q.den) ≥ q.den then 1 else 0 := by
    simp only [decide_eq_true_eq, ge_iff_le]
  simp only [cb_w_near, startG]
  unfold nr
  rw [← nm, ← e]
  simp [fdiv_int d0, d1, m1, m2, -decide_eq_true_eq]
end
end FR
/-! FrClip: what a line leaves of a round; sums over it. -/
namespace FR
open PySem (Str)
def mixp (t : Rat) (p q : Pt) : Pt := (p.1 + t * (q.1 - p.1), p.2 + t * (q.2 - p.2))
theorem crs_mix {u v p q : Pt} {t : Rat} : crs u v (mixp t p q) = crs u v p + t * (crs u v q - crs u v p) := by
  unfold crs mixp
  grind
theorem crs_mix1 {o p q : Pt} {t : Rat} : crs o p (mixp t p q) = t * crs o p q := by
  unfold crs mixp
  grind
theorem crs_mix2 {o p q : Pt} {t : Rat} : crs o (mixp t p q) q = (1 - t) * crs o p q := by
  unfold crs mixp
  grind
theorem crs_swap {u v p : Pt} : crs v u p = - crs u v p := by
  unfold crs
  grind
theorem crs_anti {o p q : Pt} : crs o q p = - crs o p q := by
  unfold crs
  grind
theorem crs_self {u v : Pt} : crs u v u = 0 := by
  unfold crs
  grind
/-- whether a side goes over the line -/
def xg (a b : Rat) : Prop := (a < 0 ∧ 0 < b) ∨ (0 < a ∧ b < 0)
instance {a b : Rat} : Decidable (xg a b) := by unfold xg; infer_instance
/-- where -/
def xt (a b : Rat) : Rat := a / (a - b)
def clipE (f : Pt → Rat) (p q : Pt) : List Pt := (if xg (f p) (f q) then [mixp (xt (f p) (f q)) p q] else []) ++ (if 0 ≤ f q then [q] else [])
def clipG (f : Pt → Rat) : Pt → List Pt → List Pt
  | _, [] => []
  | p, q :: r => clipE f p q ++ clipG f q r
def clp (f : Pt → Rat) (l : List Pt) : List Pt := (prs l).flatMap fun e => clipE f e.1 e.2
theorem clipG_zip {f : Pt → Rat} : ∀ {x : Pt} {l : List Pt}, ((x :: l).dropLast.zip l).flatMap (fun e => clipE f e.1 e.2) = clipG f x l
  | x, [] => rfl
  | x, y :: r => by
    rw [List.dropLast_cons_of_ne_nil (List.cons_ne_nil y r), List.zip_cons_cons, List.flatMap_cons, clipG_zip]
    rfl
theorem clip_G {f : Pt → Rat} {l : List Pt} {z : Pt} (h : l.getLast? = some z) : clp f l = clipG f z l := by
  cases l with
  | nil => cases h
  | cons x l =>
    unfold clp prs prv
    rw [h]
    dsimp only
    rw [← clipG_zip]
    congr 2
def aff (f : Pt → Rat) : Prop := ∀ t p q, f (mixp t p q) = f p + t * (f q - f p)
theorem aff_x {f : Pt → Rat} (h : aff f) {p q : Pt} (x : xg (f p) (f q)) : f (mixp (xt (f p) (f q)) p q) = 0 := by
  rw [h]
  unfold xt
  have : f p - f q ≠ 0 := by
    unfold xg at x
    grind
  grind
/-- what is counted of a side -/
def psi (f : Pt → Rat) (G : Pt → Pt → Rat) (p q : Pt) : Rat :=
  if 0 ≤ f p then (if 0 ≤ f q then G p q else if 0 < f p then G p (mixp (xt (f p) (f q)) p q) else 0) else if 0 < f q then G (mixp (xt (f p) (f q)) p q) q else 0
theorem ch_one {G : Pt → Pt → Rat} {x : Pt} : ch G [x] = 0 := rfl
theorem ch_cc {G : Pt → Pt → Rat} {x y : Pt} {r : List Pt} : ch G (x :: y :: r) = G x y + ch G (y :: r) := rfl
theorem clip_ch {f : Pt → Rat} (ha : aff f) {G : Pt → Pt → Rat} (hG : ∀ a b, f a = 0 → f b = 0 → G a b = 0) : ∀ {l : List Pt} {p L : Pt}, (0 ≤ f p → L = p) → (f p < 0 → f L = 0) →
    ch G (L :: clipG f p l) = ch (psi f G) (p :: l) ∧ ∀ z e, (p :: l).getLast? = some z → (L :: clipG f p l).getLast? = some e → (0 ≤ f z → e = z) ∧ (f z < 0 → f e = 0)
  | [], p, L, h1, h2 => ⟨rfl, fun z e hz he => by cases hz; cases he; exact ⟨h1, h2⟩⟩
  | q :: r, p, L, h1, h2 => by
    rw [ch_cc]
    have lst : ∀ {z : Pt}, (p :: q :: r).getLast? = some z → (q :: r).getLast? = some z := fun h => by rw [List.getLast?_cons_cons] at h; exact h
    have lc : ∀ {M : Pt} {t : List Pt}, (L :: M :: t).getLast? = (M :: t).getLast? := List.getLast?_cons_cons ..
    show ch G (L :: (clipE f p q ++ clipG f q r)) = _ ∧ ∀ z e, _ → (L :: (clipE f p q ++ clipG f q r)).getLast? = some e → _
    by_cases p0 : 0 ≤ f p
    · have := h1 p0
      subst this
      by_cases q0 : 0 ≤ f q
      · have hx : ¬ xg (f L) (f q) := by unfold xg; grind
        obtain ⟨i1, i2⟩ := clip_ch ha hG (l := r) (p := q) (L := q) (fun _ => rfl) (fun h => by grind)
        have ee : clipE f L q = [q] := by unfold clipE; rw [if_neg hx, if_pos q0]; rfl
        have ep : psi f G L q = G L q := by unfold psi; rw [if_pos p0, if_pos q0]
        rw [ee, List.singleton_append, ch_cc, i1, ep]
        refine ⟨rfl, fun z e hz he => i2 z e (lst hz) ?_⟩
        rw [lc] at he
        exact he
      · have q1 : f q < 0 := by grind
        by_cases p1 : 0 < f L
        · have hx : xg (f L) (f q) := .inr ⟨p1, q1⟩
          have hm := aff_x ha hx
          obtain ⟨i1, i2⟩ := clip_ch ha hG (l := r) (p := q) (L := mixp (xt (f L) (f q)) L q) (fun h => absurd h q0) (fun _ => hm)
          have ee : clipE f L q = [mixp (xt (f L) (f q)) L q] := by unfold clipE; rw [if_pos hx, if_neg q0]; rfl
          have ep : psi f G L q = G L (mixp (xt (f L) (f q)) L q) := by unfold psi; rw [if_pos p0, if_neg q0, if_pos p1]
          rw [ee, List.singleton_append, ch_cc, i1, ep]
          refine ⟨rfl, fun z e hz he => i2 z e (lst hz) ?_⟩
          rw [lc] at he
          exact he
        · have p2 : f L = 0 := by grind
          have hx : ¬ xg (f L) (f q) := by unfold xg; grind
          obtain ⟨i1, i2⟩ := clip_ch ha hG (l := r) (p := q) (L := L) (fun h => absurd h q0) (fun _ => p2)
          have ee : clipE f L q = [] := by unfold clipE; rw [if_neg hx, if_neg q0]; rfl
          have ep : psi f G L q = 0 := by unfold psi; rw [if_pos p0, if_neg q0, if_neg p1]
          rw [ee, List.nil_append, i1, ep, Rat.zero_add]
          exact ⟨rfl, fun z e hz he => i2 z e (lst hz) he⟩
    · have p1 : f p < 0 := by grind
      have l0 := h2 p1
      by_cases q0 : 0 < f q
      · have q1 : 0 ≤ f q := by grind
        have hx : xg (f p) (f q) := .inl ⟨p1, q0⟩
        have hm := aff_x ha hx
        obtain ⟨i1, i2⟩ := clip_ch ha hG (l := r) (p := q) (L := q) (fun _ => rfl) (fun h => by grind)
        have ee : clipE f p q = [mixp (xt (f p) (f q)) p q, q] := by unfold clipE; rw [if_pos hx, if_pos q1]; rfl
        have ep : psi f G p q = G (mixp (xt (f p) (f q)) p q) q := by unfold psi; rw [if_neg p0, if_pos q0]
        rw [ee, List.cons_append, List.singleton_append, ch_cc, ch_cc, i1, ep, hG _ _ l0 hm, Rat.zero_add]
        refine ⟨rfl, fun z e hz he => i2 z e (lst hz) ?_⟩
        rw [lc, List.getLast?_cons_cons] at he
        exact he
      · by_cases q1 : 0 ≤ f q
        · have q2 : f q = 0 := by grind
          have hx : ¬ xg (f p) (f q) := by unfold xg; grind
          obtain ⟨i1, i2⟩ := clip_ch ha hG (l := r) (p := q) (L := q) (fun _ => rfl) (fun h => by grind)
          have ee : clipE f p q = [q] := by unfold clipE; rw [if_neg hx, if_pos q1]; rfl
          have ep : psi f G p q = 0 := by unfold psi; rw [if_neg p0, if_neg q0]
          rw [ee, List.singleton_append, ch_cc, i1, ep, hG _ _ l0 q2]
          refine ⟨rfl, fun z e hz he => i2 z e (lst hz) ?_⟩
          rw [lc] at he
          exact he
        · have hx : ¬ xg (f p) (f q) := by unfold xg; grind
          obtain ⟨i1, i2⟩ := clip_ch ha hG (l := r) (p := q) (L := L) (fun h => absurd h q1) (fun _ => l0)
          have ee : clipE f p q = [] := by unfold clipE; rw [if_neg hx, if_neg q1]; rfl
          have ep : psi f G p q = 0 := by unfold psi; rw [if_neg p0, if_neg q0]
          rw [ee, List.nil_append, i1, ep, Rat.zero_add]
          exact ⟨rfl, fun z e hz he => i2 z e (lst hz) he⟩
theorem clip_cyc {f : Pt → Rat} (ha : aff f) {o : Pt} (ho : f o = 0) {G : Pt → Pt → Rat} (hG : ∀ a b, f a = 0 → f b = 0 → G a b = 0) {l : List Pt} : cyc G (clp f l) = cyc (psi f G) l := by
  cases hz : l.getLast? with
  | none =>
    rw [List.getLast?_eq_none_iff] at hz
    subst hz
    rfl
  | some z =>
    rw [clip_G hz]
    have hl : (z :: l).getLast? = some z := by
      cases l with
      | nil => cases hz
      | cons x l =>
        rw [List.getLast?_cons_cons]
        exact hz
    obtain ⟨L0, a1, a2⟩ : ∃ L0, (0 ≤ f z → L0 = z) ∧ (f z < 0 → f L0 = 0) := by
      by_cases h : 0 ≤ f z
      · exact ⟨z, fun _ => rfl, fun h2 => by grind⟩
      · exact ⟨o, fun h2 => absurd h2 h, fun _ => ho⟩
    have e0 : cyc (psi f G) l = ch (psi f G) (z :: l) := by
      unfold cyc
      rw [hz]
    rw [e0]
    obtain ⟨b1, b2⟩ := clip_ch ha hG (l := l) (p := z) (L := L0) a1 a2
    cases hc : clipG f z l with
    | nil =>
      rw [hc] at b1
      rw [← b1]
      rfl
    | cons x r =>
      rw [hc] at b2
      obtain ⟨e, he⟩ : ∃ e, (x :: r).getLast? = some e := ⟨_, List.getLast?_eq_some_getLast (List.cons_ne_nil x r)⟩
      obtain ⟨c1, c2⟩ := b2 z e hl (by rw [List.getLast?_cons_cons]; exact he)
      obtain ⟨d1, _⟩ := clip_ch ha hG (l := l) (p := z) (L := e) c1 c2
      rw [hc] at d1
      rw [← d1]
      unfold cyc
      rw [he]
/-! ### areas left of a line -/
def lam (a b : Rat) : Rat := if 0 ≤ a then (if 0 ≤ b then 1 else if 0 < a then a / (a - b) else 0) else if 0 < b then b / (b - a) else 0
theorem psi_crs {f : Pt → Rat} {o p q : Pt} : psi f (crs o) p q = lam (f p) (f q) * crs o p q := by
  unfold psi lam
  split
  · split
    · grind
    · split
      · rw [crs_mix1]
        rfl
      · grind
  · split
    · rw [crs_mix2]
      unfold xt
      have : f p - f q ≠ 0 := by grind
      have : f q - f p ≠ 0 := by grind
      grind
    · grind
theorem lam_comm {a b : Rat} : lam a b = lam b a := by
  unfold lam
  grind
theorem lam_neg {a b : Rat} (h : ¬ (a = 0 ∧ b = 0)) : lam a b + lam (-a) (-b) = 1 := by
  unfold lam
  by_cases h1 : a - b = 0
  · grind
  · have h2 : b - a ≠ 0 := by grind
    grind
theorem lam_scale {a b c : Rat} (h : 0 < c) : lam (c * a) (c * b) = lam a b := by
  have pa : 0 ≤ c * a ↔ 0 ≤ a := by
    constructor
    · intro h1
      by_cases h2 : 0 ≤ a
      · exact h2
      · have : 0 < c * -a := Rat.mul_pos h (by grind)
        grind
    · intro h1
      exact Rat.mul_nonneg (by grind) h1
  have pb : 0 ≤ c * b ↔ 0 ≤ b := by
    constructor
    · intro h1
      by_cases h2 : 0 ≤ b
      · exact h2
      · have : 0 < c * -b := Rat.mul_pos h (by grind)
        grind
    · intro h1
      exact Rat.mul_nonneg (by grind) h1
  have qa : 0 < c * a ↔ 0 < a := by
    constructor
    · intro h1
      by_cases h2 : 0 < a
      · exact h2
      · have : 0 ≤ c * -a := Rat.mul_nonneg (by grind) (by grind)
        grind
    · exact fun h1 => Rat.mul_pos h h1
  have qb : 0 < c * b ↔ 0 < b := by
    constructor
    · intro h1
      by_cases h2 : 0 < b
      · exact h2
      · have : 0 ≤ c * -b := Rat.mul_nonneg (by grind) (by grind)
        grind
    · exact fun h1 => Rat.mul_pos h h1
  unfold lam
  simp only [pa, pb, qa, qb]
  have c0 : c ≠ 0 := by grind
  by_cases h1 : a - b = 0
  · have : b - a = 0 := by grind
    grind
  · have h2 : b - a ≠ 0 := by grind
    have e1 : c * a / (c * a - c * b) = a / (a - b) := by
      rw [show c * a - c * b = c * (a - b) by grind]
      have : c * (a - b) ≠ 0 := by grind
      grind
    have e2 : c * b / (c * b - c * a) = b / (b - a) := by
      rw [show c * b - c * a = c * (b - a) by grind]
      have : c * (b - a) ≠ 0 := by grind
      grind
    rw [e1, e2]
theorem crs_aff {u v : Pt} : aff (crs u v) := fun t p q => crs_mix
theorem crs_col {u v a b : Pt} (h : u ≠ v) (ha : crs u v a = 0) (hb : crs u v b = 0) : crs u a b = 0 := by
  unfold crs at *
  by_cases h1 : v.1 - u.1 = 0
  · have h2 : v.2 - u.2 ≠ 0 := fun h2 => h (Prod.ext (by grind) (by grind))
    grind
  · grind
/-- twice the area left of u v -/
def lar (u v : Pt) (l : List Pt) : Rat := dar (clp (crs u v) l)
theorem lar_sum {u v : Pt} (h : u ≠ v) {l : List Pt} : lar u v l = cyc (fun p q => lam (crs u v p) (crs u v q) * crs u p q) l := by
  unfold lar
  rw [← cyc_crs (o := u), clip_cyc crs_aff crs_self fun a b ha hb => crs_col h ha hb]
  exact cyc_congr fun a b => psi_crs
theorem lar_both {u v : Pt} (h : u ≠ v) {l : List Pt} : lar u v l + lar v u l = dar l := by
  have e1 := lar_sum h (l := l)
  have e2 : lar v u l = cyc (fun p q => lam (crs v u p) (crs v u q) * crs u p q) l := by
    unfold lar
    rw [← cyc_crs (o := u), clip_cyc (o := v) crs_aff crs_self fun a b ha hb => crs_col h (by rw [crs_swap, ha]; rfl) (by rw [crs_swap, hb]; rfl)]
    exact cyc_congr fun a b => psi_crs
  rw [e1, e2, ← cyc_crs (o := u)]
  have := cyc_lin (f := fun p q => lam (crs u v p) (crs u v q) * crs u p q) (g := fun p q => lam (crs v u p) (crs v u q) * crs u p q) (c := 1) (l := l)
  rw [Rat.one_mul] at this
  rw [← this]
  refine cyc_congr fun a b => ?_
  rw [Rat.one_mul, crs_swap (u := u) (v := v) (p := a), crs_swap (u := u) (v := v) (p := b)]
  by_cases hz : crs u v a = 0 ∧ crs u v b = 0
  · rw [crs_col h hz.1 hz.2]
    grind
  · have := lam_neg hz
    grind
theorem lar_rev {u v : Pt} (h : u ≠ v) {l : List Pt} : lar u v l.reverse = - lar u v l := by
  rw [lar_sum h, lar_sum h, cyc_rev, cyc_congr (g := fun a b => (-1) * (lam (crs u v a) (crs u v b) * crs u a b)) fun a b => by
    rw [lam_comm (a := crs u v b), crs_anti (o := u) (p := a) (q := b)]
    grind, cyc_scale]
  grind
/-- the line told by another point ahead -/
theorem lar_along {u v w : Pt} {c : Rat} (h : u ≠ v) (h2 : u ≠ w) (hc : 0 < c) (e : ∀ p, crs u w p = c * crs u v p) {l : List Pt} : lar u w l = lar u v l := by
  rw [lar_sum h, lar_sum h2]
  exact cyc_congr fun a b => by rw [e, e, lam_scale hc]
theorem clip_map {f f' : Pt → Rat} {g : Pt → Pt} (h1 : ∀ p, f' (g p) = f p) (h2 : ∀ t p q, mixp t (g p) (g q) = g (mixp t p q)) {l : List Pt} : clp f' (l.map g) = (clp f l).map g := by
  have key : ∀ {l : List Pt} {p : Pt}, clipG f' (g p) (l.map g) = (clipG f p l).map g := by
    intro l
    induction l with
    | nil => intro p; rfl
    | cons q r ih =>
      intro p
      rw [List.map_cons]
      show clipE f' (g p) (g q) ++ clipG f' (g q) (r.map g) = (clipE f p q ++ clipG f q r).map g
      rw [ih, List.map_append]
      congr 1
      unfold clipE
      rw [h1, h1, h2, List.map_append]
      congr 1
      · split <;> rfl
      · split <;> rfl
  cases hz : l.getLast? with
  | none =>
    rw [List.getLast?_eq_none_iff] at hz
    subst hz
    rfl
  | some z => rw [clip_G hz, clip_G (z := g z) (by rw [List.getLast?_map, hz]; rfl), key]
theorem clip_all {f : Pt → Rat} {l : List Pt} (h : ∀ p ∈ l, 0 ≤ f p) : clp f l = l := by
  have key : ∀ {l : List Pt} {p : Pt}, 0 ≤ f p → (∀ q ∈ l, 0 ≤ f q) → clipG f p l = l := by
    intro l
    induction l with
    | nil => intro p _ _; rfl
    | cons q r ih =>
      intro p hp hl
      have hq := hl q List.mem_cons_self
      show clipE f p q ++ clipG f q r = _
      rw [ih hq fun x hx => hl x (List.mem_cons_of_mem _ hx)]
      unfold clipE
      rw [if_neg (by unfold xg; grind), if_pos hq]
      rfl
  cases hz : l.getLast? with
  | none =>
    rw [List.getLast?_eq_none_iff] at hz
    subst hz
    rfl
  | some z => rw [clip_G hz, key (h z (List.mem_of_getLast? hz)) h]
theorem clip_none {f : Pt → Rat} {l : List Pt} (h : ∀ p ∈ l, f p < 0) : clp f l = [] := by
  unfold clp
  rw [List.flatMap_eq_nil_iff]
  intro e he
  obtain ⟨h1, h2⟩ := prs_mem (a := e.1) (b := e.2) he
  have a1 := h _ h1
  have a2 := h _ h2
  unfold clipE
  rw [if_neg (by unfold xg; grind), if_neg (by grind)]
  rfl
theorem lam_pn {x y : Rat} (h : 0 < x) (k : y ≤ 0) : lam x y = x / (x - y) := by
  unfold lam
  rw [if_pos (by grind)]
  by_cases hy : 0 ≤ y
  · have : y = 0 := by grind
    subst this
    rw [if_pos hy]
    grind
  · rw [if_neg hy, if_pos h]
theorem lam_in1 {x y t : Rat} (hx : 0 < x) (hy : y ≤ 0) (ht : 0 < t) (hm : x + t * (y - x) ≤ 0) : lam x (x + t * (y - x)) * t = lam x y := by
  rw [lam_pn hx hm, lam_pn hx hy, show x - (x + t * (y - x)) = t * (x - y) by grind]
  have h1 : x - y ≠ 0 := by grind
  have h2 : t * (x - y) ≠ 0 := by grind
  grind
theorem lam_in2 {x y t : Rat} (hx : x ≤ 0) (hy : 0 < y) (ht : 0 < 1 - t) (hm : x + t * (y - x) ≤ 0) : lam (x + t * (y - x)) y * (1 - t) = lam x y := by
  rw [lam_comm, lam_pn hy hm, lam_comm, lam_pn hy hx, show y - (x + t * (y - x)) = (1 - t) * (y - x) by grind]
  have h1 : y - x ≠ 0 := by grind
  have h2 : (1 - t) * (y - x) ≠ 0 := by grind
  grind
/-- beyond a higher line nothing is lost by a lower one -/
theorem lar_twice {u v w z : Pt} (huv : u ≠ v) (hwz : w ≠ z) (hle : ∀ p, crs u v p ≤ 0 → crs w z p ≤ 0) {l : List Pt} : lar w z (clp (crs u v) l) = lar w z l := by
  rw [lar_sum hwz, lar_sum hwz]
  have ps : ∀ {a b : Pt}, lam (crs w z a) (crs w z b) * crs w a b = psi (crs w z) (crs w) a b := psi_crs.symm
  rw [clip_cyc crs_aff crs_self (G := fun p q => lam (crs w z p) (crs w z q) * crs w p q) fun a b ha hb => ?_]
  · refine cyc_congr fun a b => ?_
    generalize hA : crs u v a = A
    generalize hB : crs u v b = B
    have nA : A ≤ 0 → crs w z a ≤ 0 := fun h => hle a (by rw [hA]; exact h)
    have nB : B ≤ 0 → crs w z b ≤ 0 := fun h => hle b (by rw [hB]; exact h)
    unfold psi
    rw [hA, hB]
    dsimp only
    have mz : A - B ≠ 0 → crs u v (mixp (xt A B) a b) ≤ 0 := fun h => by
      rw [crs_mix, hA, hB]
      unfold xt
      have : A + A / (A - B) * (B - A) = 0 := by grind
      rw [this]
      exact Rat.le_refl
    have lz : ∀ {x y : Rat}, x ≤ 0 → y ≤ 0 → (x < 0 ∨ y < 0) → lam x y = 0 := fun h1 h2 h3 => by unfold lam; grind
    have zz : ∀ {x y : Pt}, crs w z x ≤ 0 → crs w z y ≤ 0 → lam (crs w z x) (crs w z y) * crs w x y = 0 := fun {x y} h1 h2 => by
      by_cases h3 : crs w z x < 0 ∨ crs w z y < 0
      · rw [lz h1 h2 h3, Rat.zero_mul]
      · have e1 : crs w z x = 0 := by grind
        have e2 : crs w z y = 0 := by grind
        rw [crs_col hwz e1 e2, Rat.mul_zero]
    by_cases a0 : 0 ≤ A
    · rw [if_pos a0]
      by_cases b0 : 0 ≤ B
      · rw [if_pos b0]
      · rw [if_neg b0]
        have hb := nB (by grind)
        by_cases a1 : 0 < A
        · rw [if_pos a1]
          have hm : crs w z (mixp (xt A B) a b) ≤ 0 := hle _ (mz (by grind))
          by_cases c : 0 < crs w z a
          · have t0 : 0 < xt A B := by
              unfold xt
              rw [Rat.div_def]
              exact Rat.mul_pos a1 (Rat.inv_pos.mpr (by grind))
            have tl : 0 < 1 - xt A B := by
              have e : 1 - xt A B = (-B) * (A - B)⁻¹ := by
                unfold xt
                have : A - B ≠ 0 := by grind
                grind
              rw [e]
              exact Rat.mul_pos (by grind) (Rat.inv_pos.mpr (by grind))
            rw [crs_mix1, crs_mix]
            rw [crs_mix] at hm
            rw [← lam_in1 (t := xt A B) c hb t0 hm]
            grind
          · rw [zz (Rat.not_lt.mp c) hm, zz (Rat.not_lt.mp c) hb]
        · rw [if_neg a1]
          have := nA (by grind)
          rw [zz this hb]
    · rw [if_neg a0]
      have ha := nA (by grind)
      by_cases b1 : 0 < B
      · rw [if_pos b1]
        have hm : crs w z (mixp (xt A B) a b) ≤ 0 := hle _ (mz (by grind))
        by_cases c : 0 < crs w z b
        · have t1 : 0 < 1 - xt A B := by
            have e : 1 - xt A B = B * (B - A)⁻¹ := by
              unfold xt
              have : A - B ≠ 0 := by grind
              have : B - A ≠ 0 := by grind
              grind
            rw [e]
            exact Rat.mul_pos b1 (Rat.inv_pos.mpr (by grind))
          have t0 : 0 < xt A B := by
            have e : xt A B = (-A) * (B - A)⁻¹ := by
              unfold xt
              have : A - B ≠ 0 := by grind
              have : B - A ≠ 0 := by grind
              grind
            rw [e]
            exact Rat.mul_pos (by grind) (Rat.inv_pos.mpr (by grind))
          rw [crs_mix2, crs_mix]
          rw [crs_mix] at hm
          rw [← lam_in2 (t := xt A B) ha c t1 hm]
          grind
        · rw [zz hm (Rat.not_lt.mp c), zz ha (Rat.not_lt.mp c)]
      · rw [if_neg b1]
        rw [zz ha (nB (by grind))]
  · have h1 := hle a (by grind)
    have h2 := hle b (by grind)
    by_cases h3 : crs w z a < 0 ∨ crs w z b < 0
    · have : lam (crs w z a) (crs w z b) = 0 := by unfold lam; grind
      rw [this, Rat.zero_mul]
    · have e1 : crs w z a = 0 := by grind
      have e2 : crs w z b = 0 := by grind
      rw [crs_col hwz e1 e2, Rat.mul_zero]
end FR
/-! FrGr: fractions of a common denominator, bounded; what lines leave, walked. -/
namespace FR
open PySem (Str)
def dv (C : Nat) (q : Rat) : Prop := ∃ k : Int, q * (C : Rat) = (k : Rat)
def bd (B : Nat) (q : Rat) : Prop := -(B : Rat) ≤ q ∧ q ≤ (B : Rat)
def gr (C B : Nat) (q : Rat) : Prop := dv C q ∧ bd B q
theorem dv_add {C : Nat} {p q : Rat} (h : dv C p) (k : dv C q) : dv C (p + q) := by
  obtain ⟨i, hi⟩ := h
  obtain ⟨j, hj⟩ := k
  exact ⟨i + j, by rw [Rat.add_mul, hi, hj, Rat.intCast_add]⟩
theorem dv_neg {C : Nat} {p : Rat} (h : dv C p) : dv C (-p) := by
  obtain ⟨i, hi⟩ := h
  exact ⟨-i, by rw [Rat.neg_mul, hi, Rat.intCast_neg]⟩
theorem dv_sub {C : Nat} {p q : Rat} (h : dv C p) (k : dv C q) : dv C (p - q) := by
  rw [Rat.sub_eq_add_neg]
  exact dv_add h (dv_neg k)
theorem dv_mul {C D : Nat} {p q : Rat} (h : dv C p) (k : dv D q) : dv (C * D) (p * q) := by
  obtain ⟨i, hi⟩ := h
  obtain ⟨j, hj⟩ := k
  refine ⟨i * j, ?_⟩
  rw [Rat.intCast_mul, ← hi, ← hj, Rat.natCast_mul]
  grind
theorem q_den (q : Rat) : q * (q.den : Rat) = (q.num : Rat) := by
  have h : (q.den : Rat) ≠ 0 := fun e => by
    have := Rat.natCast_eq_zero_iff.mp e
    have := q.den_pos
    omega
  have e := Rat.num_divInt_den q
  rw [Rat.divInt_eq_div] at e
  have e2 : ((q.den : Int) : Rat) = (q.den : Rat) := rfl
  rw [e2] at e
  generalize (q.den : Rat) = d at *
  generalize (q.num : Rat) = n at *
  rw [← e]
  grind
theorem dv_mono {C D : Nat} {q : Rat} (h : dv C q) (k : C ∣ D) : dv D q := by
  obtain ⟨i, hi⟩ := h
  obtain ⟨m, rfl⟩ := k
  refine ⟨i * m, ?_⟩
  have e2 : ((m : Int) : Rat) = (m : Rat) := rfl
  rw [Rat.intCast_mul, ← hi, Rat.natCast_mul, e2, Rat.mul_assoc]
theorem dv_den {q : Rat} : dv q.den q := ⟨q.num, q_den q⟩
theorem dv_eq {C : Nat} {q : Rat} (h : dv C q) (h0 : 0 < C) : ∃ k : Int, q = Rat.divInt k C ∧ q * (C : Rat) = (k : Rat) := by
  obtain ⟨k, hk⟩ := h
  refine ⟨k, ?_, hk⟩
  have : (C : Rat) ≠ 0 := by
    intro e
    have := Rat.natCast_eq_zero_iff.mp e
    omega
  rw [Rat.divInt_eq_div, ← hk]
  have e2 : ((C : Int) : Rat) = (C : Rat) := rfl
  rw [e2]
  grind
theorem bd_add {B D : Nat} {p q : Rat} (h : bd B p) (k : bd D q) : bd (B + D) (p + q) := by
  unfold bd at *
  rw [Rat.natCast_add]
  grind
theorem bd_neg {B : Nat} {p : Rat} (h : bd B p) : bd B (-p) := by
  unfold bd at *
  grind
theorem bd_sub {B D : Nat} {p q : Rat} (h : bd B p) (k : bd D q) : bd (B + D) (p - q) := by
  rw [Rat.sub_eq_add_neg]
  exact bd_add h (bd_neg k)
theorem bd_mul {B D : Nat} {p q : Rat} (h : bd B p) (k : bd D q) : bd (B * D) (p * q) := by
  unfold bd at *
  rw [Rat.natCast_mul]
  have a1 := Rat.mul_nonneg (a := B - p) (b := D + q) (by grind) (by grind)
  have a2 := Rat.mul_nonneg (a := B + p) (b := D - q) (by grind) (by grind)
  have a3 := Rat.mul_nonneg (a := B - p) (b := D - q) (by grind) (by grind)
  have a4 := Rat.mul_nonneg (a := B + p) (b := D + q) (by grind) (by grind)
  grind
theorem bd_mono {B D : Nat} {p : Rat} (h : bd B p) (k : B ≤ D) : bd D p := by
  unfold bd at *
  have : (B : Rat) ≤ (D : Rat) := Rat.natCast_le_natCast.mpr k
  grind
theorem gr_add {C B D : Nat} {p q : Rat} (h : gr C B p) (k : gr C D q) : gr C (B + D) (p + q) := ⟨dv_add h.1 k.1, bd_add h.2 k.2⟩
theorem gr_sub {C B D : Nat} {p q : Rat} (h : gr C B p) (k : gr C D q) : gr C (B + D) (p - q) := ⟨dv_sub h.1 k.1, bd_sub h.2 k.2⟩
theorem gr_neg {C B : Nat} {p : Rat} (h : gr C B p) : gr C B (-p) := ⟨dv_neg h.1, bd_neg h.2⟩
theorem gr_mul {C B E D : Nat} {p q : Rat} (h : gr C B p) (k : gr E D q) : gr (C * E) (B * D) (p * q) := ⟨dv_mul h.1 k.1, bd_mul h.2 k.2⟩
theorem gr.mono {C B E D : Nat} {q : Rat} (h : gr C B q) (k : C ∣ E) (l : B ≤ D) : gr E D q := ⟨dv_mono h.1 k, bd_mono h.2 l⟩
theorem gr.sz {C B c n : Nat} {q : Rat} (h : gr C B q) (h0 : 0 < C) (hc : C < 2 ^ c) (hn : B * C < 2 ^ n) : sz n c q := by
  obtain ⟨k, e, ek⟩ := dv_eq h.1 h0
  rw [e]
  have c0 : 0 < c := by
    rcases Nat.eq_zero_or_pos c with rfl | h
    · have : C < 1 := hc
      omega
    · exact h
  refine sz_di ?_ ?_ (by omega) c0
  · have hC : (0 : Rat) ≤ (C : Rat) := Rat.natCast_nonneg
    have b1 := Rat.mul_nonneg (a := (B : Rat) - q) (b := C) (by have := h.2.2; grind) hC
    have b2 := Rat.mul_nonneg (a := (B : Rat) + q) (b := C) (by have := h.2.1; grind) hC
    have e1 : (((B * C : Nat) : Int) : Rat) = (B : Rat) * (C : Rat) := Rat.natCast_mul ..
    have u1 : (k : Rat) ≤ (((B * C : Nat) : Int) : Rat) := by rw [e1]; grind
    have u2 : (((-((B * C : Nat) : Int)) : Int) : Rat) ≤ (k : Rat) := by rw [Rat.intCast_neg, e1]; grind
    have v1 := Rat.intCast_le_intCast.mp u1
    have v2 := Rat.intCast_le_intCast.mp u2
    unfold bt
    omega
  · unfold bt
    omega
theorem gr.fit {C B : Nat} {q : Rat} (h : gr C B q) (h0 : 0 < C) (hc : C < 2 ^ 4400) (hb : B < 2 ^ 395600) : fit q :=
  (h.sz (n := 400000) (c := 4400) h0 hc (by rw [show (400000 : Nat) = 395600 + 4400 from rfl, Nat.pow_add]; exact Nat.mul_lt_mul'' hb hc))
theorem gr_fr {n d : Nat} {q : Rat} (h : FR.sz n d q) : gr q.den (2 ^ n) q := by
  refine ⟨dv_den, ?_⟩
  have e := q_den q
  have d1 : (1 : Rat) ≤ (q.den : Rat) := by
    have := Rat.natCast_le_natCast.mpr (show 1 ≤ q.den from q.den_pos)
    exact this
  have hb := h.1
  unfold bt at hb
  have n1 : (q.num : Rat) ≤ ((2 ^ n : Nat) : Rat) := Rat.intCast_le_intCast.mpr (show q.num ≤ ((2 ^ n : Nat) : Int) by omega)
  have n2 : -((2 ^ n : Nat) : Rat) ≤ (q.num : Rat) := by
    have : (((-((2 ^ n : Nat) : Int)) : Int) : Rat) ≤ (q.num : Rat) := Rat.intCast_le_intCast.mpr (by omega)
    rw [Rat.intCast_neg] at this
    exact this
  have pos : (0 : Rat) ≤ ((2 ^ n : Nat) : Rat) := Rat.natCast_nonneg
  unfold bd
  generalize ((2 ^ n : Nat) : Rat) = N at *
  generalize (q.num : Rat) = m at *
  generalize (q.den : Rat) = d at *
  constructor
  · by_cases hq : -N ≤ q
    · exact hq
    · exfalso
      have : 0 ≤ (d - 1) * (-N - q) := Rat.mul_nonneg (by grind) (by grind)
      have : 0 ≤ (d - 1) * N := Rat.mul_nonneg (by grind) pos
      grind
  · by_cases hq : q ≤ N
    · exact hq
    · exfalso
      have : 0 ≤ (d - 1) * (q - N) := Rat.mul_nonneg (by grind) (by grind)
      have : 0 ≤ (d - 1) * N := Rat.mul_nonneg (by grind) pos
      grind
/-- a quotient of two of one denominator -/
theorem div_den {C B : Nat} {p q : Rat} (h : dv C p) (k : gr C B q) (h0 : 0 < C) (hq : q ≠ 0) : ∃ T : Nat, 0 < T ∧ T ≤ B * C ∧ dv T (p / q) := by
  obtain ⟨i, hi⟩ := h
  obtain ⟨⟨j, hj⟩, b1, b2⟩ := k
  have hC : (C : Rat) ≠ 0 := fun e => by
    have := Rat.natCast_eq_zero_iff.mp e
    omega
  have j0 : j ≠ 0 := by
    rintro rfl
    have : q * (C : Rat) = 0 := hj
    grind
  have hCn : (0 : Rat) ≤ (C : Rat) := Rat.natCast_nonneg
  have a1 := Rat.mul_nonneg (a := (B : Rat) - q) (b := C) (by grind) hCn
  have a2 := Rat.mul_nonneg (a := (B : Rat) + q) (b := C) (by grind) hCn
  have e1 : (((B * C : Nat) : Int) : Rat) = (B : Rat) * (C : Rat) := Rat.natCast_mul ..
  have v1 : j ≤ ((B * C : Nat) : Int) := Rat.intCast_le_intCast.mp (by rw [e1]; grind)
  have v2 : -((B * C : Nat) : Int) ≤ j := Rat.intCast_le_intCast.mp (by rw [Rat.intCast_neg, e1]; grind)
  refine ⟨j.natAbs, by omega, by omega, ?_⟩
  have ej : (q * (C : Rat)) ≠ 0 := by grind
  have key : p / q * (j : Rat) = (i : Rat) := by
    rw [← hj, ← hi]
    grind
  have en : ((j.natAbs : Nat) : Rat) = ((j.natAbs : Int) : Rat) := rfl
  rw [dv, en]
  rcases Int.natAbs_eq j with e | e
  · exact ⟨i, by rw [← e]; exact key⟩
  · refine ⟨-i, ?_⟩
    have : (j.natAbs : Int) = -j := by omega
    rw [this, Rat.intCast_neg, Rat.intCast_neg, ← key]
    grind
def grp (C B : Nat) (p : Pt) : Prop := gr C B p.1 ∧ gr C B p.2
theorem grp.mono {C B E D : Nat} {p : Pt} (h : grp C B p) (k : C ∣ E) (l : B ≤ D) : grp E D p := ⟨h.1.mono k l, h.2.mono k l⟩
theorem xf_gr {C B : Nat} {a b : Pt} (ha : grp C B a) (hb : grp C B b) : gr (C * C) (2 * (B * B)) (xf a b) := by
  unfold xf
  exact (gr_sub (gr_mul ha.1 hb.2) (gr_mul hb.1 ha.2)).mono (Nat.dvd_refl _) (by omega)
theorem crs_gr {C B : Nat} {o a b : Pt} (ho : grp C B o) (ha : grp C B a) (hb : grp C B b) : gr (C * C) (8 * (B * B)) (crs o a b) := by
  unfold crs
  have h := gr_sub (gr_mul (gr_sub ha.1 ho.1) (gr_sub hb.2 ho.2)) (gr_mul (gr_sub ha.2 ho.2) (gr_sub hb.1 ho.1))
  refine h.mono (Nat.dvd_refl _) ?_
  have : (B + B) * (B + B) = 4 * (B * B) := by grind
  omega
theorem sum_gr {C B : Nat} : ∀ {qs : List Rat}, (∀ q ∈ qs, gr C B q) → gr C (B * qs.length) qs.sum
  | [], _ => ⟨⟨0, by simp⟩, by unfold bd; simp⟩
  | q :: qs, h => by
    rw [List.sum_cons, List.length_cons]
    have := gr_add (h q List.mem_cons_self) (sum_gr (qs := qs) fun x hx => h x (List.mem_cons_of_mem _ hx))
    exact this.mono (Nat.dvd_refl _) (by rw [Nat.mul_add]; omega)
theorem dar_gr {C B : Nat} {l : List Pt} (hp : ∀ p ∈ l, grp C B p) : gr (C * C) (2 * (B * B) * l.length) (dar l) := by
  have h := sum_gr (C := C * C) (B := 2 * (B * B)) (qs := (prs l).map fun p => xf p.1 p.2) fun q hq => by
    obtain ⟨⟨a, b⟩, hm, rfl⟩ := List.mem_map.mp hq
    obtain ⟨ha, hb⟩ := prs_mem hm
    exact xf_gr (hp a ha) (hp b hb)
  rw [cyc_prs, List.length_map, prs_len] at h
  exact h
/-- C small enough to reckon with -/
structure Fine (C B : Nat) : Prop where
  pos : 0 < C
  c : C < 2 ^ 2190
  b : B < 2 ^ 1000
theorem Fine.fit {C B : Nat} (f : Fine C B) {q : Rat} (h : gr C B q) : fit q := h.fit f.pos (Nat.lt_of_lt_of_le f.c (Nat.pow_le_pow_right (by decide) (by decide))) (Nat.lt_of_lt_of_le f.b (Nat.pow_le_pow_right (by decide) (by decide)))
theorem Fine.sq {C B : Nat} (f : Fine C B) : 0 < C * C ∧ C * C < 2 ^ 4400 := by
  refine ⟨Nat.mul_pos f.pos f.pos, Nat.lt_of_lt_of_le (Nat.mul_lt_mul'' f.c f.c) ?_⟩
  rw [← Nat.pow_add]
  exact Nat.pow_le_pow_right (by decide) (by decide)
theorem Fine.b2 {C B : Nat} (f : Fine C B) : B * B < 2 ^ 2000 := by
  have := Nat.mul_lt_mul'' f.b f.b
  rw [← Nat.pow_add] at this
  exact this
/-- up to a thousand squares together -/
theorem Fine.fit2 {C B m : Nat} (f : Fine C B) (hm : m ≤ 2 ^ 100) {q : Rat} (h : gr (C * C) (m * (B * B)) q) : FR.fit q := by
  refine h.fit f.sq.1 f.sq.2 (Nat.lt_of_le_of_lt (Nat.mul_le_mul hm (Nat.le_of_lt f.b2)) ?_)
  rw [← Nat.pow_add]
  exact Nat.pow_lt_pow_right (by decide) (by decide)
theorem Fine.num2 {C B m : Nat} (f : Fine C B) (hm : m ≤ 2 ^ 4) (hB : B < 2 ^ 5) (hC : C < 2 ^ 1000) {q : Rat} (h : gr (C * C) (m * (B * B)) q) : bt q.num 4400 := by
  have := h.sz (n := 4400) (c := 4400) f.sq.1 f.sq.2 ?_
  · exact this.1
  · have h1 : m * (B * B) < 2 ^ 15 := by
      have : B * B ≤ 31 * 31 := Nat.mul_le_mul (by omega) (by omega)
      have : m * (B * B) ≤ 16 * (31 * 31) := Nat.mul_le_mul hm this
      omega
    have h2 : C * C < 2 ^ 2000 := by
      have := Nat.mul_lt_mul'' hC hC
      rw [← Nat.pow_add] at this
      exact this
    have := Nat.mul_lt_mul'' h1 h2
    rw [← Nat.pow_add] at this
    exact Nat.lt_of_lt_of_le this (Nat.pow_le_pow_right (by decide) (by decide))
section
variable {tb : Tb} [Has tb 1 cb_divisor 2 2] [Has tb 2 cb_least 3 2] [Has tb 32 cb_plus 2 2] [Has tb 45 cb_minus 2 2] [Has tb 46 cb_times 2 2]
theorem dar_eq2 [Has tb 50 cb_double_area 5 1] {k C B : Nat} {l : List Pt} {s : S} (f : Fine C B) (hl : l.length ≤ 1000) (hc : ∀ p ∈ l, grp C B p) : sem tb (k + 4) 50 [.lst (l.map ptD)] s = some (.ok (frD (dar l)), s) := by
  have hs : ∀ i, fit (((prs l).map fun p => xf p.1 p.2).take i).sum := fun i => by
    have h := sum_gr (C := C * C) (B := 2 * (B * B)) (qs := ((prs l).map fun p => xf p.1 p.2).take i) fun q hq => by
      obtain ⟨⟨a, b⟩, hm, rfl⟩ := List.mem_map.mp (List.mem_of_mem_take hq)
      obtain ⟨ha, hb⟩ := prs_mem hm
      exact xf_gr (hc a ha) (hc b hb)
    refine f.fit2 (m := 2000) (by decide) (h.mono (Nat.dvd_refl _) ?_)
    rw [List.length_take, List.length_map, prs_len]
    have : min i l.length ≤ 1000 := by omega
    have := Nat.mul_le_mul_left (2 * (B * B)) this
    omega
  have w : W (sem tb (k + 4) 50 [.lst (l.map ptD)] s) fun v s' => v = frD (dar l) ∧ s' = s := by
    rw [sem_of rfl, W_run]
    simp only [cb_double_area, startG]
    have r0 : rngD (.int 0) (.int l.length) = some (rangeD 0 l.length) := rng_ok (by decide) (by unfold SZ; omega)
    simp [r0]
    refine W_range (I := fun i g s' => ∃ x y z, s' = s ∧ g = [.dat (.lst (l.map ptD)), .dat (frD (((prs l).map fun p => xf p.1 p.2).take i).sum), x, y, z]) ⟨.un, .un, .un, rfl, by simp [frD]⟩ ?_ ?_
    · rintro i g s' hi ⟨x, y, z, rfl, rfl⟩
      have hil : i < (prs l).length := by rw [prs_len]; omega
      obtain ⟨⟨a, b⟩, hg⟩ : ∃ p, (prs l)[i]? = some p := ⟨_, List.getElem?_eq_getElem hil⟩
      obtain ⟨g1, g2⟩ := prs_get hg
      obtain ⟨ha, hb⟩ := prs_mem (List.mem_of_getElem? hg)
      have ca := hc a ha
      have cb := hc b hb
      have f1 : fit (a.1 * b.2) := f.fit2 (m := 1) (by decide) ((gr_mul ca.1 cb.2).mono (Nat.dvd_refl _) (by omega))
      have f2 : fit (b.1 * a.2) := f.fit2 (m := 1) (by decide) ((gr_mul cb.1 ca.2).mono (Nat.dvd_refl _) (by omega))
      have f3 := f.fit2 (m := 2) (by decide) (xf_gr ca cb)
      unfold xf at f3
      simp [atL_map, g1, g2, setAll, times_eq (f.fit ca.1) (f.fit cb.2), times_eq (f.fit cb.1) (f.fit ca.2), minus_eq f1 f2, plus_eq (hs i) f3]
      rw [List.take_add_one, List.sum_append]
      simp [hg, Rat.add_zero, xf]
    · rintro g s' ⟨x, y, z, rfl, rfl⟩
      simp
      congr 1
      rw [List.take_of_length_le (by rw [List.length_map, prs_len]; omega), cyc_prs]
      rfl
  obtain ⟨v, s', e, rfl, rfl⟩ := w
  exact e
theorem cross_eq [Has tb 56 cb_cross 4 3] {k C B : Nat} {o a b : Pt} {s : S} (f : Fine C B) (ho : grp C B o) (ha : grp C B a) (hb : grp C B b) : sem tb (k + 4) 56 [ptD o, ptD a, ptD b] s = some (.ok (frD (crs o a b)), s) := by
  have F : ∀ {q : Rat}, gr C (B + B) q → fit q := fun h => h.fit f.pos (Nat.lt_of_lt_of_le f.c (Nat.pow_le_pow_right (by decide) (by decide))) (by
    have := f.b
    have : 2 ^ 1001 < 2 ^ 395600 := Nat.pow_lt_pow_right (by decide) (by decide)
    have : (2 : Nat) ^ 1001 = 2 ^ 1000 * 2 := Nat.pow_succ ..
    omega)
  have g1 := F (gr_sub ha.1 ho.1)
  have g2 := F (gr_sub hb.2 ho.2)
  have g3 := F (gr_sub ha.2 ho.2)
  have g4 := F (gr_sub hb.1 ho.1)
  have b4 : (B + B) * (B + B) = 4 * (B * B) := by grind
  have g5 : fit ((a.1 - o.1) * (b.2 - o.2)) := f.fit2 (m := 4) (by decide) ((gr_mul (gr_sub ha.1 ho.1) (gr_sub hb.2 ho.2)).mono (Nat.dvd_refl _) (by omega))
  have g6 : fit ((a.2 - o.2) * (b.1 - o.1)) := f.fit2 (m := 4) (by decide) ((gr_mul (gr_sub ha.2 ho.2) (gr_sub hb.1 ho.1)).mono (Nat.dvd_refl _) (by omega))
  rw [sem_of rfl]
  simp [cb_cross, startG, minus_eq (f.fit ha.1) (f.fit ho.1), minus_eq (f.fit hb.2) (f.fit ho.2), minus_eq (f.fit ha.2) (f.fit ho.2), minus_eq (f.fit hb.1) (f.fit ho.1), times_eq g1 g2, times_eq g3 g4, minus_eq g5 g6, crs]
end
def sg (q : Rat) : Int := if 0 < q then 1 else if q < 0 then -1 else 0
theorem num_pos {q : Rat} : 0 < q.num ↔ 0 < q := by
  have h1 := Rat.num_nonneg (q := q)
  have h2 := Rat.num_eq_zero (q := q)
  constructor
  · intro h
    have : 0 ≤ q := h1.mp (by omega)
    have : q ≠ 0 := fun e => by
      have := h2.mpr e
      omega
    grind
  · intro h
    have : 0 ≤ q.num := h1.mpr (by grind)
    have : q.num ≠ 0 := fun e => by
      have := h2.mp e
      grind
    omega
theorem num_neg {q : Rat} : q.num < 0 ↔ q < 0 := by
  have := Rat.num_nonneg (q := q)
  grind
theorem sign_eq {tb : Tb} [Has tb 57 cb_sign 1 1] {k : Nat} {q : Rat} {s : S} : sem tb (k + 1) 57 [frD q] s = some (.ok (.int (sg q)), s) := by
  rw [sem_of rfl]
  by_cases h1 : 0 < q
  · have h2 : ¬ q < 0 := by grind
    have a1 := num_pos.mpr h1
    have a2 : ¬ q.num < 0 := fun h => h2 (num_neg.mp h)
    simp [cb_sign, startG, a1, a2, sg, h1]
  · by_cases h2 : q < 0
    · have a1 := num_neg.mpr h2
      have a2 : ¬ 0 < q.num := fun h => h1 (num_pos.mp h)
      simp [cb_sign, startG, a1, a2, sg, h1, h2]
    · have a1 : ¬ q.num < 0 := fun h => h2 (num_neg.mp h)
      have a2 : ¬ 0 < q.num := fun h => h1 (num_pos.mp h)
      simp [cb_sign, startG, a1, a2, sg, h1, h2]
theorem wsign_eq {tb : Tb} [Has tb 62 cb_w_sign 1 1] {k : Nat} {q : Rat} {s : S} : sem tb (k + 1) 62 [frD q] s = some (.ok (.int (sg q)), s) := by
  rw [sem_of rfl]
  by_cases h1 : 0 < q
  · have h2 : ¬ q < 0 := by grind
    have a1 := num_pos.mpr h1
    have a2 : ¬ q.num < 0 := fun h => h2 (num_neg.mp h)
    simp [cb_w_sign, startG, a1, a2, sg, h1]
  · by_cases h2 : q < 0
    · have a1 := num_neg.mpr h2
      have a2 : ¬ 0 < q.num := fun h => h1 (num_pos.mp h)
      simp [cb_w_sign, startG, a1, a2, sg, h1, h2]
    · have a1 : ¬ q.num < 0 := fun h => h2 (num_neg.mp h)
      have a2 : ¬ 0 < q.num := fun h => h1 (num_pos.mp h)
      simp [cb_w_sign, startG, a1, a2, sg, h1, h2]
theorem sg_x {a b : Rat} : (sg a * sg b < 0) ↔ xg a b := by
  unfold sg xg
  split <;> split <;> grind
theorem sg_nn {a : Rat} : (0 ≤ sg a) ↔ 0 ≤ a := by
  unfold sg
  split
  · grind
  · split <;> grind
theorem sg_bt {a : Rat} : bt (sg a) 1 := by
  unfold sg bt
  split
  · decide
  · split <;> decide
theorem sg_mul {a b : Rat} : binD .mul (.int (sg a)) (.int (sg b)) = some (.int (sg a * sg b)) := mul_bt sg_bt sg_bt (by decide)
end FR
/-! FrCut: cut and cut_by walked; sizes of what is left. -/
namespace FR
open PySem (Str)
theorem xt_in {a b : Rat} (h : xg a b) : 0 ≤ xt a b ∧ xt a b ≤ 1 := by
  unfold xt
  rcases h with ⟨h1, h2⟩ | ⟨h1, h2⟩
  · have e : a / (a - b) = (-a) * (b - a)⁻¹ := by
      have : a - b ≠ 0 := by grind
      have : b - a ≠ 0 := by grind
      grind
    have e2 : 1 - a / (a - b) = b * (b - a)⁻¹ := by
      have : a - b ≠ 0 := by grind
      have : b - a ≠ 0 := by grind
      grind
    have i := Rat.inv_pos.mpr (show (0 : Rat) < b - a by grind)
    have p1 := Rat.mul_pos (a := -a) (by grind) i
    have p2 := Rat.mul_pos (a := b) h2 i
    grind
  · have e : a / (a - b) = a * (a - b)⁻¹ := Rat.div_def ..
    have e2 : 1 - a / (a - b) = (-b) * (a - b)⁻¹ := by
      have : a - b ≠ 0 := by grind
      grind
    have i := Rat.inv_pos.mpr (show (0 : Rat) < a - b by grind)
    have p1 := Rat.mul_pos (a := a) h1 i
    have p2 := Rat.mul_pos (a := -b) (by grind) i
    grind
theorem mix_bd {B : Nat} {t x y : Rat} (h0 : 0 ≤ t) (h1 : t ≤ 1) (hx : bd B x) (hy : bd B y) : bd B (x + t * (y - x)) := by
  unfold bd at *
  have a1 := Rat.mul_nonneg (a := 1 - t) (b := B - x) (by grind) (by grind)
  have a2 := Rat.mul_nonneg (a := t) (b := B - y) h0 (by grind)
  have a3 := Rat.mul_nonneg (a := 1 - t) (b := B + x) (by grind) (by grind)
  have a4 := Rat.mul_nonneg (a := t) (b := B + y) h0 (by grind)
  grind
theorem clp_mem {f : Pt → Rat} {l : List Pt} {p : Pt} (h : p ∈ clp f l) : (p ∈ l ∧ 0 ≤ f p) ∨ ∃ e ∈ prs l, xg (f e.1) (f e.2) ∧ p = mixp (xt (f e.1) (f e.2)) e.1 e.2 := by
  unfold clp at h
  obtain ⟨e, he, hp⟩ := List.mem_flatMap.mp h
  unfold clipE at hp
  rcases List.mem_append.mp hp with hp | hp
  · split at hp
    · rename_i hx
      cases List.mem_singleton.mp hp
      exact .inr ⟨e, he, hx, rfl⟩
    · cases hp
  · split at hp
    · rename_i hx
      cases List.mem_singleton.mp hp
      exact .inl ⟨(prs_mem (a := e.1) (b := e.2) he).2, hx⟩
    · cases hp
theorem clipE_len {f : Pt → Rat} {p q : Pt} : (clipE f p q).length ≤ 2 := by
  unfold clipE
  rw [List.length_append]
  split <;> split <;> simp
theorem flat_len {f : Pt → Rat} : ∀ {es : List (Pt × Pt)}, (es.flatMap fun e => clipE f e.1 e.2).length ≤ 2 * es.length
  | [] => by simp
  | e :: es => by
    rw [List.flatMap_cons, List.length_append, List.length_cons]
    have := clipE_len (f := f) (p := e.1) (q := e.2)
    have := flat_len (f := f) (es := es)
    omega
theorem clp_len {f : Pt → Rat} {l : List Pt} : (clp f l).length ≤ 2 * l.length := by
  unfold clp
  have := flat_len (f := f) (es := prs l)
  rw [prs_len] at this
  exact this
/-- a denominator for all places on the line -/
theorem com_den {f : Pt → Rat} {M : Nat} (hM : 1 ≤ M) : ∀ {es : List (Pt × Pt)}, (∀ e ∈ es, xg (f e.1) (f e.2) → ∃ T : Nat, 0 < T ∧ T ≤ M ∧ dv T (xt (f e.1) (f e.2))) →
    ∃ D : Nat, 0 < D ∧ D ≤ M ^ es.length ∧ ∀ e ∈ es, xg (f e.1) (f e.2) → dv D (xt (f e.1) (f e.2))
  | [], _ => ⟨1, by decide, by simp, fun e he => by cases he⟩
  | e :: es, h => by
    obtain ⟨D, d0, d1, d2⟩ := com_den hM (es := es) fun x hx => h x (List.mem_cons_of_mem _ hx)
    obtain ⟨T, t0, t1, t2⟩ : ∃ T : Nat, 0 < T ∧ T ≤ M ∧ (xg (f e.1) (f e.2) → dv T (xt (f e.1) (f e.2))) := by
      by_cases hx : xg (f e.1) (f e.2)
      · obtain ⟨T, a, b, c⟩ := h e List.mem_cons_self hx
        exact ⟨T, a, b, fun _ => c⟩
      · exact ⟨1, by decide, hM, fun z => absurd z hx⟩
    refine ⟨D * T, Nat.mul_pos d0 t0, ?_, fun x hx hg => ?_⟩
    · rw [List.length_cons, Nat.pow_succ]
      exact Nat.mul_le_mul d1 t1
    · rcases List.mem_cons.mp hx with rfl | hx
      · exact dv_mono (t2 hg) ⟨D, by rw [Nat.mul_comm]⟩
      · exact dv_mono (d2 x hx hg) ⟨T, rfl⟩
theorem clp_gr {f : Pt → Rat} {l : List Pt} {C B M : Nat} (hM : 1 ≤ M) (hl : ∀ p ∈ l, grp C B p) (h0 : 0 < C) (h : ∀ e ∈ prs l, xg (f e.1) (f e.2) → ∃ T : Nat, 0 < T ∧ T ≤ M ∧ dv T (xt (f e.1) (f e.2))) :
    ∃ E : Nat, 0 < E ∧ E ≤ C * M ^ l.length ∧ ∀ p ∈ clp f l, grp E B p := by
  obtain ⟨D, d0, d1, d2⟩ := com_den hM h
  rw [prs_len] at d1
  refine ⟨C * D, Nat.mul_pos h0 d0, Nat.mul_le_mul_left C d1, fun p hp => ?_⟩
  rcases clp_mem hp with ⟨hp, _⟩ | ⟨e, he, hx, rfl⟩
  · exact (hl p hp).mono ⟨D, rfl⟩ (Nat.le_refl _)
  · obtain ⟨m1, m2⟩ := prs_mem (a := e.1) (b := e.2) he
    have g1 := hl _ m1
    have g2 := hl _ m2
    have t := d2 e he hx
    obtain ⟨t0, t1⟩ := xt_in hx
    refine ⟨⟨dv_add (dv_mono g1.1.1 ⟨D, rfl⟩) ?_, mix_bd t0 t1 g1.1.2 g2.1.2⟩, ⟨dv_add (dv_mono g1.2.1 ⟨D, rfl⟩) ?_, mix_bd t0 t1 g1.2.2 g2.2.2⟩⟩
    · rw [Nat.mul_comm]
      exact dv_mul t (dv_sub g2.1.1 g1.1.1)
    · rw [Nat.mul_comm]
      exact dv_mul t (dv_sub g2.2.1 g1.2.1)
/-- small enough to be cut -/
structure FineC (C B : Nat) : Prop where
  pos : 0 < C
  c : C < 2 ^ 1000
  b : B < 2 ^ 100
theorem pw {a b : Nat} (h : a ≤ b) : 2 ^ a ≤ 2 ^ b := Nat.pow_le_pow_right (by decide) h
theorem FineC.fine {C B : Nat} (f : FineC C B) : Fine C B := ⟨f.pos, Nat.lt_of_lt_of_le f.c (pw (by decide)), Nat.lt_of_lt_of_le f.b (pw (by decide))⟩
theorem FineC.fit {C B : Nat} (f : FineC C B) {q : Rat} (h : gr C (B + B) q) : fit q := h.fit f.pos (Nat.lt_of_lt_of_le f.c (pw (by decide))) (by
  have := f.b
  have : 2 ^ 101 ≤ 2 ^ 395600 := pw (by decide)
  omega)
theorem FineC.num {C B : Nat} (f : FineC C B) {q : Rat} (h : gr C (B + B) q) : bt q.num 1101 := (h.sz (n := 1101) (c := 1000) f.pos f.c (by
  have h1 : B + B < 2 ^ 101 := by have := f.b; omega
  have := Nat.mul_lt_mul'' h1 f.c
  rw [← Nat.pow_add] at this
  exact this)).1
theorem FineC.den {C B : Nat} (f : FineC C B) {q : Rat} (h : gr C (B + B) q) : q.den < 2 ^ 1000 := (h.sz (n := 1101) (c := 1000) f.pos f.c (by
  have h1 : B + B < 2 ^ 101 := by have := f.b; omega
  have := Nat.mul_lt_mul'' h1 f.c
  rw [← Nat.pow_add] at this
  exact this)).2
theorem FineC.quo {C B : Nat} (f : FineC C B) {p q : Rat} (h : dv C p) (k : gr C (B + B) q) (hq : q ≠ 0) (h1 : bd 1 (p / q)) : ∃ T : Nat, 0 < T ∧ T < 2 ^ 1101 ∧ gr T 1 (p / q) := by
  obtain ⟨T, t0, t1, t2⟩ := div_den h k f.pos hq
  refine ⟨T, t0, Nat.lt_of_le_of_lt t1 ?_, t2, h1⟩
  have h1 : B + B < 2 ^ 101 := by have := f.b; omega
  have := Nat.mul_lt_mul'' h1 f.c
  rw [← Nat.pow_add] at this
  exact this
/-- what of the coordinates is reckoned at a place on the line -/
theorem FineC.mix {C B T : Nat} (f : FineC C B) {t x y : Rat} (t0 : 0 < T) (t1 : T < 2 ^ 1101) (ht : gr T 1 t) (hx : gr C B x) (hy : gr C B y) : FR.fit t ∧ FR.fit (t * (y - x)) := by
  refine ⟨ht.fit t0 (Nat.lt_of_lt_of_le t1 (pw (by decide))) (Nat.lt_of_lt_of_le (show 1 < 2 ^ 1 by decide) (pw (by decide))), ?_⟩
  refine (gr_mul ht (gr_sub hy hx)).fit (Nat.mul_pos t0 f.pos) ?_ ?_
  · have := Nat.mul_lt_mul'' t1 f.c
    rw [← Nat.pow_add] at this
    exact Nat.lt_of_lt_of_le this (pw (by decide))
  · have := f.b
    have : 2 ^ 101 ≤ 2 ^ 395600 := pw (by decide)
    omega
def hf (h : Rat) (up : Bool) (p : Pt) : Rat := if up then p.2 - h else h - p.2
theorem hf_crs {h : Rat} : hf h true = crs (0, h) (1, h) := by
  funext p
  unfold hf crs
  simp
  grind
theorem hf_crs2 {h : Rat} : hf h false = crs (1, h) (0, h) := by
  funext p
  unfold hf crs
  simp
  grind
theorem hf_x {h : Rat} {up : Bool} {p q : Pt} : xg (hf h up p) (hf h up q) ↔ xg (p.2 - h) (q.2 - h) := by
  unfold hf xg
  cases up
  · simp only [Bool.false_eq_true, if_false]
    grind
  · simp
theorem hf_t {h : Rat} {up : Bool} {p q : Pt} (hx : xg (p.2 - h) (q.2 - h)) : xt (hf h up p) (hf h up q) = (h - p.2) / (q.2 - p.2) := by
  unfold hf xt
  have h1 : q.2 - p.2 ≠ 0 := by
    unfold xg at hx
    grind
  have h2 : p.2 - q.2 ≠ 0 := by grind
  cases up
  · simp only [Bool.false_eq_true, if_false]
    rw [show h - p.2 - (h - q.2) = q.2 - p.2 by grind]
  · simp only [if_true]
    rw [show p.2 - h - (q.2 - h) = p.2 - q.2 by grind]
    grind
theorem hf_mix {h : Rat} {up : Bool} {p q : Pt} (hx : xg (p.2 - h) (q.2 - h)) : mixp (xt (hf h up p) (hf h up q)) p q = (p.1 + (h - p.2) / (q.2 - p.2) * (q.1 - p.1), h) := by
  rw [hf_t hx]
  unfold mixp
  have h1 : q.2 - p.2 ≠ 0 := by
    unfold xg at hx
    grind
  refine Prod.ext rfl ?_
  show p.2 + (h - p.2) / (q.2 - p.2) * (q.2 - p.2) = h
  grind
@[simp] theorem setT_nm {g : G} {d : D} {i : Nat} : setT g d (.nm i) = some (g.set i (.dat d)) := rfl
def cutI (l : List Pt) (h : Rat) (up : Bool) (s : S) (i : Nat) (g : G) (s' : S) : Prop := ∃ x4 x5 x6 x7 x8 x9 x10 x11, s' = s ∧ g = [.dat (.lst (l.map ptD)), .dat (frD h), .dat (.bl up), .own ((((prs l).take i).flatMap fun e => clipE (hf h up) e.1 e.2).map ptD), x4, x5, x6, x7, x8, x9, x10, x11]
def cut_t : CSs := .cons (.ifs [] (.or (.cmp .eq (.var 8) (.cst (.int 0))) (.cmp .eq (.cmp .gt (.var 8) (.cst (.int 0))) (.var 2))) (.cons (.app [] 3 (.var 6)) (.nil)) (.nil)) (.nil)
theorem cb_cut_eq : cb_cut = .cons (.own [] 3 (.lst (.nil))) (.cons (.forR [] (.nm 4) (.cst (.int 0)) (.bif .len (.cons (.var 0) (.nil))) (.cons (.par [] [5, 6] (.cons (.idx (.var 0) (.bin .sub (.var 4) (.cst (.int 1)))) (.cons (.idx (.var 0) (.var 4)) (.nil)))) (.cons (.par [] [7, 8] (.cons (.call 57 (.cons (.call 45 (.cons (.idx (.var 5) (.cst (.int 1))) (.cons (.var 1) (.nil)))) (.nil))) (.cons (.call 57 (.cons (.call 45 (.cons (.idx (.var 6) (.cst (.int 1))) (.cons (.var 1) (.nil)))) (.nil))) (.nil)))) (.cons (.ifs [] (.cmp .lt (.bin .mul (.var 7) (.var 8)) (.cst (.int 0))) (.cons (.asg [] 9 (.call 45 (.cons (.var 1) (.cons (.idx (.var 5) (.cst (.int 1))) (.nil))))) (.cons (.asg [] 10 (.call 45 (.cons (.idx (.var 6) (.cst (.int 1))) (.cons (.idx (.var 5) (.cst (.int 1))) (.nil))))) (.cons (.asg [] 11 (.call 2 (.cons (.bin .mul (.idx (.var 9) (.cst (.int 0))) (.idx (.var 10) (.cst (.int 1)))) (.cons (.bin .mul (.idx (.var 9) (.cst (.int 1))) (.idx (.var 10) (.cst (.int 0)))) (.nil))))) (.cons (.app [] 3 (.tup (.cons (.call 32 (.cons (.idx (.var 5) (.cst (.int 0))) (.cons (.call 46 (.cons (.var 11) (.cons (.call 45 (.cons (.idx (.var 6) (.cst (.int 0))) (.cons (.idx (.var 5) (.cst (.int 0))) (.nil)))) (.nil)))) (.nil)))) (.cons (.var 1) (.nil))))) (.nil))))) (.nil)) cut_t)))) (.cons (.ret [3] (.var 3)) (.nil))) := rfl
section
variable {tb : Tb} [Has tb 1 cb_divisor 2 2] [Has tb 2 cb_least 3 2] [Has tb 32 cb_plus 2 2] [Has tb 45 cb_minus 2 2] [Has tb 46 cb_times 2 2] [Has tb 57 cb_sign 1 1]
theorem cut_eq [Has tb 72 cb_cut 12 3] {k C B : Nat} {l : List Pt} {h : Rat} {up : Bool} {s : S} (f : FineC C B) (hl : l.length ≤ 1000) (hc : ∀ p ∈ l, grp C B p) (hh : gr C B h) :
    sem tb (k + 4) 72 [.lst (l.map ptD), frD h, .bl up] s = some (.ok (.lst ((clp (hf h up) l).map ptD)), s) := by
  have F : ∀ {q : Rat}, gr C B q → fit q := fun z => f.fit (z.mono (Nat.dvd_refl _) (by omega))
  have w : W (sem tb (k + 4) 72 [.lst (l.map ptD), frD h, .bl up] s) fun v s' => v = .lst ((clp (hf h up) l).map ptD) ∧ s' = s := by
    rw [sem_of rfl, W_run]
    simp only [cb_cut_eq, startG]
    have r0 : rngD (.int 0) (.int l.length) = some (rangeD 0 l.length) := rng_ok (by decide) (by unfold SZ; omega)
    simp [r0, D.lfL]
    refine W_range (I := cutI l h up s) ⟨.un, .un, .un, .un, .un, .un, .un, .un, rfl, by simp⟩ ?_ ?_
    · rintro i g s' hi ⟨x4, x5, x6, x7, x8, x9, x10, x11, rfl, rfl⟩
      have hil : i < (prs l).length := by rw [prs_len]; omega
      obtain ⟨⟨p, q⟩, hg⟩ : ∃ p, (prs l)[i]? = some p := ⟨_, List.getElem?_eq_getElem hil⟩
      obtain ⟨g1, g2⟩ := prs_get hg
      obtain ⟨hp, hq⟩ := prs_mem (List.mem_of_getElem? hg)
      have cp := hc p hp
      have cq := hc q hq
      have tk : (prs l).take (i + 1) = (prs l).take i ++ [(p, q)] := by rw [List.take_add_one, hg]; rfl
      have hlen := flat_len (f := hf h up) (es := (prs l).take i)
      rw [List.length_take, prs_len] at hlen
      generalize ho : ((prs l).take i).flatMap (fun e => clipE (hf h up) e.1 e.2) = out at *
      have oo : ((prs l).take (i + 1)).flatMap (fun e => clipE (hf h up) e.1 e.2) = out ++ clipE (hf h up) p q := by
        rw [tk, List.flatMap_append, ho]
        simp
      have ol : out.length ≤ 2000 := by omega
      have fp := F cp.1
      have fp2 := F cp.2
      have fq := F cq.1
      have fq2 := F cq.2
      have fh := F hh
      have up1 : ((sg (q.2 - h) = 0 ∨ (decide (0 < sg (q.2 - h))) = up)) ↔ 0 ≤ hf h up q := by
        unfold hf sg
        cases up
        · simp only [Bool.false_eq_true, if_false, decide_eq_false_iff_not]
          split
          · grind
          · split <;> grind
        · simp only [if_true, decide_eq_true_eq]
          split
          · grind
          · split <;> grind
      have eqb : ∀ a b : Bool, cmpD .eq (.bl a) (.bl b) = some (a == b) := fun a b => by cases a <;> cases b <;> rfl
      -- behind the crossing
      have last : ∀ (o2 : List Pt) (y9 y10 y11 : Sl) (Q : Fl → S → Prop), o2.length ≤ 2001 → out ++ clipE (hf h up) p q = o2 ++ (if 0 ≤ hf h up q then [q] else []) →
          W (evSs (enOf tb (k + 3)) cut_t [.dat (.lst (l.map ptD)), .dat (frD h), .dat (.bl up), .own (o2.map ptD), .dat (.int i), .dat (ptD p), .dat (ptD q), .dat (.int (sg (p.2 - h))), .dat (.int (sg (q.2 - h))), y9, y10, y11] s')
            (stepK (cutI l h up s' (i + 1)) Q) := by
        intro o2 y9 y10 y11 Q hol hoe
        have st : ∀ x4 x5 x6 x7 x8 x9 x10 x11, cutI l h up s' (i + 1) [.dat (.lst (l.map ptD)), .dat (frD h), .dat (.bl up), .own ((o2 ++ (if 0 ≤ hf h up q then [q] else [])).map ptD), x4, x5, x6, x7, x8, x9, x10, x11] s' := fun x4 x5 x6 x7 x8 x9 x10 x11 => ⟨x4, x5, x6, x7, x8, x9, x10, x11, rfl, by rw [oo, hoe]⟩
        rw [cut_t]
        have lo : o2.length < 1000000 := by omega
        by_cases hu : 0 ≤ hf h up q
        · rw [if_pos hu, List.map_append] at st
          have hb := up1.mpr hu
          by_cases hz : sg (q.2 - h) = 0
          · simp [hz, owned, appO, appF, lo]
            exact hz ▸ st ..
          · have hd : (decide (0 < sg (q.2 - h))) = up := by
              rcases hb with hb | hb
              · exact absurd hb hz
              · exact hb
            have hz' : (sg (q.2 - h) == 0) = false := by simpa using hz
            simp [hz', eqb, hd, owned, appO, appF, lo]
            exact st ..
        · rw [if_neg hu, List.append_nil] at st
          have hb : ¬ (sg (q.2 - h) = 0 ∨ (decide (0 < sg (q.2 - h))) = up) := fun z => hu (up1.mp z)
          rw [not_or] at hb
          have hz' : (sg (q.2 - h) == 0) = false := by simpa using hb.1
          have hd' : (decide (0 < sg (q.2 - h)) == up) = false := by simpa using hb.2
          simp [hz', eqb, hd']
          exact st ..
      by_cases hx : xg (p.2 - h) (q.2 - h)
      · have hs : sg (p.2 - h) * sg (q.2 - h) < 0 := sg_x.mpr hx
        have rise0 : q.2 - p.2 ≠ 0 := by
          unfold xg at hx
          grind
        have ht : xt (hf h up p) (hf h up q) = (h - p.2) / (q.2 - p.2) := hf_t hx
        obtain ⟨t0, t1⟩ := xt_in (hf_x (up := up) |>.mpr hx)
        rw [ht] at t0 t1
        obtain ⟨T, T0, T1, T2⟩ := f.quo (dv_sub hh.1 cp.2.1) (gr_sub cq.2 cp.2) rise0 ⟨by grind, by simpa using t1⟩
        obtain ⟨m1, m2⟩ := f.mix T0 T1 T2 cp.1 cq.1
        have gpart : gr C (B + B) (h - p.2) := gr_sub hh cp.2
        have grise : gr C (B + B) (q.2 - p.2) := gr_sub cq.2 cp.2
        have fpart := f.fit gpart
        have frise := f.fit grise
        have fx := f.fit (gr_sub cq.1 cp.1)
        have nz : ((h - p.2).den : Int) * (q.2 - p.2).num ≠ 0 := Int.mul_ne_zero (by have := (h - p.2).den_pos; omega) (by rw [Ne, Rat.num_eq_zero]; exact rise0)
        have le := least_eq (tb := tb) (k := k + 1) (s := s') (a := (h - p.2).num * (q.2 - p.2).den) nz ((bt_mul (den_bt (f.den gpart)) (f.num grise)).mono (by decide))
        rw [div_divInt] at le
        have pl := plus_eq (tb := tb) (k := k) (s := s') fp m2
        have mp : D.tup [frD (p.1 + (h - p.2) / (q.2 - p.2) * (q.1 - p.1)), frD h] = ptD (mixp (xt (hf h up p) (hf h up q)) p q) := by
          rw [hf_mix hx]
          rfl
        have l2 := fun Q => last (out ++ [mixp (xt (hf h up p) (hf h up q)) p q]) (.dat (frD (h - p.2))) (.dat (frD (q.2 - p.2))) (.dat (frD ((h - p.2) / (q.2 - p.2)))) Q (by simp; omega) (by
          unfold clipE
          rw [if_pos (hf_x.mpr hx), List.append_assoc])
        have lo : out.length < 1000000 := by omega
        simp only [List.map_append, List.map_singleton] at l2
        simp [atL_map, g1, g2, setAll, minus_eq fp2 fh, minus_eq fq2 fh, sign_eq, sg_mul, hs, minus_eq fh fp2, minus_eq fq2 fp2, fit_nd fpart frise, fit_dn fpart frise, le, minus_eq fq fp, times_eq m1 fx, pl, mp, owned, appO, appF, lo]
        exact l2 _
      · have hs : ¬ sg (p.2 - h) * sg (q.2 - h) < 0 := fun z => hx (sg_x.mp z)
        have l2 := fun Q => last out x9 x10 x11 Q (by omega) (by
          unfold clipE
          rw [if_neg (fun z => hx (hf_x.mp z)), List.nil_append])
        simp [atL_map, g1, g2, setAll, minus_eq fp2 fh, minus_eq fq2 fh, sign_eq, sg_mul, hs]
        exact l2 _
    · rintro g s' ⟨x4, x5, x6, x7, x8, x9, x10, x11, rfl, rfl⟩
      have e : (prs l).take (((l.length : Int) - 0).toNat) = prs l := List.take_of_length_le (by rw [prs_len]; omega)
      rw [e]
      simp [exE, frz, frzS, D.lf, clp]
  obtain ⟨v, s', e, rfl, rfl⟩ := w
  exact e
end
end FR
/-! FrCutBy: cut_by walked; areas left of lines and between heights. -/
namespace FR
open PySem (Str)
def cubI (l : List Pt) (u v : Pt) (s : S) (i : Nat) (g : G) (s' : S) : Prop := ∃ x4 x5 x6 x7 x8 x9 x10, s' = s ∧ g = [.dat (.lst (l.map ptD)), .dat (ptD u), .dat (ptD v), .own ((((prs l).take i).flatMap fun e => clipE (crs u v) e.1 e.2).map ptD), x4, x5, x6, x7, x8, x9, x10]
def cub_t : CSs := .cons (.ifs [] (.cmp .ge (.call 57 (.cons (.var 6) (.nil))) (.cst (.int 0))) (.cons (.app [] 3 (.idx (.var 0) (.var 4))) (.nil)) (.nil)) (.nil)
theorem cb_cut_by_eq : cb_cut_by = .cons (.own [] 3 (.lst (.nil))) (.cons (.forR [] (.nm 4) (.cst (.int 0)) (.bif .len (.cons (.var 0) (.nil))) (.cons (.par [] [5, 6] (.cons (.call 56 (.cons (.var 1) (.cons (.var 2) (.cons (.idx (.var 0) (.bin .sub (.var 4) (.cst (.int 1)))) (.nil))))) (.cons (.call 56 (.cons (.var 1) (.cons (.var 2) (.cons (.idx (.var 0) (.var 4)) (.nil))))) (.nil)))) (.cons (.ifs [] (.cmp .lt (.bin .mul (.call 57 (.cons (.var 5) (.nil))) (.call 57 (.cons (.var 6) (.nil)))) (.cst (.int 0))) (.cons (.asg [] 7 (.call 70 (.cons (.var 5) (.cons (.call 45 (.cons (.var 5) (.cons (.var 6) (.nil)))) (.nil))))) (.cons (.tas [] [8, 9] (.tup (.cons (.idx (.var 0) (.bin .sub (.var 4) (.cst (.int 1)))) (.cons (.idx (.var 0) (.var 4)) (.nil))))) (.cons (.app [] 3 (.bif .tuple (.cons (.compR (.nm 10) (.cst (.int 0)) (.cst (.int 2)) (.cst (.bl true)) (.call 32 (.cons (.idx (.var 8) (.var 10)) (.cons (.call 46 (.cons (.var 7) (.cons (.call 45 (.cons (.idx (.var 9) (.var 10)) (.cons (.idx (.var 8) (.var 10)) (.nil)))) (.nil)))) (.nil))))) (.nil)))) (.nil)))) (.nil)) cub_t))) (.cons (.ret [3] (.var 3)) (.nil))) := rfl
theorem FineC.sq {C B : Nat} (f : FineC C B) : 0 < C * C ∧ C * C < 2 ^ 2000 := by
  refine ⟨Nat.mul_pos f.pos f.pos, ?_⟩
  have := Nat.mul_lt_mul'' f.c f.c
  rw [← Nat.pow_add] at this
  exact this
theorem FineC.sqb {C B : Nat} (f : FineC C B) : 16 * (B * B) < 2 ^ 204 := by
  have := Nat.mul_lt_mul'' f.b f.b
  rw [← Nat.pow_add] at this
  have e : (2 : Nat) ^ 204 = 2 ^ (100 + 100) * 16 := by rw [show (204 : Nat) = (100 + 100) + 4 from rfl, Nat.pow_add]
  omega
theorem FineC.sz2 {C B : Nat} (f : FineC C B) {q : Rat} (h : gr (C * C) (16 * (B * B)) q) : FR.sz 2204 2000 q := h.sz f.sq.1 f.sq.2 (by
  have := Nat.mul_lt_mul'' f.sqb f.sq.2
  rw [← Nat.pow_add] at this
  exact this)
theorem FineC.quo2 {C B : Nat} (f : FineC C B) {p q : Rat} (h : dv (C * C) p) (k : gr (C * C) (16 * (B * B)) q) (hq : q ≠ 0) (h1 : bd 1 (p / q)) : ∃ T : Nat, 0 < T ∧ T < 2 ^ 2204 ∧ gr T 1 (p / q) := by
  obtain ⟨T, t0, t1, t2⟩ := div_den h k f.sq.1 hq
  refine ⟨T, t0, Nat.lt_of_le_of_lt t1 ?_, t2, h1⟩
  have := Nat.mul_lt_mul'' f.sqb f.sq.2
  rw [← Nat.pow_add] at this
  exact this
theorem FineC.mix2 {C B T : Nat} (f : FineC C B) {t x y : Rat} (t0 : 0 < T) (t1 : T < 2 ^ 2204) (ht : gr T 1 t) (hx : gr C B x) (hy : gr C B y) : FR.fit t ∧ FR.fit (t * (y - x)) := by
  refine ⟨ht.fit t0 (Nat.lt_of_lt_of_le t1 (pw (by decide))) (Nat.lt_of_lt_of_le (show 1 < 2 ^ 1 by decide) (pw (by decide))), ?_⟩
  refine (gr_mul ht (gr_sub hy hx)).fit (Nat.mul_pos t0 f.pos) ?_ ?_
  · have := Nat.mul_lt_mul'' t1 f.c
    rw [← Nat.pow_add] at this
    exact Nat.lt_of_lt_of_le this (pw (by decide))
  · have := f.b
    have : 2 ^ 101 ≤ 2 ^ 395600 := pw (by decide)
    omega
@[simp] theorem tup_lst {xs : List D} {s : S} : bifD .tuple [.lst xs] s = some (.tup xs) := rfl
section
variable {tb : Tb} [Has tb 1 cb_divisor 2 2] [Has tb 2 cb_least 3 2] [Has tb 32 cb_plus 2 2] [Has tb 45 cb_minus 2 2] [Has tb 46 cb_times 2 2] [Has tb 57 cb_sign 1 1] [Has tb 56 cb_cross 4 3] [Has tb 70 cb_over 2 2]
theorem cutby_eq [Has tb 73 cb_cut_by 11 3] {k C B : Nat} {l : List Pt} {u v : Pt} {s : S} (f : FineC C B) (hl : l.length ≤ 1000) (hc : ∀ p ∈ l, grp C B p) (hu : grp C B u) (hv : grp C B v) :
    sem tb (k + 5) 73 [.lst (l.map ptD), ptD u, ptD v] s = some (.ok (.lst ((clp (crs u v) l).map ptD)), s) := by
  have F : ∀ {q : Rat}, gr C B q → fit q := fun z => f.fit (z.mono (Nat.dvd_refl _) (by omega))
  have w : W (sem tb (k + 5) 73 [.lst (l.map ptD), ptD u, ptD v] s) fun d s' => d = .lst ((clp (crs u v) l).map ptD) ∧ s' = s := by
    rw [sem_of rfl, W_run]
    simp only [cb_cut_by_eq, startG]
    have r0 : rngD (.int 0) (.int l.length) = some (rangeD 0 l.length) := rng_ok (by decide) (by unfold SZ; omega)
    simp [r0, D.lfL]
    refine W_range (I := cubI l u v s) ⟨.un, .un, .un, .un, .un, .un, .un, rfl, by simp⟩ ?_ ?_
    · rintro i g s' hi ⟨x4, x5, x6, x7, x8, x9, x10, rfl, rfl⟩
      have hil : i < (prs l).length := by rw [prs_len]; omega
      obtain ⟨⟨p, q⟩, hg⟩ : ∃ p, (prs l)[i]? = some p := ⟨_, List.getElem?_eq_getElem hil⟩
      obtain ⟨g1, g2⟩ := prs_get hg
      obtain ⟨hp, hq⟩ := prs_mem (List.mem_of_getElem? hg)
      have cp := hc p hp
      have cq := hc q hq
      have tk : (prs l).take (i + 1) = (prs l).take i ++ [(p, q)] := by rw [List.take_add_one, hg]; rfl
      have hlen := flat_len (f := crs u v) (es := (prs l).take i)
      rw [List.length_take, prs_len] at hlen
      generalize ho : ((prs l).take i).flatMap (fun e => clipE (crs u v) e.1 e.2) = out at *
      have oo : ((prs l).take (i + 1)).flatMap (fun e => clipE (crs u v) e.1 e.2) = out ++ clipE (crs u v) p q := by
        rw [tk, List.flatMap_append, ho]
        simp
      have ol : out.length ≤ 2000 := by omega
      have fp := F cp.1
      have fp2 := F cp.2
      have fq := F cq.1
      have fq2 := F cq.2
      have ca := cross_eq (tb := tb) (k := k) (s := s') f.fine hu hv cp
      have cb := cross_eq (tb := tb) (k := k) (s := s') f.fine hu hv cq
      have last : ∀ (o2 : List Pt) (y5 y7 y8 y9 y10 : Sl) (Q : Fl → S → Prop), o2.length ≤ 2001 → out ++ clipE (crs u v) p q = o2 ++ (if 0 ≤ crs u v q then [q] else []) →
          W (evSs (enOf tb (k + 4)) cub_t [.dat (.lst (l.map ptD)), .dat (ptD u), .dat (ptD v), .own (o2.map ptD), .dat (.int i), y5, .dat (frD (crs u v q)), y7, y8, y9, y10] s') (stepK (cubI l u v s' (i + 1)) Q) := by
        intro o2 y5 y7 y8 y9 y10 Q hol hoe
        have st : ∀ x4 x5 x6 x7 x8 x9 x10, cubI l u v s' (i + 1) [.dat (.lst (l.map ptD)), .dat (ptD u), .dat (ptD v), .own ((o2 ++ (if 0 ≤ crs u v q then [q] else [])).map ptD), x4, x5, x6, x7, x8, x9, x10] s' := fun x4 x5 x6 x7 x8 x9 x10 => ⟨x4, x5, x6, x7, x8, x9, x10, rfl, by rw [oo, hoe]⟩
        rw [cub_t]
        have lo : o2.length < 1000000 := by omega
        by_cases hn : 0 ≤ crs u v q
        · rw [if_pos hn, List.map_append] at st
          have hb := sg_nn.mpr hn
          simp [sign_eq, hb, owned, appO, appF, lo, atL_map, g2]
          exact st ..
        · rw [if_neg hn, List.append_nil] at st
          have hb : ¬ 0 ≤ sg (crs u v q) := fun z => hn (sg_nn.mp z)
          simp [sign_eq, hb]
          exact st ..
      by_cases hx : xg (crs u v p) (crs u v q)
      · have hs : sg (crs u v p) * sg (crs u v q) < 0 := sg_x.mpr hx
        have d0 : crs u v p - crs u v q ≠ 0 := by
          unfold xg at hx
          grind
        obtain ⟨t0, t1⟩ := xt_in hx
        have ga := crs_gr hu hv cp
        have gb := crs_gr hu hv cq
        have gd : gr (C * C) (16 * (B * B)) (crs u v p - crs u v q) := (gr_sub ga gb).mono (Nat.dvd_refl _) (by omega)
        obtain ⟨T, T0, T1, T2⟩ := f.quo2 (p := crs u v p) ga.1 gd d0 ⟨by unfold xt at t0; grind, by unfold xt at t1; simpa using t1⟩
        obtain ⟨m1, m2⟩ := f.mix2 T0 T1 T2 cp.1 cq.1
        obtain ⟨_, m4⟩ := f.mix2 T0 T1 T2 cp.2 cq.2
        have fa := (f.sz2 (ga.mono (Nat.dvd_refl _) (by omega))).fit
        have fb := (f.sz2 (gb.mono (Nat.dvd_refl _) (by omega))).fit
        have fd := (f.sz2 gd).fit
        have ov := over_eq (tb := tb) (k := k + 1) (s := s') fa fd ((f.sz2 gd).1.mono (by decide)) d0
        have fx := f.fit (gr_sub cq.1 cp.1)
        have fy := f.fit (gr_sub cq.2 cp.2)
        have pl := plus_eq (tb := tb) (k := k + 1) (s := s') fp m2
        have pl2 := plus_eq (tb := tb) (k := k + 1) (s := s') fp2 m4
        have mp : D.tup [frD (p.1 + crs u v p / (crs u v p - crs u v q) * (q.1 - p.1)), frD (p.2 + crs u v p / (crs u v p - crs u v q) * (q.2 - p.2))] = ptD (mixp (xt (crs u v p) (crs u v q)) p q) := rfl
        have r2 : rngD (.int 0) (.int 2) = some [.int 0, .int 1] := rfl
        have l2 := fun y Q => last (out ++ [mixp (xt (crs u v p) (crs u v q)) p q]) (.dat (frD (crs u v p))) (.dat (frD (crs u v p / (crs u v p - crs u v q)))) (.dat (ptD p)) (.dat (ptD q)) y Q (by simp; omega) (by
          unfold clipE
          rw [if_pos hx, List.append_assoc])
        have lo : out.length < 1000000 := by omega
        simp only [List.map_append, List.map_singleton] at l2
        simp [atL_map, g1, g2, ca, cb, setAll, setT, sign_eq, sg_mul, hs, minus_eq fa fb, ov, r2, compL, cmp1, minus_eq fq fp, minus_eq fq2 fp2, times_eq m1 fx, times_eq m1 fy, pl, pl2, tup_lst, mp, owned, appO, appF, lo]
        exact l2 _ _
      · have hs : ¬ sg (crs u v p) * sg (crs u v q) < 0 := fun z => hx (sg_x.mp z)
        have l2 := fun y Q => last out y x7 x8 x9 x10 Q (by omega) (by
          unfold clipE
          rw [if_neg hx, List.nil_append])
        simp [atL_map, g1, g2, ca, cb, setAll, sign_eq, sg_mul, hs]
        exact l2 _ _
    · rintro g s' ⟨x4, x5, x6, x7, x8, x9, x10, rfl, rfl⟩
      have e : (prs l).take (((l.length : Int) - 0).toNat) = prs l := List.take_of_length_le (by rw [prs_len]; omega)
      rw [e]
      simp [exE, frz, frzS, D.lf, clp]
  obtain ⟨d, s', e, rfl, rfl⟩ := w
  exact e
end
end FR
/-! FrLeft: left_area and within, walked. -/
namespace FR
open PySem (Str)
theorem dar_few {l : List Pt} (h : l.length ≤ 2) : dar l = 0 := by
  match l, h with
  | [], _ => rfl
  | [x], _ =>
    unfold dar
    rw [cyc_cons]
    show xf x x + 0 = 0
    unfold xf
    grind
  | [x, y], _ =>
    unfold dar
    rw [cyc_cons]
    show xf x y + (xf y x + 0) = 0
    unfold xf
    grind
theorem gr_one {C B : Nat} : gr C (B + 1) 1 := ⟨⟨C, by rw [Rat.one_mul]; rfl⟩, by
  unfold bd
  have : (0 : Rat) ≤ (B : Rat) := Rat.natCast_nonneg
  rw [Rat.natCast_add]
  constructor
  · have : ((1 : Nat) : Rat) = 1 := rfl
    grind
  · have : ((1 : Nat) : Rat) = 1 := rfl
    grind⟩
theorem gr_zero {C B : Nat} : gr C B 0 := ⟨⟨0, by rw [Rat.zero_mul]; rfl⟩, by
  unfold bd
  have : (0 : Rat) ≤ (B : Rat) := Rat.natCast_nonneg
  grind⟩
theorem hgt {h : Rat} {p : Pt} : crs (0, h) (1, h) p = p.2 - h := by
  unfold crs
  simp
  grind
theorem hgt_ne {h : Rat} : ((0, h) : Pt) ≠ (1, h) := fun e => by
  have : (0 : Rat) = 1 := congrArg Prod.fst e
  exact absurd this (by decide)
/-- between two heights -/
theorem between {l : List Pt} {lo hi : Rat} (h : lo ≤ hi) : dar (clp (hf hi false) (clp (hf lo true) l)) = lar (0, lo) (1, lo) l - lar (0, hi) (1, hi) l := by
  rw [hf_crs, hf_crs2]
  have e1 := lar_both (l := clp (crs (0, lo) (1, lo)) l) (hgt_ne (h := hi))
  have e2 := lar_twice (l := l) (hgt_ne (h := lo)) (hgt_ne (h := hi)) fun p hp => by
    rw [hgt] at hp ⊢
    grind
  have e3 : dar (clp (crs (1, hi) (0, hi)) (clp (crs (0, lo) (1, lo)) l)) = lar (1, hi) (0, hi) (clp (crs (0, lo) (1, lo)) l) := rfl
  have e4 : dar (clp (crs (0, lo) (1, lo)) l) = lar (0, lo) (1, lo) l := rfl
  rw [e3]
  grind
/-- the heights' places have small denominators -/
theorem hgt_gr {l : List Pt} {C B M : Nat} {h w : Rat} {up : Bool} {m : Nat} (hl : ∀ p ∈ l, grp C B p) (h0 : 0 < C) (hy : ∀ p ∈ l, gr 6 16 (p.2 - w)) (hh : gr 6 16 (h - w)) (hm : l.length ≤ m) (hM : C * 192 ^ m ≤ M) :
    ∃ E : Nat, 0 < E ∧ E ≤ M ∧ (∀ p ∈ clp (hf h up) l, grp E B p) ∧ (∀ p ∈ clp (hf h up) l, gr 6 16 (p.2 - w)) ∧ C ∣ E := by
  have key : ∀ e ∈ prs l, xg (hf h up e.1) (hf h up e.2) → ∃ T : Nat, 0 < T ∧ T ≤ 192 ∧ dv T (xt (hf h up e.1) (hf h up e.2)) := fun e he hx => by
    obtain ⟨m1, m2⟩ := prs_mem (a := e.1) (b := e.2) he
    have hx' := hf_x.mp hx
    rw [hf_t hx']
    have y1 := hy _ m1
    have y2 := hy _ m2
    have d1 : dv 6 (h - e.1.2) := by
      rw [show h - e.1.2 = (h - w) - (e.1.2 - w) by grind]
      exact dv_sub hh.1 y1.1
    have d2 : gr 6 32 (e.2.2 - e.1.2) := by
      rw [show e.2.2 - e.1.2 = (e.2.2 - w) - (e.1.2 - w) by grind]
      exact gr_sub y2 y1
    have nz : e.2.2 - e.1.2 ≠ 0 := by
      unfold xg at hx'
      grind
    obtain ⟨T, a, b, c⟩ := div_den d1 d2 (by decide) nz
    exact ⟨T, a, by omega, c⟩
  obtain ⟨D, d0, d1, d2⟩ := com_den (f := hf h up) (M := 192) (by decide) (es := prs l) key
  rw [prs_len] at d1
  refine ⟨C * D, Nat.mul_pos h0 d0, Nat.le_trans (Nat.mul_le_mul_left C (Nat.le_trans d1 (Nat.pow_le_pow_right (by decide) hm))) hM, fun p hp => ?_, fun p hp => ?_, ⟨D, rfl⟩⟩
  · rcases clp_mem hp with ⟨hp, _⟩ | ⟨e, he, hx, rfl⟩
    · exact (hl p hp).mono ⟨D, rfl⟩ (Nat.le_refl _)
    · obtain ⟨m1, m2⟩ := prs_mem (a := e.1) (b := e.2) he
      have g1 := hl _ m1
      have g2 := hl _ m2
      have t := d2 e he hx
      obtain ⟨t0, t1⟩ := xt_in hx
      refine ⟨⟨dv_add (dv_mono g1.1.1 ⟨D, rfl⟩) ?_, mix_bd t0 t1 g1.1.2 g2.1.2⟩, ⟨dv_add (dv_mono g1.2.1 ⟨D, rfl⟩) ?_, mix_bd t0 t1 g1.2.2 g2.2.2⟩⟩
      · rw [Nat.mul_comm]
        exact dv_mul t (dv_sub g2.1.1 g1.1.1)
      · rw [Nat.mul_comm]
        exact dv_mul t (dv_sub g2.2.1 g1.2.1)
  · rcases clp_mem hp with ⟨hp, _⟩ | ⟨e, he, hx, rfl⟩
    · exact hy p hp
    · rw [hf_mix (hf_x.mp hx)]
      exact hh
section
variable {tb : Tb} [Has tb 1 cb_divisor 2 2] [Has tb 2 cb_least 3 2] [Has tb 32 cb_plus 2 2] [Has tb 45 cb_minus 2 2] [Has tb 46 cb_times 2 2] [Has tb 57 cb_sign 1 1] [Has tb 47 cb_is_fraction 2 1] [Has tb 48 cb_is_point 2 1] [Has tb 49 cb_look_points 3 1] [HasG tb 9 (.int 40)] [Has tb 50 cb_double_area 5 1]
/-- half an area, or nought of too few -/
theorem half_dar {k C B : Nat} {l : List Pt} {s : S} (f : Fine C B) (hl : l.length ≤ 1000) (hc : ∀ p ∈ l, grp C B p) : sem tb (k + 2) 2 [.int (dar l).num, .int (2 * (dar l).den)] s = some (.ok (frD (dar l / 2)), s) ∧ fit (dar l) := by
  have hf : fit (dar l) := f.fit2 (m := 2000) (by decide) ((dar_gr hc).mono (Nat.dvd_refl _) (by
    have := Nat.mul_le_mul_left (2 * (B * B)) hl
    omega))
  refine ⟨?_, hf⟩
  have e3 := least_eq (tb := tb) (k := k) (a := (dar l).num) (b := 2 * (dar l).den) (s := s) (by have := den_pos' (q := dar l); omega) ((half_den hf.2).mono (by decide))
  rw [half_divInt] at e3
  exact e3
theorem area_eq2 [Has tb 51 cb_area 2 1] {k C B : Nat} {l : List Pt} {s : S} (f : Fine C B) (h : PtsOk l) (hc : ∀ p ∈ l, grp C B p) : sem tb (k + 6) 51 [.lst (l.map ptD)] s = some (.ok (frD (dar l / 2)), s) := by
  rw [sem_of rfl]
  have hl := h.1
  have e1 := lookp_ok (tb := tb) (k := k) (s := s) h fun p hp => ⟨f.fit (hc p hp).1, f.fit (hc p hp).2⟩
  have e2 := dar_eq2 (tb := tb) (k := k + 1) (s := s) f (by omega) hc
  obtain ⟨e3, hf⟩ := half_dar (tb := tb) (k := k + 3) (s := s) f (by omega) hc
  simp [cb_area, startG, e1, e2, two_mul_den hf.2 (Nat.le_refl _), e3]
theorem left_eq [Has tb 56 cb_cross 4 3] [Has tb 70 cb_over 2 2] [Has tb 73 cb_cut_by 11 3] [Has tb 74 cb_half_of 1 1] [Has tb 75 cb_left_area 4 3] [HasG tb 15 (.tup [.int 0, .int 1])] {k C B E : Nat} {l : List Pt} {u v : Pt} {s : S} (f : FineC C B) (h : PtsOk l) (hc : ∀ p ∈ l, grp C B p) (hu : grp C B u) (hv : grp C B v) (huv : u ≠ v) (f2 : Fine E B) (hE : ∀ p ∈ clp (crs u v) l, grp E B p) :
    sem tb (k + 6) 75 [.lst (l.map ptD), ptD u, ptD v] s = some (.ok (frD (lar u v l / 2)), s) := by
  rw [sem_of rfl]
  have hl := h.1
  have F : ∀ {q : Rat}, gr C B q → fit q := fun z => f.fine.fit z
  have e1 := lookp_ok (tb := tb) (k := k) (s := s) h fun p hp => ⟨F (hc p hp).1, F (hc p hp).2⟩
  have i1 := ispt_ok (tb := tb) (k := k + 1) (s := s) (F hu.1) (F hu.2)
  have i2 := ispt_ok (tb := tb) (k := k + 1) (s := s) (F hv.1) (F hv.2)
  have cu := cutby_eq (tb := tb) (k := k) (s := s) f (by omega) hc hu hv
  have cl := clp_len (f := crs u v) (l := l)
  have e2 := dar_eq2 (tb := tb) (k := k + 1) (s := s) f2 (by omega) hE
  obtain ⟨e3, hf⟩ := half_dar (tb := tb) (k := k + 2) (s := s) f2 (by omega) hE
  have e4 : sem tb (k + 5) 74 [frD (dar (clp (crs u v) l))] s = some (.ok (frD (dar (clp (crs u v) l) / 2)), s) := by
    rw [sem_of rfl]
    simp [cb_half_of, startG, two_mul_den hf.2 (Nat.le_refl _), e3]
  have el : lar u v l = dar (clp (crs u v) l) := rfl
  rw [el]
  by_cases h3 : 2 < (clp (crs u v) l).length
  · have h3' : (2 : Int) < (clp (crs u v) l).length := by omega
    simp [cb_left_area, startG, e1, i1, i2, eq_pt, huv, cu, h3', e2, e4]
  · have h3' : ¬ (2 : Int) < (clp (crs u v) l).length := by omega
    have hz := dar_few (l := clp (crs u v) l) (by omega)
    rw [hz, show (0 : Rat) / 2 = 0 by decide +kernel]
    simp [cb_left_area, startG, e1, i1, i2, eq_pt, huv, cu, h3', gl_of]
    rfl
theorem half_gr {C B : Nat} {q : Rat} (h : gr C B q) : gr (2 * C) B (q / 2) := by
  obtain ⟨⟨i, hi⟩, b⟩ := h
  refine ⟨⟨i, ?_⟩, ?_⟩
  · rw [← hi, Rat.natCast_mul]
    have : ((2 : Nat) : Rat) = 2 := rfl
    rw [this]
    grind
  · unfold bd at *
    have : (0 : Rat) ≤ (B : Rat) := Rat.natCast_nonneg
    grind
theorem Fine.half {C B : Nat} (f : Fine C B) {l : List Pt} (hl : l.length ≤ 1000) (hc : ∀ p ∈ l, grp C B p) : FR.fit (dar l / 2) := by
  have h := half_gr (dar_gr hc)
  refine h.fit (Nat.mul_pos (by decide) f.sq.1) ?_ ?_
  · have := Nat.mul_lt_mul'' f.c f.c
    rw [← Nat.pow_add] at this
    have e : (2 : Nat) ^ 4381 = 2 ^ (2190 + 2190) * 2 := by rw [show (4381 : Nat) = (2190 + 2190) + 1 from rfl, Nat.pow_add]
    have : 2 ^ 4381 ≤ 2 ^ 4400 := pw (by decide)
    omega
  · have := f.b2
    have h1 := Nat.mul_le_mul_left (2 * (B * B)) hl
    have e : (2 : Nat) ^ 2011 = 2 ^ 2000 * 2048 := by rw [show (2011 : Nat) = 2000 + 11 from rfl, Nat.pow_add]
    have : 2 ^ 2011 ≤ 2 ^ 395600 := pw (by decide)
    omega
theorem within_eq [Has tb 72 cb_cut 12 3] [Has tb 71 cb_within 5 3] {k C B : Nat} {l : List Pt} {lo hi w : Rat} {s : S} (h : PtsOk l) (h0 : 0 < C) (hC : C < 2 ^ 20) (hB : B < 2 ^ 40) (hc : ∀ p ∈ l, grp C B p) (hlo : gr C B lo) (hhi : gr C B hi) (hle : lo ≤ hi)
    (hy : ∀ p ∈ l, gr 6 16 (p.2 - w)) (y1 : gr 6 16 (lo - w)) (y2 : gr 6 16 (hi - w)) : sem tb (k + 6) 71 [.lst (l.map ptD), frD lo, frD hi] s = some (.ok (frD ((lar (0, lo) (1, lo) l - lar (0, hi) (1, hi) l) / 2)), s) ∧ fit ((lar (0, lo) (1, lo) l - lar (0, hi) (1, hi) l) / 2) := by
  have hl := h.1
  have f : FineC C B := ⟨h0, Nat.lt_of_lt_of_le hC (pw (by decide)), Nat.lt_of_lt_of_le hB (pw (by decide))⟩
  have F : ∀ {q : Rat}, gr C B q → fit q := fun z => f.fine.fit z
  have b1 : C * 192 ^ 40 ≤ 2 ^ 340 := by
    have : C * 192 ^ 40 ≤ 2 ^ 20 * 192 ^ 40 := Nat.mul_le_mul_right _ (Nat.le_of_lt hC)
    exact Nat.le_trans this (by decide)
  obtain ⟨E1, p1, q1, r1, z1, d1⟩ := hgt_gr (up := true) hc h0 hy y1 hl.2 b1
  have l1 := clp_len (f := hf lo true) (l := l)
  have fE1 : FineC E1 B := ⟨p1, Nat.lt_of_le_of_lt q1 (Nat.pow_lt_pow_right (by decide) (by decide)), f.b⟩
  have b2 : E1 * 192 ^ 80 ≤ 2 ^ 980 := by
    have : E1 * 192 ^ 80 ≤ 2 ^ 340 * 192 ^ 80 := Nat.mul_le_mul_right _ q1
    exact Nat.le_trans this (by decide)
  obtain ⟨E2, p2, q2, r2, z2, d2⟩ := hgt_gr (up := false) (m := 80) r1 p1 z1 y2 (by omega) b2
  have l2 := clp_len (f := hf hi false) (l := clp (hf lo true) l)
  have fE2 : Fine E2 B := ⟨p2, Nat.lt_of_le_of_lt q2 (Nat.pow_lt_pow_right (by decide) (by decide)), f.fine.b⟩
  have e1 := lookp_ok (tb := tb) (k := k) (s := s) h fun p hp => ⟨F (hc p hp).1, F (hc p hp).2⟩
  have i1 := isfr_ok (tb := tb) (k := k + 2) (s := s) (F hlo)
  have i2 := isfr_ok (tb := tb) (k := k + 2) (s := s) (F hhi)
  have mi := minus_eq (tb := tb) (k := k + 2) (s := s) (F hhi) (F hlo)
  have sn : ¬ sg (hi - lo) < 0 := by
    have := sg_nn (a := hi - lo).mpr (by grind)
    omega
  have c1 := cut_eq (tb := tb) (k := k + 1) (up := true) (s := s) f (by omega) hc hlo
  have c2 := cut_eq (tb := tb) (k := k + 1) (up := false) (s := s) fE1 (by omega) r1 (hhi.mono d1 (Nat.le_refl _))
  have e2 := dar_eq2 (tb := tb) (k := k + 1) (s := s) fE2 (by omega) r2
  obtain ⟨e3, hf⟩ := half_dar (tb := tb) (k := k + 3) (s := s) fE2 (by omega) r2
  rw [← between hle]
  refine ⟨?_, fE2.half (by omega) r2⟩
  rw [sem_of rfl]
  generalize hQ : clp (FR.hf hi false) (clp (FR.hf lo true) l) = Q at *
  by_cases h3 : 2 < Q.length
  · have h3' : (2 : Int) < Q.length := by omega
    simp [cb_within, startG, e1, i1, i2, mi, sign_eq, sn, c1, c2, h3', e2, two_mul_den hf.2 (Nat.le_refl _), e3]
  · have h3' : ¬ (2 : Int) < Q.length := by omega
    have hz := dar_few (l := Q) (by omega)
    rw [hz] at e3 ⊢
    have e5 : sem tb (k + 5) 2 [.int 0, .int 2] s = some (.ok (frD (0 / 2)), s) := e3
    have m2 : binD .mul (.int 2) (.int 1) = some (.int 2) := rfl
    simp [cb_within, startG, e1, i1, i2, mi, sign_eq, sn, c1, c2, h3', m2, e5]
end
end FR
/-! FrNum: the laws' drawn numbers and points, bounded sharply. -/
namespace FR
open PySem (Str)
/-- a drawn number: of halves or thirds, from 0 to 12 -/
def nm (q : Rat) : Prop := dv 6 q ∧ 0 ≤ q ∧ q ≤ 12
def nmp (p : Pt) : Prop := nm p.1 ∧ nm p.2
theorem nm_int {i : Int} (h0 : 0 ≤ i) (h1 : i ≤ 12) : nm (i : Rat) := ⟨⟨i * 6, by rw [Rat.intCast_mul]; rfl⟩, Rat.intCast_le_intCast.mpr h0, Rat.intCast_le_intCast.mpr h1⟩
theorem nm_di {r j : Int} (h0 : 0 ≤ r) (h1 : r ≤ 12) (h2 : 1 ≤ j) (h3 : j ≤ 3) : nm (Rat.divInt r j) := by
  have r0 : (0 : Rat) ≤ (r : Rat) := Rat.intCast_le_intCast.mpr h0
  have r1 : (r : Rat) ≤ 12 := Rat.intCast_le_intCast.mpr h1
  rw [Rat.divInt_eq_div]
  have c6 : ((6 : Nat) : Rat) = 6 := rfl
  rcases (by omega : j = 1 ∨ j = 2 ∨ j = 3) with rfl | rfl | rfl
  · rw [show (((1 : Int)) : Rat) = 1 from rfl]
    exact ⟨⟨r * 6, by rw [Rat.intCast_mul, c6, show (((6 : Int)) : Rat) = 6 from rfl]; grind⟩, by grind, by grind⟩
  · rw [show (((2 : Int)) : Rat) = 2 from rfl]
    exact ⟨⟨r * 3, by rw [Rat.intCast_mul, c6, show (((3 : Int)) : Rat) = 3 from rfl]; grind⟩, by grind, by grind⟩
  · rw [show (((3 : Int)) : Rat) = 3 from rfl]
    exact ⟨⟨r * 2, by rw [Rat.intCast_mul, c6, show (((2 : Int)) : Rat) = 2 from rfl]; grind⟩, by grind, by grind⟩
theorem nm.gr {q : Rat} (h : nm q) : gr 6 16 q := by
  refine ⟨h.1, ?_⟩
  unfold bd
  have : ((16 : Nat) : Rat) = 16 := rfl
  have := h.2
  grind
theorem nmp.grp {p : Pt} (h : nmp p) : grp 6 16 p := ⟨h.1.gr, h.2.gr⟩
section
variable {tb : Tb} [Has tb 9 cb_w_cell 2 2] [Has tb 10 cb_w_mix 3 2] [Has tb 11 cb_w_draw 3 3] [Has tb 12 cb_w_pick 3 3] [Has tb 13 cb_w_least 5 2] [Has tb 52 cb_w_number 2 2]
theorem W_numberN {k n : Nat} {ns : List Int} {Q : D → S → Prop} (hn : n < 800000) (h : ∀ q : Rat, nm q → Q (frD q) (some (n + 2))) : W (sem tb (k + 5) 52 [.scr ns, .town] (some n)) Q := by
  rw [sem_of rfl, W_run]
  simp only [cb_w_number, startG]
  simp
  refine W_draw (by omega) (by decide) fun r r0 r1 => ?_
  refine W_pickI (fun j => 1 ≤ j ∧ j ≤ 3) (by omega) (by simp) (by simp) fun j ⟨j1, j2⟩ => ?_
  rw [wleast_eq (by omega) (bt.mono (n := 2) (bt_of (by omega) (by omega)) (by decide))]
  simp
  exact h _ (nm_di r0 (by omega) j1 j2)
variable [Has tb 53 cb_w_points 6 2]
theorem quad_okN : PtsOk quad ∧ ∀ p ∈ quad, nmp p := by
  refine ⟨⟨by decide, by decide⟩, fun p hp => ?_⟩
  unfold quad at hp
  simp only [List.mem_cons, List.not_mem_nil, or_false] at hp
  rcases hp with rfl | rfl | rfl | rfl
  · exact ⟨nm_int (i := 0) (by decide) (by decide), nm_int (i := 0) (by decide) (by decide)⟩
  · exact ⟨nm_int (i := 5) (by decide) (by decide), nm_di (r := 1) (j := 2) (by decide) (by decide) (by decide) (by decide)⟩
  · exact ⟨nm_int (i := 3) (by decide) (by decide), nm_int (i := 4) (by decide) (by decide)⟩
  · exact ⟨nm_int (i := 0) (by decide) (by decide), nm_di (r := 7) (j := 3) (by decide) (by decide) (by decide) (by decide)⟩
def ptsJ (n : Nat) (ns : List Int) (c : D) (i : Nat) (g : G) (s : S) : Prop := ∃ (l : List Pt) (m : Nat) (x y : Sl), l.length ≤ i ∧ neC l ∧ (∀ p ∈ l, nmp p) ∧ s = some m ∧ m ≤ n + 10 + 10 * i ∧ g = [.dat (.scr ns), .dat .town, .dat (.lst (l.map ptD)), .dat c, x, y]
theorem W_pointsN {k n : Nat} {ns : List Int} {Q : D → S → Prop} (hn : n < 700000) (h : ∀ (l : List Pt) (m : Nat), PtsOk l → (∀ p ∈ l, nmp p) → m ≤ n + 1000 → Q (.lst (l.map ptD)) (some m)) : W (sem tb (k + 6) 53 [.scr ns, .town] (some n)) Q := by
  rw [sem_of rfl, W_run]
  simp only [cb_w_points, startG]
  simp
  refine W_draw (by omega) (by decide) fun nr nr0 nr1 => ?_
  simp
  refine W_pickI (fun j => 1 ≤ j ∧ j ≤ 38) (by omega) (by simp) (by simp) fun j ⟨j1, j2⟩ => ?_
  refine W_draw (by omega) (by omega) fun r r0 r1 => ?_
  simp
  rw [rng_ok (by decide) (by unfold SZ; omega)]
  simp
  refine W_range (I := ptsJ n ns (.bl (nr == 0))) ⟨[], _, .un, .un, Nat.le_refl _, trivial, by simp, rfl, by omega, rfl⟩ ?_ ?_
  · rintro i g s hi ⟨l, m, x, y, hl, hne, hco, rfl, hm, rfl⟩
    simp
    refine W_numberN (by omega) fun q1 hq1 => ?_
    refine W_numberN (by omega) fun q2 hq2 => ?_
    have step : ∀ (p : Pt) (m' : Nat), nmp p → m' ≤ m + 6 → ptsJ n ns (.bl (nr == 0)) (i + 1) [.dat (.scr ns), .dat .town, .dat (.lst ((if l = [] ∨ l.getLast? ≠ some p then l ++ [p] else l).map ptD)), .dat (.bl (nr == 0)), .dat (.int i), .dat (ptD p)] (some m') := by
      intro p m' hp hm'
      refine ⟨_, m', _, _, ?_, ?_, ?_, rfl, by omega, rfl⟩
      · split
        · rw [List.length_append, List.length_singleton]
          omega
        · omega
      · split
        · rename_i hc
          refine neC_snoc hne fun z hz e => ?_
          subst e
          rcases hc with hc | hc
          · subst hc
            cases hz
          · exact hc hz
        · exact hne
      · split
        · intro x hx
          rcases List.mem_append.mp hx with hx | hx
          · exact hco x hx
          · cases List.mem_singleton.mp hx
            exact hp
        · exact hco
    refine W_ifB (fun hc => ?_) fun hc => ?_
    · simp [-evS_asg]
      refine W_draw (by omega) (by decide) fun u1 a1 b1 => ?_
      refine W_draw (by omega) (by decide) fun u2 a2 b2 => ?_
      have e : D.tup [.tup [.int u1, .int 1], .tup [.int u2, .int 1]] = ptD ((u1 : Rat), (u2 : Rat)) := rfl
      simp only [e]
      rw [pts_tail (by omega)]
      simp only [rb_ok, seqK_nx, evSs_nil, W_ok, stepK_nx]
      exact step _ _ ⟨nm_int a1 (by omega), nm_int a2 (by omega)⟩ (by omega)
    · have e : D.tup [frD q1, frD q2] = ptD (q1, q2) := rfl
      simp only [W_ok, seqK_nx, evSs_cons, e]
      rw [pts_tail (by omega)]
      simp only [rb_ok, seqK_nx, evSs_nil, W_ok, stepK_nx]
      exact step _ _ ⟨hq1, hq2⟩ (by omega)
  · rintro g s ⟨l, m, x, y, hl, hne, hco, rfl, hm, rfl⟩
    simp
    have hq := h quad m quad_okN.1 quad_okN.2 (by omega)
    by_cases h3 : l.length < 3
    · have : (l.length : Int) < 3 := by omega
      simp [this, h3, quad_d, hq]
    · have hl0 : l ≠ [] := by
        rintro rfl
        simp at h3
      obtain ⟨z, hz⟩ : ∃ z, l.getLast? = some z := ⟨_, List.getLast?_eq_some_getLast hl0⟩
      obtain ⟨x1, hx1⟩ : ∃ x, l.head? = some x := by
        cases l with
        | nil => exact absurd rfl hl0
        | cons x l => exact ⟨x, rfl⟩
      have e2 : atL (l.map ptD) (-1) = some (ptD z) := by
        rw [atL_map, at_last hl0, hz]
        rfl
      have e3 : atL (l.map ptD) 0 = some (ptD x1) := by
        rw [atL_map, at_first, hx1]
        rfl
      have h3' : ¬ (l.length : Int) < 3 := by omega
      by_cases hxz : x1 = z
      · simp [h3', e2, e3, eq_pt, hxz, quad_d, hq]
      · simp [h3', e2, e3, eq_pt, hxz]
        refine h l m ⟨by omega, neC_prs hne fun x z' hx hz' => ?_⟩ hco (by omega)
        rw [hx1] at hx
        rw [hz] at hz'
        cases hx
        cases hz'
        exact hxz
end
end FR
/-! FrWh: wishes over while; the law's sorting of fractions. -/
namespace FR
open PySem (Str)
def whK (J : G → S → Prop) (Q : Fl → S → Prop) (f : Fl) (s : S) : Prop := match f with
  | .nx g => J g s
  | .ct g => J g s
  | .bk g => Q (.nx g) s
  | .rt d => Q (.rt d) s
@[simp] theorem whK_nx {J : G → S → Prop} {Q : Fl → S → Prop} {g : G} {s : S} : whK J Q (.nx g) s = J g s := rfl
@[simp] theorem whK_ct {J : G → S → Prop} {Q : Fl → S → Prop} {g : G} {s : S} : whK J Q (.ct g) s = J g s := rfl
@[simp] theorem whK_bk {J : G → S → Prop} {Q : Fl → S → Prop} {g : G} {s : S} : whK J Q (.bk g) s = Q (.nx g) s := rfl
@[simp] theorem whK_rt {J : G → S → Prop} {Q : Fl → S → Prop} {d : D} {s : S} : whK J Q (.rt d) s = Q (.rt d) s := rfl
/-- a while, by a measure -/
theorem W_while {t : G → S → EV Bool} {b : G → S → EV Fl} {Q : Fl → S → Prop} (I : Nat → G → S → Prop) (step : ∀ (m : Nat) (g : G) (s : S), I m g s → W (t g s) fun c s1 => if c = true then W (b g s1) (whK (fun g2 s2 => ∃ m', m' < m ∧ I m' g2 s2) Q) else Q (.nx g) s1) :
    ∀ {m : Nat} {g : G} {s : S}, I m g s → W (whO t b g s) Q := by
  have key : ∀ (m : Nat) (g : G) (s : S), I m g s → ∃ n, W (whF t b n g s) Q := by
    intro m
    induction m using Nat.strongRecOn with
    | _ m ih =>
      intro g s hI
      obtain ⟨c, s1, e1, h1⟩ := step m g s hI
      cases c with
      | false =>
        refine ⟨1, ?_⟩
        rw [whF, e1, rb_ok, if_neg Bool.false_ne_true, W_ok]
        exact h1
      | true =>
        rw [if_pos rfl] at h1
        obtain ⟨f, s2, e2, h2⟩ := h1
        cases f with
        | nx g2 =>
          obtain ⟨m', hm, hI2⟩ := h2
          obtain ⟨n, hn⟩ := ih m' hm g2 s2 hI2
          refine ⟨n + 1, ?_⟩
          rw [whF, e1, rb_ok, if_pos rfl, e2, rb_ok]
          exact hn
        | ct g2 =>
          obtain ⟨m', hm, hI2⟩ := h2
          obtain ⟨n, hn⟩ := ih m' hm g2 s2 hI2
          refine ⟨n + 1, ?_⟩
          rw [whF, e1, rb_ok, if_pos rfl, e2, rb_ok]
          exact hn
        | bk g2 =>
          refine ⟨1, ?_⟩
          rw [whF, e1, rb_ok, if_pos rfl, e2, rb_ok, W_ok]
          exact h2
        | rt d =>
          refine ⟨1, ?_⟩
          rw [whF, e1, rb_ok, if_pos rfl, e2, rb_ok, W_ok]
          exact h2
  intro m g s hI
  obtain ⟨n, f, s2, e, q⟩ := key m g s hI
  exact ⟨f, s2, whO_of e, q⟩
/-! ### sorted fractions -/
def insQ (x : Rat) : List Rat → List Rat
  | [] => [x]
  | y :: r => if y < x then y :: insQ x r else x :: y :: r
def upTo (x : Rat) : List Rat → Nat
  | [] => 0
  | y :: r => if y < x then upTo x r + 1 else 0
theorem ins_upTo {x : Rat} : ∀ {l : List Rat}, insQ x l = l.take (upTo x l) ++ [x] ++ l.drop (upTo x l)
  | [] => rfl
  | y :: r => by
    unfold insQ upTo
    split
    · rw [ins_upTo (l := r)]
      rfl
    · rfl
theorem upTo_le {x : Rat} : ∀ {l : List Rat}, upTo x l ≤ l.length
  | [] => Nat.le_refl _
  | y :: r => by
    unfold upTo
    split
    · exact Nat.succ_le_succ upTo_le
    · exact Nat.zero_le _
theorem upTo_lt {x : Rat} : ∀ {l : List Rat} {i : Nat} {y : Rat}, l[i]? = some y → i < upTo x l → y < x
  | y :: r, 0, z, h, hi => by
    cases h
    unfold upTo at hi
    split at hi
    · assumption
    · omega
  | y :: r, i + 1, z, h, hi => by
    unfold upTo at hi
    split at hi
    · exact upTo_lt (l := r) (i := i) h (by omega)
    · omega
theorem upTo_at {x : Rat} : ∀ {l : List Rat} {y : Rat}, l[upTo x l]? = some y → ¬ y < x
  | y :: r, z, h => by
    unfold upTo at h
    split at h
    · exact upTo_at (l := r) h
    · cases h
      assumption
abbrev Srt (l : List Rat) : Prop := l.Pairwise (· ≤ ·)
theorem ins_mem {x y : Rat} : ∀ {l : List Rat}, y ∈ insQ x l ↔ y = x ∨ y ∈ l
  | [] => by simp [insQ]
  | z :: r => by
    unfold insQ
    split
    · rw [List.mem_cons, List.mem_cons, ins_mem (l := r)]
      grind
    · simp
theorem ins_srt {x : Rat} : ∀ {l : List Rat}, Srt l → Srt (insQ x l)
  | [], _ => by simp [insQ]
  | z :: r, h => by
    have h' := List.pairwise_cons.mp h
    unfold insQ
    split
    · rename_i hz
      refine List.pairwise_cons.mpr ⟨fun y hy => ?_, ins_srt h'.2⟩
      rcases ins_mem.mp hy with rfl | hy
      · grind
      · exact h'.1 y hy
    · rename_i hz
      refine List.pairwise_cons.mpr ⟨fun y hy => ?_, h⟩
      rcases List.mem_cons.mp hy with rfl | hy
      · grind
      · have := h'.1 y hy
        grind
theorem ins_len {x : Rat} : ∀ {l : List Rat}, (insQ x l).length = l.length + 1
  | [] => rfl
  | y :: r => by
    unfold insQ
    split
    · rw [List.length_cons, ins_len, List.length_cons]
    · rfl
def srtQ (l : List Rat) : List Rat := l.foldl (fun a x => insQ x a) []
theorem fold_mem {y : Rat} : ∀ {l a : List Rat}, y ∈ l.foldl (fun a x => insQ x a) a ↔ y ∈ a ∨ y ∈ l
  | [], a => by simp
  | x :: l, a => by
    rw [List.foldl_cons, fold_mem (l := l), ins_mem, List.mem_cons]
    grind
theorem fold_srt : ∀ {l a : List Rat}, Srt a → Srt (l.foldl (fun a x => insQ x a) a)
  | [], a, h => h
  | x :: l, a, h => by
    rw [List.foldl_cons]
    exact fold_srt (ins_srt h)
theorem fold_len : ∀ {l a : List Rat}, (l.foldl (fun a x => insQ x a) a).length = a.length + l.length
  | [], a => by simp
  | x :: l, a => by
    rw [List.foldl_cons, fold_len, ins_len, List.length_cons]
    omega
theorem frs_len {l : List Rat} : (l.map frD).length = l.length := List.length_map ..
section
variable {tb : Tb} [Has tb 13 cb_w_least 5 2] [Has tb 15 cb_w_minus 2 2] [Has tb 62 cb_w_sign 1 1] [Has tb 76 cb_w_sorted 4 1]
def srtI (qs : List Rat) (s : S) (i : Nat) (g : G) (s' : S) : Prop := ∃ x y, s' = s ∧ g = [.dat (.lst (qs.map frD)), .dat (.lst ((srtQ (qs.take i)).map frD)), x, y]
theorem wsorted_eq {k : Nat} {qs : List Rat} {s : S} (hl : qs.length ≤ 1000) (hf : ∀ q ∈ qs, fit q) : sem tb (k + 3) 76 [.lst (qs.map frD)] s = some (.ok (.lst ((srtQ qs).map frD)), s) := by
  have w : W (sem tb (k + 3) 76 [.lst (qs.map frD)] s) fun v s' => v = .lst ((srtQ qs).map frD) ∧ s' = s := by
    rw [sem_of rfl, W_run]
    simp only [cb_w_sorted, startG]
    simp
    refine W_forL (I := srtI qs s) ⟨.un, .un, rfl, by simp [srtQ]⟩ ?_ ?_
    · rintro i d g s' hd ⟨x, y, rfl, rfl⟩
      rw [List.getElem?_map] at hd
      obtain ⟨q, hq, rfl⟩ := Option.map_eq_some_iff.mp hd
      have tk : srtQ (qs.take (i + 1)) = insQ q (srtQ (qs.take i)) := by
        unfold srtQ
        rw [List.take_add_one, hq, List.foldl_append]
        rfl
      have al : (srtQ (qs.take i)).length ≤ 1000 := by
        unfold srtQ
        rw [fold_len, List.length_take]
        simp
        omega
      have am : ∀ z ∈ srtQ (qs.take i), fit z := fun z hz => by
        rcases fold_mem.mp hz with hz | hz
        · cases hz
        · exact hf z (List.mem_of_mem_take hz)
      have fq := hf q (List.mem_of_getElem? hq)
      have nx : ∀ z : Sl, srtI qs s' (i + 1) [.dat (.lst (qs.map frD)), .dat (.lst ((insQ q (srtQ (qs.take i))).map frD)), .dat (frD q), z] s' := fun z => ⟨_, _, rfl, by rw [tk]⟩
      generalize srtQ (qs.take i) = a at *
      refine ⟨_, rfl, ?_⟩
      simp
      refine W_while (fun m g s2 => ∃ j : Nat, j ≤ upTo q a ∧ m = upTo q a - j ∧ s2 = s' ∧ g = [.dat (.lst (qs.map frD)), .dat (.lst (a.map frD)), .dat (frD q), .dat (.int j)]) ?_ ⟨0, Nat.zero_le _, rfl, rfl, rfl⟩
      rintro m g s2 ⟨j, hj, rfl, rfl, rfl⟩
      have ua := upTo_le (x := q) (l := a)
      by_cases h1 : j < a.length
      · obtain ⟨z, hz⟩ : ∃ z, a[j]? = some z := ⟨_, List.getElem?_eq_getElem h1⟩
        have h1' : (j : Int) < a.length := by omega
        have az : atL a (j : Int) = some z := by rw [at_nat]; exact hz
        have mi := wminus_eq (tb := tb) (k := k) (s := s2) (am z (List.mem_of_getElem? hz)) fq
        by_cases h2 : z < q
        · have sn : sg (z - q) < 0 := by
            unfold sg
            rw [if_neg (by grind), if_pos (by grind)]
            decide
          have hju : j < upTo q a := by
            rcases Nat.lt_or_ge j (upTo q a) with h | h
            · exact h
            · have : j = upTo q a := by omega
              subst this
              exact absurd h2 (upTo_at hz)
          simp [h1', atL_map, az, mi, wsign_eq, sn]
          exact ⟨upTo q a - (j + 1), by omega, j + 1, by omega, rfl, by omega⟩
        · have sn : ¬ sg (z - q) < 0 := by
            have := sg_nn (a := z - q).mpr (by grind)
            omega
          have hju : j = upTo q a := by
            rcases Nat.lt_or_ge j (upTo q a) with h | h
            · exact absurd (upTo_lt hz h) h2
            · omega
          have c1 : slcD (.lst (a.map frD)) none (some (j : Int)) = some (.lst ((a.take j).map frD)) := by
            rw [slc_lst, cutL_map, cut_to (by omega), Int.toNat_natCast]
          have c2 : slcD (.lst (a.map frD)) (some (j : Int)) none = some (.lst ((a.drop j).map frD)) := by
            rw [slc_lst, cutL_map, cut_from (by omega) (by omega), Int.toNat_natCast]
          have a1 : binD .add (.lst ((a.take j).map frD)) (.lst [frD q]) = some (.lst ((a.take j ++ [q]).map frD)) := add_map (ys := [q]) (by simp [SZ]; omega)
          have a2 : binD .add (.lst ((a.take j ++ [q]).map frD)) (.lst ((a.drop j).map frD)) = some (.lst ((a.take j ++ [q] ++ a.drop j).map frD)) := add_map (by simp [SZ]; omega)
          have e : a.take j ++ [q] ++ a.drop j = insQ q a := by rw [ins_upTo, hju]
          rw [e] at a2
          generalize a.take j = u1 at *
          generalize a.drop j = u2 at *
          simp [h1', atL_map, az, mi, wsign_eq, sn, c1, c2, a1, a2, -List.map_append]
          exact nx _
      · have h1' : ¬ (j : Int) < a.length := by omega
        have hju : j = upTo q a := by omega
        have c1 : slcD (.lst (a.map frD)) none (some (j : Int)) = some (.lst ((a.take j).map frD)) := by
          rw [slc_lst, cutL_map, cut_to (by omega), Int.toNat_natCast]
        have c2 : slcD (.lst (a.map frD)) (some (j : Int)) none = some (.lst ((a.drop j).map frD)) := by
          rw [slc_lst, cutL_map, cut_from (by omega) (by omega), Int.toNat_natCast]
        have a1 : binD .add (.lst ((a.take j).map frD)) (.lst [frD q]) = some (.lst ((a.take j ++ [q]).map frD)) := add_map (ys := [q]) (by simp [SZ]; omega)
        have a2 : binD .add (.lst ((a.take j ++ [q]).map frD)) (.lst ((a.drop j).map frD)) = some (.lst ((a.take j ++ [q] ++ a.drop j).map frD)) := add_map (by simp [SZ]; omega)
        have e : a.take j ++ [q] ++ a.drop j = insQ q a := by rw [ins_upTo, hju]
        rw [e] at a2
        generalize a.take j = u1 at *
        generalize a.drop j = u2 at *
        simp [h1', c1, c2, a1, a2, -List.map_append]
        exact nx _
    · rintro g s' ⟨x, y, rfl, rfl⟩
      simp
  obtain ⟨v, s', e, rfl, rfl⟩ := w
  exact e
end
end FR
/-! FrHull: going around points, pure. -/
namespace FR
open PySem (Str)
/-- det of two ways -/
def dt (a b : Pt) : Rat := a.1 * b.2 - a.2 * b.1
def vec (a b : Pt) : Pt := (b.1 - a.1, b.2 - a.2)
theorem crs_dt {o a b : Pt} : crs o a b = dt (vec o a) (vec o b) := rfl
/-- how far, squared -/
def far2 (a b : Pt) : Rat := (a.1 - b.1) * (a.1 - b.1) + (a.2 - b.2) * (a.2 - b.2)
/-- q is seen from v behind the way d, on the left -/
def Lft (d v q : Pt) : Prop := 0 < dt d (vec v q) ∨ ∃ β : Rat, 0 < β ∧ vec v q = (-β * d.1, -β * d.2)
theorem Lft.nn {d v q : Pt} (h : Lft d v q) : 0 ≤ dt d (vec v q) := by
  rcases h with h | ⟨β, _, e⟩
  · grind
  · rw [e]
    unfold dt
    grind
theorem plu {d a b c : Pt} : dt d b * dt a c = dt d a * dt b c + dt d c * dt a b := by
  unfold dt
  grind
/-- seen from v all lie one behind the other -/
theorem lft_trans {d v a b c : Pt} (ha : Lft d v a) (hb : Lft d v b) (hc : Lft d v c) (h1 : 0 ≤ crs v a b) (h2 : 0 ≤ crs v b c) : 0 ≤ crs v a c := by
  rw [crs_dt] at *
  have na := ha.nn
  have nc := hc.nn
  rcases hb with hb | ⟨β, hβ, e⟩
  · have e := plu (d := d) (a := vec v a) (b := vec v b) (c := vec v c)
    have p1 := Rat.mul_nonneg na h2
    have p2 := Rat.mul_nonneg nc h1
    have p3 : 0 ≤ dt d (vec v b) * dt (vec v a) (vec v c) := by grind
    by_cases h : 0 ≤ dt (vec v a) (vec v c)
    · exact h
    · exfalso
      have := Rat.mul_pos hb (show 0 < -dt (vec v a) (vec v c) by grind)
      grind
  · rw [e] at h2
    have h3 : dt (-β * d.1, -β * d.2) (vec v c) = -β * dt d (vec v c) := by
      unfold dt
      grind
    rw [h3] at h2
    rcases hc with hc | ⟨γ, hγ, e2⟩
    · have := Rat.mul_pos hβ hc
      grind
    · rw [e2]
      have h4 : dt (vec v a) (-γ * d.1, -γ * d.2) = γ * dt d (vec v a) := by
        unfold dt
        grind
      rw [h4]
      exact Rat.mul_nonneg (by grind) na
/-- in line: the same way -/
theorem lft_line {d v a b : Pt} (ha : Lft d v a) (hb : Lft d v b) (h : crs v a b = 0) (hv : a ≠ v) : ∃ r : Rat, 0 < r ∧ vec v b = (r * (vec v a).1, r * (vec v a).2) := by
  rw [crs_dt] at h
  have e := plu (d := d) (a := vec v a) (b := vec v b) (c := vec v a)
  generalize hA : vec v a = A at *
  generalize hB : vec v b = B at *
  rcases ha with ha | ⟨α, hα, ea⟩
  · rcases hb with hb | ⟨β, hβ, eb⟩
    · rw [hA] at ha
      rw [hB] at hb
      refine ⟨dt d B / dt d A, ?_, ?_⟩
      · rw [Rat.div_def]
        exact Rat.mul_pos hb (Rat.inv_pos.mpr ha)
      · have k1 : dt d A * B.1 = dt d B * A.1 := by
          unfold dt at *
          grind
        have k2 : dt d A * B.2 = dt d B * A.2 := by
          unfold dt at *
          grind
        have nz : dt d A ≠ 0 := by grind
        refine Prod.ext ?_ ?_
        · show B.1 = dt d B / dt d A * A.1
          grind
        · show B.2 = dt d B / dt d A * A.2
          grind
    · exfalso
      rw [hA] at ha
      rw [hB] at eb
      rw [eb] at h
      have : dt A (-β * d.1, -β * d.2) = β * dt d A := by
        unfold dt
        grind
      rw [this] at h
      have := Rat.mul_pos hβ ha
      grind
  · rcases hb with hb | ⟨β, hβ, eb⟩
    · exfalso
      rw [hA] at ea
      rw [hB] at hb
      rw [ea] at h
      have : dt (-α * d.1, -α * d.2) B = -α * dt d B := by
        unfold dt
        grind
      rw [this] at h
      have := Rat.mul_pos hα hb
      grind
    · rw [hA] at ea
      rw [hB] at eb
      refine ⟨β / α, ?_, ?_⟩
      · rw [Rat.div_def]
        exact Rat.mul_pos hβ (Rat.inv_pos.mpr hα)
      · rw [ea, eb]
        refine Prod.ext ?_ ?_
        · show -β * d.1 = β / α * (-α * d.1)
          grind
        · show -β * d.2 = β / α * (-α * d.2)
          grind
theorem far_vec {v a : Pt} : far2 v a = (vec v a).1 * (vec v a).1 + (vec v a).2 * (vec v a).2 := by
  unfold far2 vec
  grind
theorem sq_nn {x : Rat} : 0 ≤ x * x := by
  by_cases h : 0 ≤ x
  · exact Rat.mul_nonneg h h
  · have := Rat.mul_nonneg (a := -x) (b := -x) (by grind) (by grind)
    grind
theorem far_pos {v a : Pt} (h : a ≠ v) : 0 < far2 v a := by
  unfold far2
  have h1 := sq_nn (x := v.1 - a.1)
  have h2 := sq_nn (x := v.2 - a.2)
  by_cases e : (v.1 - a.1) * (v.1 - a.1) + (v.2 - a.2) * (v.2 - a.2) = 0
  · exfalso
    have e1 : (v.1 - a.1) * (v.1 - a.1) = 0 := by grind
    have e2 : (v.2 - a.2) * (v.2 - a.2) = 0 := by grind
    have e3 : v.1 - a.1 = 0 := by grind
    have e4 : v.2 - a.2 = 0 := by grind
    exact h (Prod.ext (by grind) (by grind))
  · grind
/-- b is best of those looked at -/
def Best (v b q : Pt) : Prop := 0 ≤ crs v b q ∧ (crs v b q = 0 → far2 v q ≤ far2 v b)
def bst (v : Pt) : Option Pt → Pt → Option Pt
  | none, p => some p
  | some b, p => if crs v b p < 0 then some p else if 0 < crs v b p then some b else if far2 v b < far2 v p then some p else some b
theorem bst_some {v b p : Pt} : bst v (some b) p = if crs v b p < 0 then some p else if 0 < crs v b p then some b else if far2 v b < far2 v p then some p else some b := rfl
def bestOf (v : Pt) (ps : List Pt) : Option Pt := ps.foldl (bst v) none
theorem crs_oo {v b : Pt} : crs v b b = 0 := by
  unfold crs
  grind
/-- going over the points -/
theorem best_fold {d v : Pt} : ∀ {ps qs : List Pt} {b : Pt}, (∀ q ∈ qs, Lft d v q ∧ q ≠ v) → (∀ q ∈ ps, Lft d v q ∧ q ≠ v) → b ∈ qs → (∀ q ∈ qs, Best v b q) → ∃ c, ps.foldl (bst v) (some b) = some c ∧ c ∈ qs ++ ps ∧ ∀ q ∈ qs ++ ps, Best v c q
  | [], qs, b, _, _, hb, h => ⟨b, rfl, by simpa using hb, fun q hq => h q (by simpa using hq)⟩
  | p :: ps, qs, b, h1, h2, hb, h => by
    rw [List.foldl_cons]
    have hp := h2 p List.mem_cons_self
    have hlb := h1 b hb
    have go : ∀ c, bst v (some b) p = some c → (c = b ∨ c = p) → (∀ q ∈ qs ++ [p], Best v c q) → ∃ c, ps.foldl (bst v) (bst v (some b) p) = some c ∧ c ∈ qs ++ p :: ps ∧ ∀ q ∈ qs ++ p :: ps, Best v c q := by
      intro c e hc hB
      rw [e]
      have := best_fold (d := d) (v := v) (ps := ps) (qs := qs ++ [p]) (b := c) (fun q hq => by
        rcases List.mem_append.mp hq with hq | hq
        · exact h1 q hq
        · cases List.mem_singleton.mp hq
          exact hp) (fun q hq => h2 q (List.mem_cons_of_mem _ hq)) (by
        rcases hc with rfl | rfl
        · exact List.mem_append_left _ hb
        · exact List.mem_append_right _ List.mem_cons_self) hB
      rw [List.append_assoc, List.singleton_append] at this
      exact this
    have hself : ∀ {x : Pt}, Best v x x := fun {x} => ⟨by rw [crs_oo]; exact Rat.le_refl, fun _ => Rat.le_refl⟩
    by_cases c1 : crs v b p < 0
    · refine go p (by rw [bst_some, if_pos c1]) (.inr rfl) fun q hq => ?_
      rcases List.mem_append.mp hq with hq | hq
      · have hq' := h1 q hq
        have hbq := h q hq
        have hpb : 0 ≤ crs v p b := by
          rw [crs_anti]
          grind
        refine ⟨lft_trans hp.1 hlb.1 hq'.1 hpb hbq.1, fun e => ?_⟩
        exfalso
        obtain ⟨r, hr, er⟩ := lft_line hp.1 hq'.1 e hp.2
        have k : crs v b q = r * crs v b p := by
          rw [crs_dt, crs_dt, er]
          unfold dt
          grind
        have := Rat.mul_pos hr (show 0 < -crs v b p by grind)
        have := hbq.1
        grind
      · cases List.mem_singleton.mp hq
        exact hself
    · by_cases c2 : 0 < crs v b p
      · refine go b (by rw [bst_some, if_neg c1, if_pos c2]) (.inl rfl) fun q hq => ?_
        rcases List.mem_append.mp hq with hq | hq
        · exact h q hq
        · cases List.mem_singleton.mp hq
          exact ⟨by grind, fun e => by grind⟩
      · have c0 : crs v b p = 0 := by grind
        by_cases c3 : far2 v b < far2 v p
        · refine go p (by rw [bst_some, if_neg c1, if_neg c2, if_pos c3]) (.inr rfl) fun q hq => ?_
          rcases List.mem_append.mp hq with hq | hq
          · have hbq := h q hq
            obtain ⟨r, hr, er⟩ := lft_line hlb.1 hp.1 c0 hlb.2
            have k : crs v p q = r * crs v b q := by
              rw [crs_dt, crs_dt, er]
              unfold dt
              grind
            refine ⟨by rw [k]; exact Rat.mul_nonneg (by grind) hbq.1, fun e => ?_⟩
            rw [k] at e
            have : crs v b q = 0 := by grind
            have := hbq.2 this
            grind
          · cases List.mem_singleton.mp hq
            exact hself
        · refine go b (by rw [bst_some, if_neg c1, if_neg c2, if_neg c3]) (.inl rfl) fun q hq => ?_
          rcases List.mem_append.mp hq with hq | hq
          · exact h q hq
          · cases List.mem_singleton.mp hq
            exact ⟨by grind, fun _ => by grind⟩
theorem bestOf_ok {d v : Pt} {ps : List Pt} (h : ∀ q ∈ ps, Lft d v q ∧ q ≠ v) : (ps = [] ∧ bestOf v ps = none) ∨ ∃ c ∈ ps, bestOf v ps = some c ∧ ∀ q ∈ ps, Best v c q := by
  cases ps with
  | nil => exact .inl ⟨rfl, rfl⟩
  | cons p ps =>
    right
    obtain ⟨c, e, m, k⟩ := best_fold (d := d) (v := v) (ps := ps) (qs := [p]) (b := p) (fun q hq => by
      cases List.mem_singleton.mp hq
      exact h p List.mem_cons_self) (fun q hq => h q (List.mem_cons_of_mem _ hq)) List.mem_cons_self (fun q hq => by
      cases List.mem_singleton.mp hq
      exact ⟨by rw [crs_oo]; exact Rat.le_refl, fun _ => Rat.le_refl⟩)
    exact ⟨c, m, e, k⟩
/-- all points lie to the left of the side a b, or on it -/
def Edge (ps : List Pt) (a b : Pt) : Prop := a ≠ b ∧ ∀ q ∈ ps, 0 ≤ crs a b q ∧ (crs a b q = 0 → ∃ t : Rat, 0 ≤ t ∧ t ≤ 1 ∧ q = mixp t a b)
/-- all points lie before the way d seen from v -/
def Seen (ps : List Pt) (d v : Pt) : Prop := ∀ q ∈ ps, q ≠ v → Lft d v q
theorem seen_edge {ps : List Pt} {d a b : Pt} (h : Seen ps d a) (hb : b ∈ ps) (hab : b ≠ a) (hB : ∀ q ∈ ps, q ≠ a → Best a b q) : Edge ps a b := by
  refine ⟨Ne.symm hab, fun q hq => ?_⟩
  by_cases hqa : q = a
  · subst hqa
    refine ⟨by rw [crs_self]; exact Rat.le_refl, fun _ => ⟨0, Rat.le_refl, by decide +kernel, ?_⟩⟩
    unfold mixp
    exact Prod.ext (by dsimp only; grind) (by dsimp only; grind)
  · have k := hB q hq hqa
    refine ⟨k.1, fun e => ?_⟩
    obtain ⟨r, hr, er⟩ := lft_line (h b hb hab) (h q hq hqa) e hab
    have f := k.2 e
    rw [far_vec, far_vec, er] at f
    have fp := far_pos hab
    rw [far_vec] at fp
    have e1 := congrArg Prod.fst er
    have e2 := congrArg Prod.snd er
    dsimp only at e1 e2
    refine ⟨r, by grind, ?_, ?_⟩
    · generalize (vec a b).1 = x at *
      generalize (vec a b).2 = y at *
      by_cases hr1 : r ≤ 1
      · exact hr1
      · exfalso
        have g1 : r * x * (r * x) + r * y * (r * y) = r * r * (x * x + y * y) := by grind
        have : 0 < (r * r - 1) * (x * x + y * y) := by
          refine Rat.mul_pos ?_ fp
          have := Rat.mul_pos (a := r - 1) (b := r + 1) (by grind) (by grind)
          grind
        grind
    · unfold vec at e1 e2
      unfold mixp
      exact Prod.ext (by dsimp only at *; grind) (by dsimp only at *; grind)
theorem edge_seen {ps : List Pt} {a b : Pt} (h : Edge ps a b) : Seen ps (vec a b) b := by
  intro q hq hqb
  obtain ⟨h1, h2⟩ := h.2 q hq
  have e : dt (vec a b) (vec b q) = crs a b q := by
    unfold dt vec crs
    grind
  by_cases h0 : crs a b q = 0
  · obtain ⟨t, t0, t1, rfl⟩ := h2 h0
    have tn : t ≠ 1 := fun z => by
      subst z
      exact hqb (by
        unfold mixp
        exact Prod.ext (by dsimp only; grind) (by dsimp only; grind))
    refine .inr ⟨1 - t, by grind, ?_⟩
    unfold vec mixp
    exact Prod.ext (by dsimp only; grind) (by dsimp only; grind)
  · left
    rw [e]
    grind
/-- less: east, then north -/
def lexL (a b : Pt) : Prop := a.1 < b.1 ∨ a.1 = b.1 ∧ a.2 < b.2
instance {a b : Pt} : Decidable (lexL a b) := by unfold lexL; infer_instance
theorem lex_seen {ps : List Pt} {v : Pt} (h : ∀ q ∈ ps, ¬ lexL q v) : Seen ps (0, -1) v := by
  intro q hq hqv
  have hn := h q hq
  unfold lexL at hn
  rw [not_or] at hn
  by_cases h1 : v.1 < q.1
  · left
    unfold dt vec
    grind
  · have e : q.1 = v.1 := by grind
    right
    refine ⟨q.2 - v.2, ?_, ?_⟩
    · have : ¬ q.2 < v.2 := fun z => hn.2 ⟨e, z⟩
      have : q.2 ≠ v.2 := fun z => hqv (Prod.ext e z)
      grind
    · unfold vec
      exact Prod.ext (by dsimp only; grind) (by dsimp only; grind)
end FR
/-! FrHullW: the law's going around points, walked. -/
namespace FR
open PySem (Str)
theorem f616 : Fine 6 16 := ⟨by decide, Nat.lt_of_lt_of_le (show 6 < 2 ^ 3 by decide) (pw (by decide)), Nat.lt_of_lt_of_le (show 16 < 2 ^ 5 by decide) (pw (by decide))⟩
section
variable {tb : Tb} [Has tb 13 cb_w_least 5 2] [Has tb 15 cb_w_minus 2 2] [Has tb 16 cb_w_times 2 2]
theorem wcross_eq2 [Has tb 54 cb_w_cross 4 3] {k C B : Nat} {o a b : Pt} {s : S} (f : Fine C B) (ho : grp C B o) (ha : grp C B a) (hb : grp C B b) : sem tb (k + 3) 54 [ptD o, ptD a, ptD b] s = some (.ok (frD (crs o a b)), s) := by
  have F : ∀ {q : Rat}, gr C (B + B) q → fit q := fun h => h.fit f.pos (Nat.lt_of_lt_of_le f.c (Nat.pow_le_pow_right (by decide) (by decide))) (by
    have := f.b
    have : 2 ^ 1001 < 2 ^ 395600 := Nat.pow_lt_pow_right (by decide) (by decide)
    have : (2 : Nat) ^ 1001 = 2 ^ 1000 * 2 := Nat.pow_succ ..
    omega)
  have g1 := F (gr_sub ha.1 ho.1)
  have g2 := F (gr_sub hb.2 ho.2)
  have g3 := F (gr_sub ha.2 ho.2)
  have g4 := F (gr_sub hb.1 ho.1)
  have b4 : (B + B) * (B + B) = 4 * (B * B) := by grind
  have g5 : fit ((a.1 - o.1) * (b.2 - o.2)) := f.fit2 (m := 4) (by decide) ((gr_mul (gr_sub ha.1 ho.1) (gr_sub hb.2 ho.2)).mono (Nat.dvd_refl _) (by omega))
  have g6 : fit ((a.2 - o.2) * (b.1 - o.1)) := f.fit2 (m := 4) (by decide) ((gr_mul (gr_sub ha.2 ho.2) (gr_sub hb.1 ho.1)).mono (Nat.dvd_refl _) (by omega))
  rw [sem_of rfl]
  simp [cb_w_cross, startG, wminus_eq (f.fit ha.1) (f.fit ho.1), wminus_eq (f.fit hb.2) (f.fit ho.2), wminus_eq (f.fit ha.2) (f.fit ho.2), wminus_eq (f.fit hb.1) (f.fit ho.1), wtimes_eq g1 g2, wtimes_eq g3 g4, wminus_eq g5 g6, crs]
theorem far_gr {a b : Pt} (ha : grp 6 16 a) (hb : grp 6 16 b) : gr 36 2048 (far2 a b) := by
  unfold far2
  exact gr_add (gr_mul (gr_sub ha.1 hb.1) (gr_sub ha.1 hb.1)) (gr_mul (gr_sub ha.2 hb.2) (gr_sub ha.2 hb.2))
theorem F36 {q : Rat} {B : Nat} (hB : B ≤ 10000) (h : gr 36 B q) : fit q := h.fit (by decide) (Nat.lt_of_lt_of_le (show 36 < 2 ^ 6 by decide) (pw (by decide))) (Nat.lt_of_le_of_lt hB (Nat.lt_of_lt_of_le (show 10000 < 2 ^ 14 by decide) (pw (by decide))))
theorem F6 {q : Rat} {B : Nat} (hB : B ≤ 10000) (h : gr 6 B q) : fit q := h.fit (by decide) (Nat.lt_of_lt_of_le (show 6 < 2 ^ 6 by decide) (pw (by decide))) (Nat.lt_of_le_of_lt hB (Nat.lt_of_lt_of_le (show 10000 < 2 ^ 14 by decide) (pw (by decide))))
theorem wfar_eq [Has tb 14 cb_w_plus 2 2] [Has tb 17 cb_w_sum 3 1] [Has tb 41 cb_w_far_v1 3 2] {k : Nat} {a b : Pt} {s : S} (ha : grp 6 16 a) (hb : grp 6 16 b) : sem tb (k + 4) 41 [ptD a, ptD b] s = some (.ok (frD (far2 a b)), s) := by
  rw [sem_of rfl]
  have g1 := gr_sub ha.1 hb.1
  have g2 := gr_sub ha.2 hb.2
  have q1 := gr_mul g1 g1
  have q2 := gr_mul g2 g2
  have fa1 := F6 (by decide) ha.1
  have fa2 := F6 (by decide) ha.2
  have fb1 := F6 (by decide) hb.1
  have fb2 := F6 (by decide) hb.2
  have f1 : fit (a.1 - b.1) := F6 (by decide) g1
  have f2 : fit (a.2 - b.2) := F6 (by decide) g2
  have h1 : fit ((a.1 - b.1) * (a.1 - b.1)) := F36 (by decide) q1
  have h2 : fit ((a.2 - b.2) * (a.2 - b.2)) := F36 (by decide) q2
  have sm := wsum_eq (tb := tb) (k := k) (qs := [(a.1 - b.1) * (a.1 - b.1), (a.2 - b.2) * (a.2 - b.2)]) (s := s) (by simp; exact ⟨h1, h2⟩) (fun i => by
    match i with
    | 0 => exact F36 (B := 1) (by decide) (by simpa using gr_zero)
    | 1 => simpa [Rat.add_zero] using h1
    | i + 2 => exact F36 (B := 2048) (by decide) (by simpa [Rat.add_zero] using gr_add q1 q2))
  have e : [(a.1 - b.1) * (a.1 - b.1), (a.2 - b.2) * (a.2 - b.2)].sum = far2 a b := by
    unfold far2
    simp [Rat.add_zero]
  rw [e] at sm
  simp only [List.map_cons, List.map_nil] at sm
  have r2 : rngD (.int 0) (.int 2) = some [.int 0, .int 1] := rfl
  simp [cb_w_far_v1, startG, r2, compL, cmp1, setT, wminus_eq fa1 fb1, wminus_eq fa2 fb2, wtimes_eq f1 f1, wtimes_eq f2 f2, bigL, sm]
theorem sg_lt {a : Rat} : sg a < 0 ↔ a < 0 := by
  unfold sg
  split
  · grind
  · split <;> grind
theorem sg_gt {a : Rat} : 0 < sg a ↔ 0 < a := by
  unfold sg
  split
  · grind
  · split <;> grind
theorem sg_z {a : Rat} : sg a = 0 ↔ a = 0 := by
  unfold sg
  split
  · grind
  · split <;> grind
theorem wahead_eq [Has tb 62 cb_w_sign 1 1] [Has tb 63 cb_w_is_ahead 3 2] {k : Nat} {a b : Pt} {s : S} (ha : grp 6 16 a) (hb : grp 6 16 b) : sem tb (k + 3) 63 [ptD a, ptD b] s = some (.ok (.bl (decide (lexL a b))), s) := by
  rw [sem_of rfl]
  have fa1 := F6 (by decide) ha.1
  have fa2 := F6 (by decide) ha.2
  have fb1 := F6 (by decide) hb.1
  have fb2 := F6 (by decide) hb.2
  by_cases h1 : sg (a.1 - b.1) < 0
  · have : lexL a b := .inl (by have := sg_lt.mp h1; grind)
    simp [cb_w_is_ahead, startG, wminus_eq fa1 fb1, wsign_eq, h1, this]
  · by_cases h2 : sg (a.1 - b.1) = 0
    · have e := sg_z.mp h2
      by_cases h3 : sg (a.2 - b.2) < 0
      · have : lexL a b := .inr ⟨by grind, by have := sg_lt.mp h3; grind⟩
        simp [cb_w_is_ahead, startG, wminus_eq fa1 fb1, wminus_eq fa2 fb2, wsign_eq, h2, h3, this]
      · have : ¬ lexL a b := fun z => by
          rcases z with z | z
          · exact h1 (sg_lt.mpr (by grind))
          · exact h3 (sg_lt.mpr (by grind))
        simp [cb_w_is_ahead, startG, wminus_eq fa1 fb1, wminus_eq fa2 fb2, wsign_eq, h2, h3, this]
    · have : ¬ lexL a b := fun z => by
        rcases z with z | z
        · exact h1 (sg_lt.mpr (by grind))
        · exact h2 (sg_z.mpr (by grind))
      have h2' : (sg (a.1 - b.1) == 0) = false := by simpa using h2
      simp [cb_w_is_ahead, startG, wminus_eq fa1 fb1, wsign_eq, h1, h2', this]
end
/-- what has been gone -/
structure Gone (ps l : List Pt) (v : Pt) : Prop where
  hd : l.head? = some v
  lex : ∀ q ∈ ps, ¬ lexL q v
  mem : ∀ q ∈ l, q ∈ ps
  ch : ∀ (i : Nat) (a b : Pt), l[i]? = some a → l[i + 1]? = some b → Edge ps a b ∧ b ≠ v
theorem Gone.seen {ps l : List Pt} {v z : Pt} (h : Gone ps l v) (hz : l.getLast? = some z) : ∃ d, Seen ps d z := by
  have hl : 0 < l.length := by
    cases l with
    | nil => cases hz
    | cons _ _ => exact Nat.succ_pos _
  rw [List.getLast?_eq_getElem?] at hz
  by_cases h1 : l.length = 1
  · rw [h1] at hz
    have : z = v := by
      have hd := h.hd
      rw [List.head?_eq_getElem?, hz] at hd
      exact Option.some.inj hd
    subst this
    exact ⟨_, lex_seen h.lex⟩
  · obtain ⟨a, ha⟩ : ∃ a, l[l.length - 2]? = some a := ⟨_, List.getElem?_eq_getElem (by omega)⟩
    have hb : l[l.length - 2 + 1]? = some z := by
      rw [show l.length - 2 + 1 = l.length - 1 by omega]
      exact hz
    exact ⟨_, edge_seen (h.ch _ a z ha hb).1⟩
theorem lex_tot {a b c : Pt} (h1 : ¬ lexL a b) (h2 : lexL c b) : ¬ lexL a c := by
  unfold lexL at *
  grind
theorem lex_irr {a : Pt} : ¬ lexL a a := by
  unfold lexL
  grind
/-- ended: back at the first, or nowhere else -/
def Ended (ps l : List Pt) (v : Pt) : Prop := (∃ z, l.getLast? = some z ∧ ((∀ q ∈ ps, q = z) ∨ Edge ps z v)) ∨ ps.length < l.length
def optD : Option Pt → D
  | none => .non
  | some p => ptD p
theorem bst_none {v p : Pt} : bst v none p = some p := rfl
@[simp] theorem is_non : cmpD .is_ .non .non = some true := rfl
@[simp] theorem is_pt {p : Pt} : cmpD .is_ (ptD p) .non = some false := rfl
def hul_b : CSs := (match cb_w_hull with
  | .cons _ (.cons _ (.cons (.whl _ _ b) _)) => b
  | _ => .nil)
def hul_f : CSs := (match hul_b with
  | .cons _ (.cons _ (.cons (.for_ _ _ _ b) _)) => b
  | _ => .nil)
section
variable {tb : Tb} [Has tb 13 cb_w_least 5 2] [Has tb 14 cb_w_plus 2 2] [Has tb 15 cb_w_minus 2 2] [Has tb 16 cb_w_times 2 2] [Has tb 17 cb_w_sum 3 1] [Has tb 41 cb_w_far_v1 3 2] [Has tb 54 cb_w_cross 4 3] [Has tb 62 cb_w_sign 1 1] [Has tb 63 cb_w_is_ahead 3 2]
/-- one look at a point -/
theorem hul_step {k : Nat} {x0 x1 x5 : Sl} {v p : Pt} {o : Option Pt} {s : S} (hv : grp 6 16 v) (hp : grp 6 16 p) (ho : ∀ b, o = some b → grp 6 16 b) : ∃ y, evSs (enOf tb (k + 4)) hul_f [x0, x1, .dat (ptD p), .dat (ptD v), .dat (optD o), x5] s = some (.ok (.nx [x0, x1, .dat (ptD p), .dat (ptD v), .dat (optD (bst v o p)), y]), s) := by
  cases o with
  | none =>
    refine ⟨.dat (.int 1), ?_⟩
    simp [hul_f, hul_b, cb_w_hull, optD, bst_none]
  | some b =>
    have hb := ho b rfl
    have c := wcross_eq2 (tb := tb) (k := k + 1) (s := s) f616 hv hb hp
    have g := crs_gr hv hb hp
    rw [bst_some]
    by_cases c1 : crs v b p < 0
    · have h1 : sg (crs v b p) = -1 := by
        unfold sg
        rw [if_neg (by grind), if_pos c1]
      refine ⟨.dat (.int 1), ?_⟩
      rw [if_pos c1]
      simp [hul_f, hul_b, cb_w_hull, optD, c, wsign_eq, h1]
    · rw [if_neg c1]
      by_cases c2 : 0 < crs v b p
      · have h1 : sg (crs v b p) = 1 := by
          unfold sg
          rw [if_pos c2]
        refine ⟨.dat (.int (-1)), ?_⟩
        rw [if_pos c2]
        simp [hul_f, hul_b, cb_w_hull, optD, c, wsign_eq, h1]
      · rw [if_neg c2]
        have h1 : sg (crs v b p) = 0 := by
          unfold sg
          rw [if_neg c2, if_neg c1]
        have w1 := wfar_eq (tb := tb) (k := k) (s := s) hv hp
        have w2 := wfar_eq (tb := tb) (k := k) (s := s) hv hb
        have mi := wminus_eq (tb := tb) (k := k + 2) (s := s) (F36 (by decide) (far_gr hv hp)) (F36 (by decide) (far_gr hv hb))
        refine ⟨.dat (.int (sg (far2 v p - far2 v b))), ?_⟩
        by_cases c3 : far2 v b < far2 v p
        · have h2 : 0 < sg (far2 v p - far2 v b) := sg_gt.mpr (by grind)
          rw [if_pos c3]
          simp [hul_f, hul_b, cb_w_hull, optD, c, wsign_eq, h1, w1, w2, mi, h2]
        · have h2 : ¬ 0 < sg (far2 v p - far2 v b) := fun z => c3 (by have := sg_gt.mp z; grind)
          rw [if_neg c3]
          simp [hul_f, hul_b, cb_w_hull, optD, c, wsign_eq, h1, w1, w2, mi, h2]
theorem hul_eq : cb_w_hull = .cons (.own [] 1 (.lst (.cons (.idx (.var 0) (.cst (.int 0))) (.nil)))) (.cons (.for_ [] (.nm 2) (.var 0) (.cons (.oif 1 (.call 63 (.cons (.var 2) (.cons (.oidx 1 (.cst (.int 0))) (.nil)))) (.lst (.cons (.var 2) (.nil)))) (.nil))) (.cons (.whl [] (.cmp .le (.olen 1) (.bif .len (.cons (.var 0) (.nil)))) hul_b) (.cons (.ret [1] (.var 1)) (.nil)))) := rfl
theorem hul_b_eq : hul_b = .cons (.asg [] 3 (.oidx 1 (.neg (.cst (.int 1))))) (.cons (.asg [] 4 (.cst .non)) (.cons (.for_ [] (.nm 2) (.comp (.nm 2) (.var 0) (.cmp .ne (.var 2) (.var 3)) (.var 2)) hul_f) (.cons (.ifs [] (.or (.cmp .is_ (.var 4) (.cst .non)) (.cmp .eq (.var 4) (.oidx 1 (.cst (.int 0))))) (.cons (.ret [1] (.var 1)) (.nil)) (.nil)) (.cons (.app [] 1 (.var 4)) (.nil))))) := rfl
theorem compL_filt {α : Type} {e h : α → D} {c : α → Bool} {f : D → S → EV (Option D)} {s : S} : ∀ {xs : List α}, (∀ x ∈ xs, f (e x) s = some (.ok (if c x then some (h x) else none), s)) → compL f (xs.map e) s = some (.ok ((xs.filter c).map h), s)
  | [], _ => rfl
  | x :: xs, H => by
    rw [List.map_cons, compL, H x List.mem_cons_self, List.filter_cons]
    have ih := compL_filt (xs := xs) fun y hy => H y (List.mem_cons_of_mem _ hy)
    cases hx : c x with
    | true =>
      simp [ih]
    | false => simp [ih]
def lexM (v p : Pt) : Pt := if lexL p v then p else v
def lexI (ps : List Pt) (p0 : Pt) (s : S) (i : Nat) (g : G) (s' : S) : Prop := ∃ x : Sl, s' = s ∧ g = [.dat (.lst (ps.map ptD)), .own [ptD ((ps.take i).foldl lexM p0)], x, .un, .un, .un]
theorem lexM_ok : ∀ {ps : List Pt} {v : Pt}, (∀ q ∈ ps, ¬ lexL q (ps.foldl lexM v)) ∧ ¬ lexL v (ps.foldl lexM v) ∧ (ps.foldl lexM v = v ∨ ps.foldl lexM v ∈ ps)
  | [], v => ⟨fun q hq => by (cases hq), lex_irr, .inl rfl⟩
  | p :: ps, v => by
    rw [List.foldl_cons]
    obtain ⟨h1, h2, h3⟩ := lexM_ok (ps := ps) (v := lexM v p)
    have hv : ¬ lexL v (lexM v p) ∧ ¬ lexL p (lexM v p) := by
      unfold lexM
      split
      · rename_i h
        exact ⟨fun z => by unfold lexL at *; grind, lex_irr⟩
      · rename_i h
        exact ⟨lex_irr, h⟩
    have tr : ∀ {a b c : Pt}, ¬ lexL a b → ¬ lexL b c → ¬ lexL a c := fun h1 h2 => by unfold lexL at *; grind
    refine ⟨fun q hq => ?_, tr hv.1 h2, ?_⟩
    · rcases List.mem_cons.mp hq with rfl | hq
      · exact tr hv.2 h2
      · exact h1 q hq
    · rcases h3 with h3 | h3
      · rw [h3]
        unfold lexM
        split
        · exact .inr List.mem_cons_self
        · exact .inl rfl
      · exact .inr (List.mem_cons_of_mem _ h3)
def hulI (ps : List Pt) (v : Pt) (s : S) (m : Nat) (g : G) (s' : S) : Prop := ∃ (l : List Pt) (x2 x3 x4 x5 : Sl), Gone ps l v ∧ l ≠ [] ∧ m + l.length = ps.length + 1 ∧ s' = s ∧ g = [.dat (.lst (ps.map ptD)), .own (l.map ptD), x2, x3, x4, x5]
def bstI (ps l cs : List Pt) (z : Pt) (s : S) (i : Nat) (g : G) (s' : S) : Prop := ∃ (x2 x5 : Sl), s' = s ∧ g = [.dat (.lst (ps.map ptD)), .own (l.map ptD), x2, .dat (ptD z), .dat (optD ((cs.take i).foldl (bst z) none)), x5]
theorem bst_mem {v : Pt} : ∀ {ps : List Pt} {o : Option Pt} {b : Pt}, ps.foldl (bst v) o = some b → o = some b ∨ b ∈ ps
  | [], o, b, h => .inl h
  | p :: ps, o, b, h => by
    rw [List.foldl_cons] at h
    rcases bst_mem (ps := ps) h with h | h
    · cases o with
      | none =>
        cases h
        exact .inr List.mem_cons_self
      | some c =>
        rw [bst_some] at h
        split at h
        · cases h
          exact .inr List.mem_cons_self
        · split at h
          · exact .inl h
          · split at h
            · cases h
              exact .inr List.mem_cons_self
            · exact .inl h
    · exact .inr (List.mem_cons_of_mem _ h)
theorem Gone.snoc {ps l : List Pt} {v z b : Pt} (h : Gone ps l v) (hz : l.getLast? = some z) (hb : b ∈ ps) (he : Edge ps z b) (hn : b ≠ v) : Gone ps (l ++ [b]) v where
  hd := by
    rw [List.head?_append, h.hd]
    rfl
  lex := h.lex
  mem := fun q hq => by
    rcases List.mem_append.mp hq with hq | hq
    · exact h.mem q hq
    · cases List.mem_singleton.mp hq
      exact hb
  ch := fun i x y e1 e2 => by
    by_cases hi : i + 1 < l.length
    · rw [List.getElem?_append_left (by omega)] at e1
      rw [List.getElem?_append_left hi] at e2
      exact h.ch i x y e1 e2
    · have hl : i + 1 < (l ++ [b]).length := (List.getElem?_eq_some_iff.mp e2).1
      rw [List.length_append, List.length_singleton] at hl
      have e : i + 1 = l.length := by omega
      rw [List.getElem?_append_right (by omega), e, Nat.sub_self] at e2
      cases e2
      rw [List.getElem?_append_left (by omega)] at e1
      rw [List.getLast?_eq_getElem?, show l.length - 1 = i by omega, e1] at hz
      cases hz
      exact ⟨he, hn⟩
theorem W_hull [Has tb 64 cb_w_hull 6 1] {k : Nat} {ps : List Pt} {s : S} {Q : D → S → Prop} (hp : ∀ p ∈ ps, grp 6 16 p) (h0 : ps ≠ []) (hl : ps.length ≤ 1000) (h : ∀ (l : List Pt) (v : Pt), Gone ps l v → Ended ps l v → l ≠ [] → l.length ≤ ps.length + 1 → Q (.lst (l.map ptD)) s) : W (sem tb (k + 5) 64 [.lst (ps.map ptD)] s) Q := by
  rw [sem_of rfl, W_run]
  obtain ⟨p0, hp0⟩ : ∃ p, ps[0]? = some p := ⟨_, List.getElem?_eq_getElem (List.length_pos_iff.mpr h0)⟩
  have a0 : atL (ps.map ptD) 0 = some (ptD p0) := by
    rw [show (0 : Int) = ((0 : Nat) : Int) from rfl, at_nat, List.getElem?_map, hp0]
    rfl
  simp only [hul_eq, startG]
  simp [a0, D.lfL, -evS_whl]
  refine W_forL (I := lexI ps p0 s) ⟨.un, rfl, by simp⟩ ?_ ?_
  · rintro i d g s' hd ⟨x, rfl, rfl⟩
    rw [List.getElem?_map] at hd
    obtain ⟨q, hq, rfl⟩ := Option.map_eq_some_iff.mp hd
    refine ⟨_, rfl, ?_⟩
    have e1 : (ps.take (i + 1)).foldl lexM p0 = lexM ((ps.take i).foldl lexM p0) q := by
      rw [List.take_add_one, hq, List.foldl_append]
      rfl
    have hc : grp 6 16 ((ps.take i).foldl lexM p0) := by
      rcases (lexM_ok (ps := ps.take i) (v := p0)).2.2 with z | z
      · rw [z]
        exact hp _ (List.mem_of_getElem? hp0)
      · exact hp _ (List.mem_of_mem_take z)
    have nx : lexI ps p0 s' (i + 1) [.dat (.lst (ps.map ptD)), .own [ptD (lexM ((ps.take i).foldl lexM p0) q)], .dat (ptD q), .un, .un, .un] s' := ⟨_, rfl, by rw [e1]⟩
    generalize (ps.take i).foldl lexM p0 = c at *
    have wa := wahead_eq (tb := tb) (k := k + 1) (s := s') (hp q (List.mem_of_getElem? hq)) hc
    unfold lexM at nx
    by_cases hx : lexL q c
    · rw [if_pos hx] at nx
      simp [wa, hx, D.lfL]
      exact nx
    · rw [if_neg hx] at nx
      simp [wa, hx]
      exact nx
  rintro g s' ⟨x, rfl, rfl⟩
  obtain ⟨m1, _, m3⟩ := lexM_ok (ps := ps) (v := p0)
  rw [List.length_map, List.take_of_length_le (Nat.le_refl _)]
  have hv : ps.foldl lexM p0 ∈ ps := by
    rcases m3 with z | z
    · rw [z]
      exact List.mem_of_getElem? hp0
    · exact z
  generalize ps.foldl lexM p0 = v at *
  simp
  refine W_while (hulI ps v s') ?_ (m := ps.length) ⟨[v], x, .un, .un, .un, ⟨rfl, m1, fun q hq => by
    cases List.mem_singleton.mp hq
    exact hv, fun i a b _ e2 => by simp at e2⟩, by simp, by simp, rfl, rfl⟩
  rintro m g s2 ⟨l, x2, x3, x4, x5, hg, hne, hm, rfl, rfl⟩
  have fe : ∀ x2 x3 x4 x5, exE (enOf tb (k + 4)) [1] (.var 1) [.dat (.lst (ps.map ptD)), .own (l.map ptD), x2, x3, x4, x5] s2 (fun d _ s => some (.ok (.rt d), s)) = some (.ok (.rt (.lst (l.map ptD))), s2) := fun x2 x3 x4 x5 => by simp [exE, frz, frzS]
  have finish : Ended ps l v → Q (.lst (l.map ptD)) s2 := fun he => h l v hg he hne (by omega)
  by_cases hle : l.length ≤ ps.length
  · have hle' : (l.length : Int) ≤ ps.length := by omega
    obtain ⟨z, hz⟩ : ∃ z, l.getLast? = some z := ⟨_, List.getLast?_eq_some_getLast hne⟩
    have az : atL (l.map ptD) (-1) = some (ptD z) := by
      rw [atL_map, at_last hne, hz]
      rfl
    have av : atL (l.map ptD) 0 = some (ptD v) := by
      rw [atL_map, at_first, hg.hd]
      rfl
    have hzp := hg.mem z (List.mem_of_getLast? hz)
    simp [hle', hul_b_eq, az]
    rw [compL_filt (h := ptD) (c := fun p => !decide (p = z)) fun p hpp => by
      by_cases e : p = z
      · simp [cmp1, setT, ne_pt, e]
      · simp [cmp1, setT, ne_pt, e]]
    rw [W_ok, bigL_map (by unfold SZ; have := List.length_filter_le (fun p => !decide (p = z)) ps; omega), W_ok, items_lst, rp_some, W_ok]
    obtain ⟨d, hsn⟩ := hg.seen hz
    have cs1 : ∀ q ∈ ps.filter fun p => !decide (p = z), q ∈ ps ∧ q ≠ z := fun q hq => by
      obtain ⟨a, b⟩ := List.mem_filter.mp hq
      exact ⟨a, by simpa using b⟩
    have hbo := bestOf_ok (d := d) (v := z) (ps := ps.filter fun p => !decide (p = z)) fun q hq => ⟨hsn q (cs1 q hq).1 (cs1 q hq).2, (cs1 q hq).2⟩
    have cs2 : ∀ q ∈ ps, q ≠ z → q ∈ ps.filter fun p => !decide (p = z) := fun q hq hn => List.mem_filter.mpr ⟨hq, by simpa using hn⟩
    generalize ps.filter (fun p => !decide (p = z)) = cs at *
    refine W_forL (I := bstI ps l cs z s2) ⟨x2, x5, rfl, by simp [optD]⟩ ?_ ?_
    · rintro i d g s' hd ⟨y2, y5, rfl, rfl⟩
      rw [List.getElem?_map] at hd
      obtain ⟨q, hq, rfl⟩ := Option.map_eq_some_iff.mp hd
      have hqc := List.mem_of_getElem? hq
      obtain ⟨y, hy⟩ := hul_step (tb := tb) (k := k) (x0 := .dat (.lst (ps.map ptD))) (x1 := .own (l.map ptD)) (x5 := y5) (v := z) (p := q) (o := (cs.take i).foldl (bst z) none) (s := s') (hp z hzp) (hp q (cs1 q hqc).1) fun b hb => by
        rcases bst_mem hb with e | e
        · cases e
        · exact hp b (cs1 b (List.mem_of_mem_take e)).1
      refine ⟨_, rfl, ?_⟩
      have e1 : (cs.take (i + 1)).foldl (bst z) none = bst z ((cs.take i).foldl (bst z) none) q := by
        rw [List.take_add_one, hq, List.foldl_append]
        rfl
      simp [hy]
      exact ⟨_, _, rfl, by rw [e1]⟩
    rintro g s' ⟨y2, y5, rfl, rfl⟩
    rw [List.length_map, List.take_of_length_le (Nat.le_refl _)]
    rcases hbo with ⟨rfl, hb⟩ | ⟨b, hb1, hb2, hb3⟩
    · simp [optD, fe]
      exact finish (.inl ⟨z, hz, .inl fun q hq => by
        by_cases e : q = z
        · exact e
        · have := cs2 q hq e
          cases this⟩)
    · have hb2' : cs.foldl (bst z) none = some b := hb2
      have hed : Edge ps z b := seen_edge hsn (cs1 b hb1).1 (cs1 b hb1).2 fun q hq hn => hb3 q (cs2 q hq hn)
      rw [hb2']
      by_cases e : b = v
      · subst e
        simp [optD, av, eq_pt, fe]
        exact finish (.inl ⟨z, hz, .inr hed⟩)
      · have lo : l.length < 1000000 := by omega
        simp [optD, av, eq_pt, e, owned, appO, appF, lo]
        exact ⟨m - 1, by omega, l ++ [b], _, _, _, _, hg.snoc hz (cs1 b hb1).1 hed e, by simp, by rw [List.length_append, List.length_singleton]; omega, rfl, by rw [List.map_append]; rfl⟩
  · have hle' : ¬ (l.length : Int) ≤ ps.length := by omega
    simp [hle', fe]
    exact finish (.inr (by omega))
end
end FR
/-! FrConv: the laws' convex rounds. -/
namespace FR
open PySem (Str)
def accO (acc : List D) : Option D → List D
  | none => acc
  | some e => acc ++ [e]
@[simp] theorem accO_some {acc : List D} {e : D} : accO acc (some e) = acc ++ [e] := rfl
@[simp] theorem accO_none {acc : List D} : accO acc none = acc := rfl
theorem W_compL {f : D → S → EV (Option D)} {Q : List D → S → Prop} : ∀ {ds : List D} {I : Nat → List D → S → Prop} {acc : List D} {s : S}, I 0 acc s → (∀ (i : Nat) (d : D) (acc : List D) (s : S), ds[i]? = some d → I i acc s → W (f d s) fun o s1 => I (i + 1) (accO acc o) s1) →
    (∀ es s, I ds.length (acc ++ es) s → Q es s) → W (compL f ds s) Q
  | [], I, acc, s, h0, _, hf => by
    rw [compL, W_ok]
    exact hf [] s (by simpa using h0)
  | d :: ds, I, acc, s, h0, hs, hf => by
    obtain ⟨o, s1, e, q⟩ := hs 0 d acc s rfl h0
    rw [compL, e]
    cases o with
    | none => exact W_compL (I := fun i => I (i + 1)) (acc := acc) q (fun i d acc s hd hI => hs (i + 1) d acc s hd hI) hf
    | some x =>
      dsimp only
      rw [W_rb]
      refine W_compL (I := fun i => I (i + 1)) (acc := acc ++ [x]) q (fun i d acc s hd hI => hs (i + 1) d acc s hd hI) fun es s2 hI => ?_
      rw [W_ok]
      exact hf (x :: es) s2 (by simpa using hI)
/-- a convex round: gone around some points -/
structure Conv (l : List Pt) : Prop where
  n3 : 3 ≤ l.length
  n40 : l.length ≤ 12
  nm : ∀ p ∈ l, nmp p
  go : ∃ ps v, Gone ps l v ∧ Ended ps l v ∧ (∀ p ∈ ps, nmp p)
theorem neC_get : ∀ {l : List Pt}, (∀ (i : Nat) (a b : Pt), l[i]? = some a → l[i + 1]? = some b → a ≠ b) → neC l
  | [], _ => trivial
  | [x], _ => trivial
  | x :: y :: r, h => ⟨h 0 x y rfl rfl, neC_get (l := y :: r) fun i a b e1 e2 => h (i + 1) a b e1 e2⟩
theorem Gone.ok {ps l : List Pt} {v : Pt} (h : Gone ps l v) (h3 : 3 ≤ l.length) (h4 : l.length ≤ 40) : PtsOk l := by
  refine ⟨⟨h3, h4⟩, neC_prs (neC_get fun i a b e1 e2 => (h.ch i a b e1 e2).1.1) fun x z hx hz => ?_⟩
  rw [h.hd] at hx
  cases hx
  rw [List.getLast?_eq_getElem?] at hz
  obtain ⟨a, ha⟩ : ∃ a, l[l.length - 2]? = some a := ⟨_, List.getElem?_eq_getElem (by omega)⟩
  exact Ne.symm (h.ch (l.length - 2) a z ha (by rw [show l.length - 2 + 1 = l.length - 1 by omega]; exact hz)).2
theorem Conv.ok {l : List Pt} (h : Conv l) : PtsOk l := by
  obtain ⟨ps, v, g, _⟩ := h.go
  exact g.ok h.n3 (Nat.le_trans h.n40 (by decide))
def bare : List Pt := [(0, 1), (Rat.divInt 7 2, 0), (5, 4)]
theorem bare_d : [D.tup [.tup [.int 0, .int 1], .tup [.int 1, .int 1]], .tup [.tup [.int 7, .int 2], .tup [.int 0, .int 1]], .tup [.tup [.int 5, .int 1], .tup [.int 4, .int 1]]] = bare.map ptD := by
  simp only [bare, List.map_cons, List.map_nil, ptD, frD]
  rfl
theorem edge3 {a b c : Pt} (h : a ≠ b) (hc : 0 < crs a b c) {ps : List Pt} (hp : ∀ q ∈ ps, q = a ∨ q = b ∨ q = c) : Edge ps a b := by
  refine ⟨h, fun q hq => ?_⟩
  rcases hp q hq with rfl | rfl | rfl
  · refine ⟨by rw [crs_self]; exact Rat.le_refl, fun _ => ⟨0, by decide +kernel, by decide +kernel, ?_⟩⟩
    unfold mixp
    exact Prod.ext (by dsimp only; grind) (by dsimp only; grind)
  · refine ⟨by rw [crs_oo]; exact Rat.le_refl, fun _ => ⟨1, by decide +kernel, by decide +kernel, ?_⟩⟩
    unfold mixp
    exact Prod.ext (by dsimp only; grind) (by dsimp only; grind)
  · exact ⟨by grind, fun e => by grind⟩
theorem bare_ok : Conv bare := by
  refine ⟨by decide, by decide, fun p hp => ?_, bare, (0, 1), ⟨rfl, ?_, fun q hq => hq, fun i a b e1 e2 => ?_⟩, .inl ⟨(5, 4), rfl, .inr ?_⟩, fun p hp => ?_⟩
  · unfold bare at hp
    simp only [List.mem_cons, List.not_mem_nil, or_false] at hp
    rcases hp with rfl | rfl | rfl
    · exact ⟨nm_int (i := 0) (by decide) (by decide), nm_int (i := 1) (by decide) (by decide)⟩
    · exact ⟨nm_di (r := 7) (j := 2) (by decide) (by decide) (by decide) (by decide), nm_int (i := 0) (by decide) (by decide)⟩
    · exact ⟨nm_int (i := 5) (by decide) (by decide), nm_int (i := 4) (by decide) (by decide)⟩
  · decide +kernel
  · have key : ∀ q ∈ bare, q = (0, 1) ∨ q = (Rat.divInt 7 2, 0) ∨ q = (5, 4) := fun q hq => by simpa [bare] using hq
    match i, e1, e2 with
    | 0, e1, e2 =>
      cases e1
      cases e2
      exact ⟨edge3 (c := (5, 4)) (by decide +kernel) (by decide +kernel) key, by decide +kernel⟩
    | 1, e1, e2 =>
      cases e1
      cases e2
      exact ⟨edge3 (c := (0, 1)) (by decide +kernel) (by decide +kernel) fun q hq => by rcases key q hq with h | h | h <;> simp [h], by decide +kernel⟩
    | i + 2, e1, e2 => simp [bare] at e2
  · exact edge3 (c := (Rat.divInt 7 2, 0)) (by decide +kernel) (by decide +kernel) fun q hq => by
      have : q = (0, 1) ∨ q = (Rat.divInt 7 2, 0) ∨ q = (5, 4) := by simpa [bare] using hq
      rcases this with h | h | h <;> simp [h]
  · unfold bare at hp
    simp only [List.mem_cons, List.not_mem_nil, or_false] at hp
    rcases hp with rfl | rfl | rfl
    · exact ⟨nm_int (i := 0) (by decide) (by decide), nm_int (i := 1) (by decide) (by decide)⟩
    · exact ⟨nm_di (r := 7) (j := 2) (by decide) (by decide) (by decide) (by decide), nm_int (i := 0) (by decide) (by decide)⟩
    · exact ⟨nm_int (i := 5) (by decide) (by decide), nm_int (i := 4) (by decide) (by decide)⟩
def ptsC (n : Nat) (i : Nat) (acc : List D) (s : S) : Prop := ∃ (ps : List Pt) (m : Nat), acc = ps.map ptD ∧ ps.length = i ∧ (∀ p ∈ ps, nmp p) ∧ s = some m ∧ m ≤ n + 4 * i
section
variable {tb : Tb} [Has tb 9 cb_w_cell 2 2] [Has tb 10 cb_w_mix 3 2] [Has tb 11 cb_w_draw 3 3] [Has tb 12 cb_w_pick 3 3] [Has tb 13 cb_w_least 5 2] [Has tb 14 cb_w_plus 2 2] [Has tb 15 cb_w_minus 2 2] [Has tb 16 cb_w_times 2 2] [Has tb 17 cb_w_sum 3 1] [Has tb 41 cb_w_far_v1 3 2] [Has tb 52 cb_w_number 2 2] [Has tb 54 cb_w_cross 4 3] [Has tb 62 cb_w_sign 1 1] [Has tb 63 cb_w_is_ahead 3 2] [Has tb 64 cb_w_hull 6 1]
theorem W_convex [Has tb 65 cb_w_convex 7 3] {k n : Nat} {ns : List Int} {mn : Int} {Q : D → S → Prop} (hn : n < 700000) (h1 : 1 ≤ mn) (h2 : mn ≤ 11) (h : ∀ (l : List Pt) (m : Nat), Conv l → m ≤ n + 100 → Q (.lst (l.map ptD)) (some m)) : W (sem tb (k + 6) 65 [.scr ns, .town, .int mn] (some n)) Q := by
  rw [sem_of rfl, W_run]
  simp only [cb_w_convex, startG]
  simp
  rw [rng_ok (by decide) (by unfold SZ; omega), rp_some, W_ok]
  refine W_compL (I := ptsC n) (acc := []) ⟨[], n, rfl, rfl, by simp, rfl, by omega⟩ ?_ ?_
  · rintro i d acc s hd ⟨ps, m, rfl, hi, hnm, rfl, hm⟩
    have hil := (range_get hd).2
    obtain ⟨rfl, _⟩ := range_get hd
    simp [cmp1]
    refine W_numberN (by omega) fun q1 hq1 => ?_
    refine W_numberN (by omega) fun q2 hq2 => ?_
    exact ⟨ps ++ [(q1, q2)], _, by rw [List.map_append]; rfl, by rw [List.length_append, hi]; rfl, fun p hp => by
      rcases List.mem_append.mp hp with hp | hp
      · exact hnm p hp
      · cases List.mem_singleton.mp hp
        exact ⟨hq1, hq2⟩, rfl, by omega⟩
  · rintro es s ⟨ps, m, e, hi, hnm, rfl, hm⟩
    rw [List.nil_append] at e
    subst e
    rw [range_len] at hi
    rw [bigL_map (by unfold SZ; omega), W_ok]
    refine W_hull (fun p hp => (hnm p hp).grp) (by rintro rfl; simp at hi; omega) (by omega) fun l v hg he hne hl => ?_
    simp
    rw [bare_d]
    by_cases h3 : 2 < l.length
    · have h3' : (2 : Int) < l.length := by omega
      simp [h3']
      exact h l m ⟨h3, by omega, fun p hp => hnm p (hg.mem p hp), ps, v, hg, he, hnm⟩ (by rw [range_len] at hm; omega)
    · have h3' : ¬ (2 : Int) < l.length := by omega
      simp [h3']
      exact h bare m bare_ok (by rw [range_len] at hm; omega)
end
end FR
/-! FrLev: sights, benches, what hangs together: walked. -/
namespace FR
open PySem (Str)
/-! ### data alike -/
theorem eqvL_map {α : Type} [DecidableEq α] {f : α → D} (h : ∀ a b, D.eqv (f a) (f b) = decide (a = b)) : ∀ l m : List α, D.eqvL (l.map f) (m.map f) = decide (l = m)
  | [], [] => rfl
  | [], y :: m => by simp [D.eqvL]
  | x :: l, [] => by simp [D.eqvL]
  | x :: l, y :: m => by
    rw [List.map_cons, List.map_cons, D.eqvL, h, eqvL_map h l m, ← Bool.decide_and]
    simp
theorem any_eqv {α : Type} [DecidableEq α] {f : α → D} (h : ∀ a b, D.eqv (f a) (f b) = decide (a = b)) (x : α) (l : List α) : ((l.map f).any fun y => D.eqv y (f x)) = decide (x ∈ l) := by
  rw [List.any_map, Bool.eq_iff_iff, List.any_eq_true, decide_eq_true_eq]
  constructor
  · rintro ⟨y, hy, e⟩
    have e : D.eqv (f y) (f x) = true := e
    rw [h, decide_eq_true_eq] at e
    exact e ▸ hy
  · exact fun hx => ⟨x, hx, by show D.eqv (f x) (f x) = true; rw [h]; simp⟩
theorem eqv_str (a b : Str) : D.eqv (.str a) (.str b) = decide (a = b) := by
  rw [D.eqv]
  by_cases h : a = b <;> simp [h]
def iD (i : Nat) : D := .int i
def qD (p : Nat × Nat) : D := .tup [.int p.1, .int p.2]
theorem eqv_iD (a b : Nat) : D.eqv (iD a) (iD b) = decide (a = b) := by
  unfold iD
  rw [D.eqv]
  by_cases h : a = b
  · simp [h]
  · have : ¬ (a : Int) = b := by omega
    simp [h, this]
theorem eqv_qD (a b : Nat × Nat) : D.eqv (qD a) (qD b) = decide (a = b) := by
  obtain ⟨a1, a2⟩ := a
  obtain ⟨b1, b2⟩ := b
  have h1 := eqv_iD a1 b1
  have h2 := eqv_iD a2 b2
  unfold iD at h1 h2
  unfold qD
  rw [D.eqv]
  dsimp only
  rw [D.eqvL, D.eqvL, h1, h2, D.eqvL]
  by_cases e1 : a1 = b1 <;> by_cases e2 : a2 = b2 <;> simp [e1, e2]
section
variable {α : Type} [DecidableEq α] {f : α → D}
theorem pl_mapL {l : List α} (hp : ∀ a ∈ l, (f a).pl 7 = true) : (D.lst (l.map f)).pl 8 = true := by
  show (l.map f).all (D.pl 7) = true
  rw [List.all_eq_true]
  intro d hd
  obtain ⟨a, ha, rfl⟩ := List.mem_map.mp hd
  exact hp a ha
theorem eq_mapL (h : ∀ a b, D.eqv (f a) (f b) = decide (a = b)) {l m : List α} (hl : ∀ a ∈ l, (f a).pl 7 = true) (hm : ∀ a ∈ m, (f a).pl 7 = true) : cmpD .eq (.lst (l.map f)) (.lst (m.map f)) = some (decide (l = m)) := by
  show (if _ then _ else _) = _
  rw [pl_mapL hl, pl_mapL hm]
  show some (D.eqvL _ _) = _
  rw [eqvL_map h]
theorem ne_mapL (h : ∀ a b, D.eqv (f a) (f b) = decide (a = b)) {l m : List α} (hl : ∀ a ∈ l, (f a).pl 7 = true) (hm : ∀ a ∈ m, (f a).pl 7 = true) : cmpD .ne (.lst (l.map f)) (.lst (m.map f)) = some (!decide (l = m)) := by
  show (if _ then _ else _) = _
  rw [pl_mapL hl, pl_mapL hm]
  show some (!D.eqvL _ _) = _
  rw [eqvL_map h]
theorem in_mapL (h : ∀ a b, D.eqv (f a) (f b) = decide (a = b)) {l : List α} {x : α} (hx : (f x).pl 8 = true) (hl : ∀ a ∈ l, (f a).pl 8 = true) : cmpD .isin (f x) (.lst (l.map f)) = some (decide (x ∈ l)) := by
  show (if _ then _ else _) = _
  have e : ((l.map f).all (D.pl 8)) = true := by
    rw [List.all_eq_true]
    intro d hd
    obtain ⟨a, ha, rfl⟩ := List.mem_map.mp hd
    exact hl a ha
  rw [hx, e]
  show some _ = _
  rw [any_eqv h]
theorem nin_mapL (h : ∀ a b, D.eqv (f a) (f b) = decide (a = b)) {l : List α} {x : α} (hx : (f x).pl 8 = true) (hl : ∀ a ∈ l, (f a).pl 8 = true) : cmpD .nin (f x) (.lst (l.map f)) = some (!decide (x ∈ l)) := by
  show (cmpD .isin (f x) (.lst (l.map f))).map (!·) = _
  rw [in_mapL h hx hl]
  rfl
end
theorem pl_iD {n a : Nat} : (iD a).pl n = true := by cases n <;> rfl
theorem pl_qD {n : Nat} {p : Nat × Nat} : (qD p).pl (n + 1) = true := by
  show ([D.int p.1, D.int p.2].all (D.pl n)) = true
  cases n <;> rfl
theorem in_iD {i : Nat} {l : List Nat} : cmpD .isin (.int i) (.lst (l.map iD)) = some (decide (i ∈ l)) := in_mapL (f := iD) eqv_iD pl_iD fun _ _ => pl_iD
theorem nin_iD {i : Nat} {l : List Nat} : cmpD .nin (.int i) (.lst (l.map iD)) = some (!decide (i ∈ l)) := nin_mapL (f := iD) eqv_iD pl_iD fun _ _ => pl_iD
theorem nin_t2 {i a b : Nat} : cmpD .nin (.int i) (.tup [.int a, .int b]) = some (!decide (i = a ∨ i = b)) := by
  show some (!(D.eqv (iD a) (iD i) || (D.eqv (iD b) (iD i) || false))) = _
  rw [eqv_iD, eqv_iD]
  congr 2
  by_cases h1 : a = i <;> by_cases h2 : b = i <;> simp [h1, h2] <;> omega
theorem nin_qD {p : Nat × Nat} {l : List (Nat × Nat)} : cmpD .nin (qD p) (.lst (l.map qD)) = some (!decide (p ∈ l)) := by
  rw [nin_mapL (f := qD) eqv_qD pl_qD fun _ _ => pl_qD]
  congr 2
  exact decide_eq_decide.mpr Iff.rfl
theorem eq_iD {l m : List Nat} : cmpD .eq (.lst (l.map iD)) (.lst (m.map iD)) = some (decide (l = m)) := eq_mapL eqv_iD (fun _ _ => pl_iD) fun _ _ => pl_iD
theorem ne_iD {l m : List Nat} : cmpD .ne (.lst (l.map iD)) (.lst (m.map iD)) = some (!decide (l = m)) := ne_mapL eqv_iD (fun _ _ => pl_iD) fun _ _ => pl_iD
theorem eq_qD {l m : List (Nat × Nat)} : cmpD .eq (.lst (l.map qD)) (.lst (m.map qD)) = some (decide (l = m)) := eq_mapL eqv_qD (fun _ _ => pl_qD) fun _ _ => pl_qD
theorem ne_qD {l m : List (Nat × Nat)} : cmpD .ne (.lst (l.map qD)) (.lst (m.map qD)) = some (!decide (l = m)) := ne_mapL eqv_qD (fun _ _ => pl_qD) fun _ _ => pl_qD
theorem ne_bl {a b : Bool} : cmpD .ne (.bl a) (.bl b) = some (a != b) := by cases a <;> cases b <;> rfl
theorem eq_bl {a b : Bool} : cmpD .eq (.bl a) (.bl b) = some (a == b) := by cases a <;> cases b <;> rfl
/-! ### names -/
def nms : List Str := ["a", "b", "c", "hill", "dam", "zzzzzzzz", "road", "x", "y", "gate"]
theorem nms_nd : nms.Nodup := by decide +kernel
theorem nms_pl : (nms.all fun x => decide (x.length ≤ 100000) && x.cps.all (· < 0x110000)) = true := by decide +kernel
theorem pl_nm {x : Str} {n : Nat} (h : x ∈ nms) : (D.str x).pl n = true := by
  have e := List.all_eq_true.mp nms_pl x h
  cases n <;> exact e
theorem in_nm {x : Str} {l : List Str} (hx : x ∈ nms) (hl : ∀ y ∈ l, y ∈ nms) : cmpD .isin (.str x) (.lst (l.map D.str)) = some (decide (x ∈ l)) := in_mapL (f := D.str) eqv_str (pl_nm hx) fun y hy => pl_nm (hl y hy)
theorem nin_nm {x : Str} {l : List Str} (hx : x ∈ nms) (hl : ∀ y ∈ l, y ∈ nms) : cmpD .nin (.str x) (.lst (l.map D.str)) = some (!decide (x ∈ l)) := nin_mapL (f := D.str) eqv_str (pl_nm hx) fun y hy => pl_nm (hl y hy)
theorem ne_nms {l m : List Str} (hl : ∀ y ∈ l, y ∈ nms) (hm : ∀ y ∈ m, y ∈ nms) : cmpD .ne (.lst (l.map D.str)) (.lst (m.map D.str)) = some (!decide (l = m)) := ne_mapL eqv_str (fun y hy => pl_nm (hl y hy)) fun y hy => pl_nm (hm y hy)
theorem eq_nms {l m : List Str} (hl : ∀ y ∈ l, y ∈ nms) (hm : ∀ y ∈ m, y ∈ nms) : cmpD .eq (.lst (l.map D.str)) (.lst (m.map D.str)) = some (decide (l = m)) := eq_mapL eqv_str (fun y hy => pl_nm (hl y hy)) fun y hy => pl_nm (hm y hy)
theorem eq_nm {x y : Str} (hx : x ∈ nms) (hy : y ∈ nms) : cmpD .eq (.str x) (.str y) = some (decide (x = y)) := by
  show (if _ then _ else _) = _
  rw [pl_nm hx, pl_nm hy]
  show some (D.eqv _ _) = _
  rw [eqv_str]
theorem ne_nm {x y : Str} (hx : x ∈ nms) (hy : y ∈ nms) : cmpD .ne (.str x) (.str y) = some (!decide (x = y)) := by
  show (if _ then _ else _) = _
  rw [pl_nm hx, pl_nm hy]
  show some (!D.eqv _ _) = _
  rw [eqv_str]
/-! ### sights -/
structure Sg where
  a : Str
  b : Str
  r : Int
  w : Int
def sgD (x : Sg) : D := .tup [.str x.a, .str x.b, .int x.r, .int x.w]
def Sg.ed (x : Sg) : Ed := (x.a, x.b)
structure SgOk (x : Sg) : Prop where
  na : x.a ∈ nms
  nb : x.b ∈ nms
  ne : x.a ≠ x.b
  r : -1000000 ≤ x.r ∧ x.r ≤ 1000000
  w : 1 ≤ x.w ∧ x.w ≤ 100
def bnP (l : List Sg) : List Str := sortS (onceS (l.map Sg.a ++ l.map Sg.b))
theorem mem_bn {l : List Sg} {x : Str} : x ∈ bnP l ↔ ∃ y ∈ l, x = y.a ∨ x = y.b := by
  unfold bnP
  rw [mem_sortS, mem_onceS, List.mem_append, List.mem_map, List.mem_map]
  constructor
  · rintro (⟨y, hy, rfl⟩ | ⟨y, hy, rfl⟩)
    · exact ⟨y, hy, .inl rfl⟩
    · exact ⟨y, hy, .inr rfl⟩
  · rintro ⟨y, hy, rfl | rfl⟩
    · exact .inl ⟨y, hy, rfl⟩
    · exact .inr ⟨y, hy, rfl⟩
theorem bn_srt (l : List Sg) : SrtS (bnP l) := sortS_srt _
theorem bn_nd (l : List Sg) : (bnP l).Nodup := (sortS_perm _).nodup_iff.mpr (nodup_onceS _)
structure SLok (l : List Sg) : Prop where
  ok : ∀ x ∈ l, SgOk x
  n1 : 1 ≤ l.length
  n24 : l.length ≤ 24
theorem SLok.nm {l : List Sg} (h : SLok l) : ∀ x ∈ bnP l, x ∈ nms := fun x hx => by
  obtain ⟨y, hy, rfl | rfl⟩ := mem_bn.mp hx
  · exact (h.ok y hy).na
  · exact (h.ok y hy).nb
theorem SLok.b10 {l : List Sg} (h : SLok l) : (bnP l).length ≤ 10 := sub_len (bn_nd l) h.nm
section
variable {tb : Tb} [Has tb 101 cb_is_name 2 1] [HasG tb 5 (.int 8)] [HasG tb 17 (.str "abcdefghijklmnopqrstuvwxyz")]
theorem isname_eq {k : Nat} {x : Str} {s : S} (h : x ∈ nms) : sem tb (k + 1) 101 [.str x] s = some (.ok (.bl true), s) := by
  rw [sem_of rfl]
  have key : ∀ y ∈ nms, (1 : Int) ≤ y.length ∧ (y.length : Int) ≤ 8 ∧ ∀ c ∈ y.cps.toList, cmpD .isin (.str ⟨#[c]⟩) (.str "abcdefghijklmnopqrstuvwxyz") = some true := by
    intro y hy
    unfold nms at hy
    simp only [List.mem_cons, List.not_mem_nil, or_false] at hy
    rcases hy with rfl | rfl | rfl | rfl | rfl | rfl | rfl | rfl | rfl | rfl <;> decide +kernel
  obtain ⟨h1, h2, h3⟩ := key x h
  have e : compL (cmp1 (enOf tb k) [.dat (.str x), .un] (.nm 1) (.cst (.bl true)) (.cmp .isin (.var 1) (.glo 17))) (signsD x) s = some (.ok (x.cps.toList.map fun _ => D.bl true), s) :=
    compL_map fun c hc => by simp -implicitDefEqProofs [cmp1, setT, gl_of, h3 c hc]
  have l1 : x.length ≤ 100000 := by omega
  have it : itemsD (.str x) = some (signsD x) := if_pos (by omega)
  have bl : x.cps.toList.length ≤ SZ := by
    have : x.cps.toList.length = x.length := rfl
    unfold SZ
    omega
  have a : bifD .all [.lst (x.cps.toList.map fun _ => D.bl true)] s = some (.bl true) := by
    rw [all_map (f := fun _ => true)]
    simp
  simp -implicitDefEqProofs [cb_is_name, startG, gl_of, l1, h1, h2, it, e, bigL_map bl, a]
variable [Has tb 102 cb_is_sight 1 1] [Has tb 3 cb_is_whole 3 3] [HasG tb 11 (.int 1000000)] [HasG tb 14 (.int 100)]
theorem issight_eq {k : Nat} {x : Sg} {s : S} (h : SgOk x) : sem tb (k + 2) 102 [sgD x] s = some (.ok (.bl true), s) := by
  rw [sem_of rfl]
  obtain ⟨h1, h2, h3, h4, h5⟩ := h
  simp -implicitDefEqProofs [cb_is_sight, startG, gl_of, sgD, isname_eq h1, isname_eq h2, eq_nm h1 h2, h3, whole_eq, h4.1, h4.2, h5.1, h5.2, show ∀ a b c d : D, atL [a, b, c, d] 3 = some d from fun _ _ _ _ => rfl]
end
section
variable {tb : Tb} [Has tb 103 cb_benches_of 2 1]
theorem benches_eq {k : Nat} {l : List Sg} {s : S} (h : l.length ≤ 24) : sem tb (k + 1) 103 [.lst (l.map sgD)] s = some (.ok (.lst ((bnP l).map D.str)), s) := by
  rw [sem_of rfl]
  have e0 : ∀ g, compL (cmp1 (enOf tb k) [g, .un] (.nm 1) (.cst (.bl true)) (.idx (.var 1) (.cst (.int 0)))) (l.map sgD) s = some (.ok (l.map fun x => D.str x.a), s) := fun g => compL_map fun x hx => by simp -implicitDefEqProofs [cmp1, setT, sgD]
  have e1 : ∀ g, compL (cmp1 (enOf tb k) [g, .un] (.nm 1) (.cst (.bl true)) (.idx (.var 1) (.cst (.int 1)))) (l.map sgD) s = some (.ok (l.map fun x => D.str x.b), s) := fun g => compL_map fun x hx => by simp -implicitDefEqProofs [cmp1, setT, sgD]
  have lz : l.length ≤ SZ := by unfold SZ; omega
  have ad : binD .add (.lst (l.map fun x => D.str x.a)) (.lst (l.map fun x => D.str x.b)) = some (.lst ((l.map Sg.a ++ l.map Sg.b).map D.str)) := by
    rw [add_lst (by rw [List.length_map, List.length_map]; unfold SZ; omega), List.map_append, List.map_map, List.map_map]
    rfl
  have st : setSortD (.lst ((l.map Sg.a ++ l.map Sg.b).map D.str)) = some (.lst ((bnP l).map D.str)) := setSort_map (by simp; omega)
  simp -implicitDefEqProofs [cb_benches_of, startG, e0, e1, bigL_map lz, ad, st, -List.map_append]
end
section
variable {tb : Tb} [Has tb 101 cb_is_name 2 1] [HasG tb 5 (.int 8)] [HasG tb 17 (.str "abcdefghijklmnopqrstuvwxyz")] [Has tb 102 cb_is_sight 1 1] [Has tb 3 cb_is_whole 3 3] [HasG tb 11 (.int 1000000)] [HasG tb 14 (.int 100)] [Has tb 103 cb_benches_of 2 1] [Has tb 104 cb_look_sights 2 1] [HasG tb 12 (.int 24)] [HasG tb 1 (.int 10)]
theorem looks_eq {k : Nat} {l : List Sg} {s : S} (h : SLok l) : sem tb (k + 3) 104 [.lst (l.map sgD)] s = some (.ok .non, s) := by
  rw [sem_of rfl]
  have e : ∀ g, compL (cmp1 (enOf tb (k + 2)) [g, .un] (.nm 1) (.cst (.bl true)) (.call 102 (.cons (.var 1) .nil))) (l.map sgD) s = some (.ok (l.map fun _ => D.bl true), s) := fun g => compL_map fun x hx => by simp -implicitDefEqProofs [cmp1, setT, issight_eq (h.ok x hx)]
  have lz : l.length ≤ SZ := by have := h.n24; unfold SZ; omega
  have a : bifD .all [.lst (l.map fun _ => D.bl true)] s = some (.bl true) := by
    rw [all_map (f := fun _ => true)]
    simp
  have l1 : (1 : Int) ≤ l.length := by have := h.n1; omega
  have l2 : (l.length : Int) ≤ 24 := by have := h.n24; omega
  have l3 : ¬ (10 : Int) < (bnP l).length := by have := h.b10; omega
  simp -implicitDefEqProofs [cb_look_sights, startG, gl_of, l1, l2, e, bigL_map lz, a, benches_eq h.n24, l3]
/-- known heights -/
structure KnOk (l : List Sg) (kn : List (Str × Int)) : Prop where
  n1 : kn ≠ []
  n9 : kn.length < 60
  nd : (kn.map (·.1)).Nodup
  sub : ∀ x ∈ kn.map (·.1), x ∈ bnP l
  ok : ∀ x ∈ kn, -1000000 ≤ x.2 ∧ x.2 ≤ 1000000
abbrev knD (kn : List (Str × Int)) : D := kD D.int kn
theorem getQ_mem {α : Type} {l : List (Str × α)} {x : Str} (h : x ∈ l.map (·.1)) : ∃ v, getQ l x = some v ∧ (x, v) ∈ l := by
  unfold getQ
  cases e : l.find? fun p => decide (p.1 = x) with
  | none =>
    obtain ⟨p, hp, rfl⟩ := List.mem_map.mp h
    have := List.find?_eq_none.mp e p hp
    simp at this
  | some p =>
    have h1 := List.find?_some e
    have h2 := List.mem_of_find?_eq_some e
    have h1 : p.1 = x := by simpa using h1
    exact ⟨p.2, rfl, by rw [← h1]; exact h2⟩
variable [Has tb 105 cb_look_known 4 2]
theorem lookk_eq {k : Nat} {l : List Sg} {kn : List (Str × Int)} {s : S} (h : SLok l) (q : KnOk l kn) : sem tb (k + 2) 105 [.lst (l.map sgD), knD kn] s = some (.ok .non, s) := by
  rw [sem_of rfl]
  have ks : keysD (knD kn) = some (kn.map fun p => .str p.1) := keys_kD
  have e1 : compL (cmp1 (enOf tb (k + 1)) [.dat (.lst (l.map sgD)), .dat (knD kn), .dat (.lst ((bnP l).map D.str)), .un] (.nm 3) (.cst (.bl true)) (.and (.isi (.var 3) .str) (.cmp .isin (.var 3) (.var 2)))) (kn.map fun p => .str p.1) s = some (.ok (kn.map fun _ => D.bl true), s) :=
    compL_map fun p hp => by
      have hb := q.sub p.1 (List.mem_map.mpr ⟨p, hp, rfl⟩)
      simp -implicitDefEqProofs [cmp1, setT, in_nm (h.nm _ hb) h.nm, hb]
  have e2 : compL (cmp1 (enOf tb (k + 1)) [.dat (.lst (l.map sgD)), .dat (knD kn), .dat (.lst ((bnP l).map D.str)), .un] (.nm 3) (.cst (.bl true)) (.call 3 (.cons (.idx (.var 1) (.var 3)) (.cons (.bin .sub (.cst (.int 0)) (.glo 11)) (.cons (.glo 11) (.nil)))))) (kn.map fun p => .str p.1) s = some (.ok (kn.map fun _ => D.bl true), s) :=
    compL_map fun p hp => by
      obtain ⟨v, hv, hm⟩ := getQ_mem (List.mem_map.mpr ⟨p, hp, rfl⟩)
      have := q.ok _ hm
      have ix : idxD (knD kn) (.str p.1) = some (.int v) := by
        rw [idx_kD, hv]
        rfl
      simp -implicitDefEqProofs [cmp1, setT, gl_of, ix, whole_eq, this.1, this.2]
  have lz : kn.length ≤ SZ := by have := q.n9; unfold SZ; omega
  have a : bifD .all [.lst (kn.map fun _ => D.bl true)] s = some (.bl true) := by
    rw [all_map (f := fun _ => true)]
    simp
  have ln : bifD .len [knD kn] s = some (.int kn.length) := by
    show some (D.int _) = _
    rw [List.length_map]
  have l0 : ¬ (kn.length : Int) = 0 := by
    have := List.length_pos_iff.mpr q.n1
    omega
  have di : isiD (knD kn) .dict = some true := rfl
  have nn : kn ≠ [] := q.n1
  simp -implicitDefEqProofs [cb_look_known, startG, di, ln, l0, nn, benches_eq h.n24, ks, e1, e2, bigL_map lz, a]
end
end FR
/-! FrLev2: held, and the law's joined. -/
namespace FR
open PySem (Str)
def edsL (l : List Sg) (is : List Nat) : List Ed := is.filterMap fun i => l[i]?.map Sg.ed
theorem itH_succ (E : List Ed) : ∀ (n : Nat) (f : List Str), itH E (n + 1) f = passH E (itH E n f)
  | 0, _ => rfl
  | n + 1, f => itH_succ E n (passH E f)
theorem pass_next {l : List Sg} {is : List Nat} {i j : Nat} {x : Sg} {f : List Str} (h : is[i]? = some j) (hx : l[j]? = some x) : passH (edsL l (is.take (i + 1))) f = stepH (passH (edsL l (is.take i)) f) x.ed := by
  unfold edsL passH
  rw [List.take_add_one, h, List.filterMap_append, List.foldl_append]
  simp [hx]
theorem edsL_mem {l : List Sg} {is : List Nat} {e : Ed} : e ∈ edsL l is ↔ ∃ i ∈ is, ∃ x, l[i]? = some x ∧ e = x.ed := by
  unfold edsL
  rw [List.mem_filterMap]
  constructor
  · rintro ⟨i, hi, h⟩
    obtain ⟨x, hx, rfl⟩ := Option.map_eq_some_iff.mp h
    exact ⟨i, hi, x, hx, rfl⟩
  · rintro ⟨i, hi, x, hx, rfl⟩
    exact ⟨i, hi, by rw [hx]; rfl⟩
theorem eds_in {l : List Sg} {is : List Nat} : ∀ e ∈ edsL l is, e.1 ∈ bnP l ∧ e.2 ∈ bnP l := by
  intro e he
  obtain ⟨i, hi, x, hx, rfl⟩ := edsL_mem.mp he
  have := List.mem_of_getElem? hx
  exact ⟨mem_bn.mpr ⟨x, this, .inl rfl⟩, mem_bn.mpr ⟨x, this, .inr rfl⟩⟩
theorem sort_sort (l : List Str) : sortS (sortS l) = sortS l := srt_uniq (sortS_perm _) (sortS_srt _) (sortS_srt _)
theorem grok_of {l : List Sg} {is : List Nat} {ns : List Str} (nd : ns.Nodup) (sub : ∀ x ∈ ns, x ∈ bnP l) : GrOk (edsL l is) (sortS ns) (bnP l) := ⟨(sortS_perm _).nodup_iff.mpr nd, fun x hx => sub x (mem_sortS.mp hx), eds_in⟩
theorem gr_take {l : List Sg} {is : List Nat} {f : List Str} {i : Nat} (g : GrOk (edsL l is) f (bnP l)) : GrOk (edsL l (is.take i)) f (bnP l) := ⟨g.nd, g.sub, eds_in⟩
section
variable {tb : Tb}
def heldJ (l : List Sg) (ns : D) (is : List Nat) (f0 : List Str) (s : S) (i : Nat) (g : G) (s' : S) : Prop := s' = s ∧ ∃ x5 x6 x7, g = [.dat (.lst (l.map sgD)), .dat ns, .dat (.lst (is.map iD)), .own ((passH (edsL l (is.take i)) f0).map D.str), .dat (.bl (decide ((passH (edsL l (is.take i)) f0).length ≠ f0.length))), x5, x6, x7]
theorem cut2 {x : Sg} : slcD (sgD x) none (some 2) = some (.tup [.str x.a, .str x.b]) := rfl
theorem held_in {k : Nat} {l : List Sg} {ns : D} {is : List Nat} {f0 : List Str} {s : S} {Q : Fl → S → Prop} (h : SLok l) (hi : ∀ i ∈ is, i < l.length) (gr : GrOk (edsL l is) f0 (bnP l)) {i : Nat} {d : D} {g : G} {s' : S} (hd : (is.map iD)[i]? = some d) (hI : heldJ l ns is f0 s i g s') :
    ∃ g1, setT g d (.nm 5) = some g1 ∧ W (evSs (enOf tb k) (.cons (.tas [] [6, 7] (.slc (.idx (.var 0) (.var 5)) (.cst .non) (.cst (.int 2)))) (.cons (.ifs [3] (.cmp .ne (.cmp .isin (.var 6) (.var 3)) (.cmp .isin (.var 7) (.var 3))) (.cons (.app [3] 3 (.ite (.cmp .isin (.var 6) (.var 3)) (.var 7) (.var 6))) (.cons (.asg [] 4 (.cst (.bl true))) (.nil))) (.nil)) (.nil))) g1 s') (stepK (heldJ l ns is f0 s (i + 1)) Q) := by
  obtain ⟨rfl, x5, x6, x7, rfl⟩ := hI
  rw [List.getElem?_map] at hd
  obtain ⟨j, hj, rfl⟩ := Option.map_eq_some_iff.mp hd
  have hjl := hi j (List.mem_of_getElem? hj)
  obtain ⟨x, hx⟩ : ∃ x, l[j]? = some x := ⟨_, List.getElem?_eq_getElem hjl⟩
  have nx := pass_next (f := f0) hj hx
  have gf := (gr_take (i := i) gr).pass
  have xm := h.ok x (List.mem_of_getElem? hx)
  unfold heldJ
  rw [nx]
  have lf := passH_len (edsL l (is.take i)) f0
  generalize passH (edsL l (is.take i)) f0 = f at *
  have fm : ∀ y ∈ f, y ∈ nms := fun y hy => h.nm y (gf.sub y hy)
  have i1 := in_nm xm.na fm
  have i2 := in_nm xm.nb fm
  have ix : atL (l.map sgD) (j : Int) = some (sgD x) := by
    rw [at_nat, List.getElem?_map, hx]
    rfl
  have fl : f.length < 1000000 := by
    have := gf.len
    have := h.b10
    omega
  refine ⟨_, rfl, ?_⟩
  rcases stepH_cases f x.ed with ⟨a1, a2⟩ | ⟨a1, a2, a3⟩ | ⟨a1, a2, a3⟩
  · rw [a2]
    have a1 : (x.a ∈ f ↔ x.b ∈ f) := a1
    simp -implicitDefEqProofs [iD, ix, cut2, setT, setAll, testE, frz, frzS, i1, i2, ne_bl, a1]
  · have a1 : x.a ∈ f := a1
    have a2 : x.b ∉ f := a2
    rw [a3]
    have e3 : decide ((f ++ [x.ed.2]).length ≠ f0.length) = true := decide_eq_true (by rw [List.length_append, List.length_singleton]; omega)
    rw [e3]
    simp -implicitDefEqProofs [iD, ix, cut2, setT, setAll, testE, frz, frzS, i1, i2, ne_bl, a1, a2, exE, owned, appO, appF, fl, D.lf]
    rfl
  · have a1 : x.a ∉ f := a1
    have a2 : x.b ∈ f := a2
    rw [a3]
    have e3 : decide ((f ++ [x.ed.1]).length ≠ f0.length) = true := decide_eq_true (by rw [List.length_append, List.length_singleton]; omega)
    rw [e3]
    simp -implicitDefEqProofs [iD, ix, cut2, setT, setAll, testE, frz, frzS, i1, i2, ne_bl, a1, a2, exE, owned, appO, appF, fl, D.lf]
    rfl
def heldW (l : List Sg) (ns : D) (is : List Nat) (f0 : List Str) (s : S) (m : Nat) (g : G) (s' : S) : Prop := s' = s ∧ ∃ f gr x5 x6 x7, g = [.dat (.lst (l.map sgD)), .dat ns, .dat (.lst (is.map iD)), .own (f.map D.str), .dat (.bl gr), x5, x6, x7] ∧ GrOk (edsL l is) f (bnP l) ∧ itH (edsL l is) 12 f = itH (edsL l is) 12 f0 ∧ (gr = false → passH (edsL l is) f = f) ∧ m = (if gr then (bnP l).length - f.length + 1 else 0)
variable [Has tb 106 cb_held 8 3]
theorem held_eq {k : Nat} {l : List Sg} {is : List Nat} {ns : List Str} {s : S} (h : SLok l) (hi : ∀ i ∈ is, i < l.length) (hl : is.length ≤ 1000) (nd : ns.Nodup) (sub : ∀ x ∈ ns, x ∈ bnP l) :
    sem tb (k + 1) 106 [.lst (l.map sgD), .lst (ns.map D.str), .lst (is.map iD)] s = some (.ok (.lst ((heldP (edsL l is) (sortS ns)).map D.str)), s) := by
  have g0 : GrOk (edsL l is) (sortS ns) (bnP l) := grok_of nd sub
  have b10 := h.b10
  have nl : ns.length < 64 := by
    have := sub_len nd sub
    omega
  have w : W (sem tb (k + 1) 106 [.lst (l.map sgD), .lst (ns.map D.str), .lst (is.map iD)] s) fun v s' => v = .lst ((heldP (edsL l is) (sortS ns)).map D.str) ∧ s' = s := by
    rw [sem_of rfl, W_run]
    simp -implicitDefEqProofs only [cb_held, startG]
    simp -implicitDefEqProofs [sorted_map nl]
    refine W_while (m := (bnP l).length - (sortS ns).length + 1) (heldW l (.lst (ns.map D.str)) is (sortS ns) s) ?_ ⟨rfl, sortS ns, true, .un, .un, .un, rfl, g0, rfl, fun e => (by cases e), rfl⟩
    rintro m g s' ⟨rfl, f, gr, x5, x6, x7, rfl, hg, hit, hfix, hm⟩
    simp -implicitDefEqProofs
    cases gr with
    | false =>
      simp
      have e : itH (edsL l is) 12 f = f := itH_fix (hfix rfl) 12
      have fl : f.length < 64 := by
        have := hg.len
        omega
      simp -implicitDefEqProofs [exE, frz, frzS, sorted_map fl]
      rw [heldP, ← hit, e]
    | true =>
      simp
      refine W_forL (I := heldJ l (.lst (ns.map D.str)) is f s') ?_ ?_ ?_
      · refine ⟨rfl, x5, x6, x7, ?_⟩
        simp [edsL, passH]
      · intro i d g s2 hd hI
        exact held_in h hi hg hd hI
      · rintro g s2 ⟨rfl, y5, y6, y7, rfl⟩
        rw [List.length_map, List.take_length]
        have l1 := passH_len (edsL l is) f
        have l2 := hg.pass.len
        simp -implicitDefEqProofs only [seqK_nx, evSs_nil, W_ok, whK_nx]
        refine ⟨if decide ((passH (edsL l is) f).length ≠ f.length) = true then (bnP l).length - (passH (edsL l is) f).length + 1 else 0, ?_, rfl, _, _, _, _, _, rfl, hg.pass, ?_, ?_, rfl⟩
        · rw [hm, if_pos rfl]
          split
          · rename_i hc
            have := of_decide_eq_true hc
            omega
          · omega
        · show itH (edsL l is) 13 f = _
          rw [itH_succ, itH_end 12 f hg (by omega), hit]
        · intro e
          have e := of_decide_eq_false e
          have := (passH_fix (edsL l is) f (by omega)).1
          rw [this, this]
  obtain ⟨v, s', e, rfl, rfl⟩ := w
  exact e
end
end FR
/-! FrLev3: the law's benches, joined, hangs. -/
namespace FR
open PySem (Str)
theorem bn_alt {l : List Sg} {m : List Str} (h : ∀ x, x ∈ m ↔ ∃ y ∈ l, x = y.a ∨ x = y.b) : sortS (onceS m) = bnP l := by
  refine srt_uniq ?_ (sortS_srt _) (bn_srt l)
  refine (sortS_perm _).trans ((List.perm_ext_iff_of_nodup (nodup_onceS _) (bn_nd l)).mpr fun x => ?_)
  rw [mem_onceS, h, mem_bn]
section
variable {tb : Tb} [Has tb 130 cb_w_benches 6 1]
theorem wbenches_eq {k : Nat} {l : List Sg} {s : S} (h : l.length ≤ 24) : sem tb (k + 1) 130 [.lst (l.map sgD)] s = some (.ok (.lst ((bnP l).map D.str)), s) := by
  have w : W (sem tb (k + 1) 130 [.lst (l.map sgD)] s) fun v s' => v = .lst ((bnP l).map D.str) ∧ s' = s := by
    rw [sem_of rfl, W_run]
    simp -implicitDefEqProofs only [cb_w_benches, startG]
    simp -implicitDefEqProofs
    refine W_forL (I := fun i g s' => s' = s ∧ ∃ x2 x3 x4 x5, g = [.dat (.lst (l.map sgD)), .dat (.lst (((l.take i).flatMap fun x => [x.a, x.b]).map D.str)), x2, x3, x4, x5]) ⟨rfl, .un, .un, .un, .un, rfl⟩ ?_ ?_
    · rintro i d g s' hd ⟨rfl, x2, x3, x4, x5, rfl⟩
      rw [List.getElem?_map] at hd
      obtain ⟨x, hx, rfl⟩ := Option.map_eq_some_iff.mp hd
      have tk : (l.take (i + 1)).flatMap (fun x => [x.a, x.b]) = (l.take i).flatMap (fun x => [x.a, x.b]) ++ [x.a, x.b] := by
        rw [List.take_add_one, hx, List.flatMap_append]
        simp
      rw [tk]
      have ln : ((l.take i).flatMap fun x => [x.a, x.b]).length ≤ 48 := by
        rw [List.length_flatMap]
        have : ∀ m : List Sg, (m.map fun a => ([a.a, a.b] : List Str).length).sum = 2 * m.length := by
          intro m
          induction m with
          | nil => rfl
          | cons y m ih => rw [List.map_cons, List.sum_cons, ih, List.length_cons]; simp; omega
        rw [this, List.length_take]
        omega
      have ad : ∀ m : List Str, m.length ≤ 48 → binD .add (.lst (m.map D.str)) (.lst [.str x.a, .str x.b]) = some (.lst ((m ++ [x.a, x.b]).map D.str)) := fun m hm => add_map (ys := [x.a, x.b]) (by simp [SZ]; omega)
      generalize (l.take i).flatMap (fun x => [x.a, x.b]) = m at *
      refine ⟨_, rfl, ?_⟩
      simp -implicitDefEqProofs [ad m ln, -List.map_append]
    · rintro g s' ⟨rfl, x2, x3, x4, x5, rfl⟩
      rw [List.length_map, List.take_length]
      have ln : (l.flatMap fun x => [x.a, x.b]).length < 64 := by
        rw [List.length_flatMap]
        have : ∀ m : List Sg, (m.map fun a => ([a.a, a.b] : List Str).length).sum = 2 * m.length := by
          intro m
          induction m with
          | nil => rfl
          | cons y m ih => rw [List.map_cons, List.sum_cons, ih, List.length_cons]; simp; omega
        rw [this]
        omega
      have st := setSort_map ln
      rw [bn_alt (l := l) fun x => by simp] at st
      generalize (l.flatMap fun x => [x.a, x.b]) = m at *
      simp -implicitDefEqProofs [st]
  obtain ⟨v, s', e, rfl, rfl⟩ := w
  exact e
end
section
variable {tb : Tb}
def joinJ (l : List Sg) (ns : D) (is : List Nat) (f0 : List Str) (s : S) (i : Nat) (g : G) (s' : S) : Prop := s' = s ∧ ∃ x4 x5 x6 x7, g = [.dat (.lst (l.map sgD)), .dat ns, .dat (.lst (is.map iD)), .own ((passH (edsL l (is.take i)) f0).map D.str), x4, x5, x6, x7]
theorem join_in {k : Nat} {l : List Sg} {ns : D} {is : List Nat} {f0 : List Str} {s : S} {Q : Fl → S → Prop} (h : SLok l) (hi : ∀ i ∈ is, i < l.length) (gr : GrOk (edsL l is) f0 (bnP l)) {i : Nat} {d : D} {g : G} {s' : S} (hd : (is.map iD)[i]? = some d) (hI : joinJ l ns is f0 s i g s') :
    ∃ g1, setT g d (.nm 5) = some g1 ∧ W (evSs (enOf tb k) (.cons (.tas [] [6, 7] (.slc (.idx (.var 0) (.var 5)) (.cst .non) (.cst (.int 2)))) (.cons (.ifs [3] (.and (.cmp .isin (.var 6) (.var 3)) (.cmp .nin (.var 7) (.var 3))) (.cons (.app [] 3 (.var 7)) (.nil)) (.nil)) (.cons (.ifs [3] (.and (.cmp .isin (.var 7) (.var 3)) (.cmp .nin (.var 6) (.var 3))) (.cons (.app [] 3 (.var 6)) (.nil)) (.nil)) (.nil)))) g1 s') (stepK (joinJ l ns is f0 s (i + 1)) Q) := by
  obtain ⟨rfl, x4, x5, x6, x7, rfl⟩ := hI
  rw [List.getElem?_map] at hd
  obtain ⟨j, hj, rfl⟩ := Option.map_eq_some_iff.mp hd
  have hjl := hi j (List.mem_of_getElem? hj)
  obtain ⟨x, hx⟩ : ∃ x, l[j]? = some x := ⟨_, List.getElem?_eq_getElem hjl⟩
  have nx := pass_next (f := f0) hj hx
  have gf := (gr_take (i := i) gr).pass
  have xm := h.ok x (List.mem_of_getElem? hx)
  unfold joinJ
  rw [nx]
  have lf := passH_len (edsL l (is.take i)) f0
  generalize passH (edsL l (is.take i)) f0 = f at *
  have fm : ∀ y ∈ f, y ∈ nms := fun y hy => h.nm y (gf.sub y hy)
  have i1 := in_nm xm.na fm
  have i2 := in_nm xm.nb fm
  have n1 := nin_nm xm.na fm
  have n2 := nin_nm xm.nb fm
  have ix : atL (l.map sgD) (j : Int) = some (sgD x) := by
    rw [at_nat, List.getElem?_map, hx]
    rfl
  have fl : f.length < 1000000 := by
    have := gf.len
    have := h.b10
    omega
  refine ⟨_, rfl, ?_⟩
  rcases stepH_cases f x.ed with ⟨a1, a2⟩ | ⟨a1, a2, a3⟩ | ⟨a1, a2, a3⟩
  · rw [a2]
    have a1 : (x.a ∈ f ↔ x.b ∈ f) := a1
    by_cases hb : x.b ∈ f
    · have ha := a1.mpr hb
      simp -implicitDefEqProofs [iD, ix, cut2, setT, setAll, testE, frz, frzS, i1, i2, n1, n2, ha, hb]
    · have ha : x.a ∉ f := fun z => hb (a1.mp z)
      simp -implicitDefEqProofs [iD, ix, cut2, setT, setAll, testE, frz, frzS, i1, i2, n1, n2, ha, hb]
  · have a1 : x.a ∈ f := a1
    have a2 : x.b ∉ f := a2
    rw [a3]
    have gm : ∀ y ∈ f ++ [x.b], y ∈ nms := fun y hy => by
      rcases List.mem_append.mp hy with hy | hy
      · exact fm y hy
      · cases List.mem_singleton.mp hy
        exact xm.nb
    have j2 := in_nm xm.nb gm
    have m1 := nin_nm xm.na gm
    rw [decide_eq_true (by simp)] at j2
    rw [decide_eq_true (by simp [a1])] at m1
    rw [List.map_append] at j2 m1
    simp only [List.map_cons, List.map_nil, Bool.not_true] at j2 m1
    simp -implicitDefEqProofs [iD, ix, cut2, setT, setAll, testE, frz, frzS, i1, i2, n1, n2, a1, a2, owned, appO, appF, fl, j2, m1]
    rfl
  · have a1 : x.a ∉ f := a1
    have a2 : x.b ∈ f := a2
    rw [a3]
    simp -implicitDefEqProofs [iD, ix, cut2, setT, setAll, testE, frz, frzS, i1, i2, n1, n2, a1, a2, owned, appO, appF, fl]
    rfl
variable [Has tb 148 cb_w_joined 8 3]
theorem joined_eq {k : Nat} {l : List Sg} {is : List Nat} {ns : List Str} {s : S} (h : SLok l) (hi : ∀ i ∈ is, i < l.length) (nd : ns.Nodup) (sub : ∀ x ∈ ns, x ∈ bnP l) :
    sem tb (k + 1) 148 [.lst (l.map sgD), .lst ((sortS ns).map D.str), .lst (is.map iD)] s = some (.ok (.lst ((heldP (edsL l is) (sortS ns)).map D.str)), s) := by
  have g0 : GrOk (edsL l is) (sortS ns) (bnP l) := grok_of nd sub
  have b10 := h.b10
  generalize sortS ns = f0 at *
  have w : W (sem tb (k + 1) 148 [.lst (l.map sgD), .lst (f0.map D.str), .lst (is.map iD)] s) fun v s' => v = .lst ((heldP (edsL l is) f0).map D.str) ∧ s' = s := by
    rw [sem_of rfl, W_run]
    simp -implicitDefEqProofs only [cb_w_joined, startG]
    have li : bifD .list [.lst (f0.map D.str)] s = some (.lst (f0.map D.str)) := rfl
    have r12 : rngD (.int 0) (.int 12) = some (rangeD 0 12) := rng_ok (by decide) (by decide)
    simp -implicitDefEqProofs [li, r12]
    refine W_range (I := fun i g s' => s' = s ∧ ∃ x4 x5 x6 x7, g = [.dat (.lst (l.map sgD)), .dat (.lst (f0.map D.str)), .dat (.lst (is.map iD)), .own ((itH (edsL l is) i f0).map D.str), x4, x5, x6, x7]) ⟨rfl, .un, .un, .un, .un, rfl⟩ ?_ ?_
    · rintro i g s' hlt ⟨rfl, x4, x5, x6, x7, rfl⟩
      simp -implicitDefEqProofs
      have gi := itH_gr i f0 g0
      refine W_forL (I := joinJ l (.lst (f0.map D.str)) is (itH (edsL l is) i f0) s') ⟨rfl, _, _, _, _, rfl⟩ ?_ ?_
      · intro t d g s2 hd hI
        exact join_in h hi gi hd hI
      · rintro g s2 ⟨rfl, y4, y5, y6, y7, rfl⟩
        rw [List.length_map, List.take_length, itH_succ]
        simp -implicitDefEqProofs
    · rintro g s' ⟨rfl, x4, x5, x6, x7, rfl⟩
      have gi := itH_gr 12 f0 g0
      have fl : (itH (edsL l is) 12 f0).length < 64 := by
        have := gi.len
        omega
      show W _ _
      have e12 : ((12 : Int) - 0).toNat = 12 := rfl
      rw [e12]
      unfold heldP
      simp -implicitDefEqProofs [exE, frz, frzS, sorted_map fl]
  obtain ⟨v, s', e, rfl, rfl⟩ := w
  exact e
end
end FR
/-! FrLev4: what is bare, what is a pair. -/
namespace FR
open PySem (Str)
def hangP (l : List Sg) (ns : List Str) (p : Nat → Bool) : Bool := decide (heldP (edsL l ((List.range l.length).filter p)) (sortS ns) = bnP l)
theorem range_iD {n : Nat} : rangeD 0 (n : Int) = (List.range n).map iD := by
  unfold rangeD iD
  simp
abbrev kns (kn : List (Str × Int)) : List Str := kn.map (·.1)
theorem filt_rng {p : Nat → Bool} {n : Nat} : ∀ i ∈ (List.range n).filter p, i < n := fun i hi => List.mem_range.mp (List.mem_filter.mp hi).1
theorem filt_len {p : Nat → Bool} {n : Nat} : ((List.range n).filter p).length ≤ n := by
  have := List.length_filter_le p (List.range n)
  rwa [List.length_range] at this
theorem held_nm {l : List Sg} {is : List Nat} {ns : List Str} (h : SLok l) (nd : ns.Nodup) (sub : ∀ x ∈ ns, x ∈ bnP l) : ∀ x ∈ heldP (edsL l is) (sortS ns), x ∈ nms := fun x hx => h.nm x ((itH_gr 12 _ (grok_of nd sub)).sub x (mem_sortS.mp hx))
def prN : List Nat → List (Nat × Nat)
  | [] => []
  | x :: r => r.map (fun y => (x, y)) ++ prN r
theorem prN_filter (c : Nat → Bool) : ∀ l : List Nat, prN (l.filter c) = (prN l).filter fun p => c p.1 && c p.2
  | [] => rfl
  | x :: r => by
    have ih := prN_filter c r
    rw [List.filter_cons]
    cases e : c x with
    | true =>
      rw [if_pos rfl, prN, prN, List.filter_append, ih, List.filter_map]
      congr 2
      refine List.filter_congr fun y _ => ?_
      simp [e]
    | false =>
      rw [if_neg (by simp), prN, List.filter_append, ih]
      have : (r.map fun y => (x, y)).filter (fun p => c p.1 && c p.2) = [] := by
        rw [List.filter_eq_nil_iff]
        intro p hp
        obtain ⟨y, _, rfl⟩ := List.mem_map.mp hp
        simp [e]
      rw [this, List.nil_append]
theorem prN_flat : ∀ l : List Nat, prN l = (List.range l.length).flatMap fun i => (l.drop (i + 1)).map fun y => (l.getD i 0, y)
  | [] => rfl
  | x :: r => by
    rw [prN, prN_flat r, List.length_cons, List.range_succ_eq_map, List.flatMap_cons, List.flatMap_map]
    rfl
theorem W_pairs {en : En} {a b : Nat} {ob b2 : G → S → EV Fl} {ls : List Nat} {c : Nat × Nat → Bool} {St1 : List (Nat × Nat) → G → Prop} {St2 : Nat → List (Nat × Nat) → G → Prop} {s : S} {g0 : G} {Q : Fl → S → Prop}
    (hob : ∀ (i : Nat) (acc : List (Nat × Nat)) (g : G), i < ls.length → St2 i acc g → ob g s = rb (forL (.nm b) b2 (rangeD ((i : Int) + 1) ls.length) g s) (seqK en .nil))
    (h1 : ∀ (i : Nat) (acc : List (Nat × Nat)) (g : G), i < ls.length → acc.length ≤ i * ls.length → St1 acc g → St2 i acc (g.set a (.dat (.int i))))
    (h2 : ∀ (i j x y : Nat) (acc : List (Nat × Nat)) (g : G), ls[i]? = some x → ls[j]? = some y → i < j → acc.length ≤ ls.length * ls.length → St2 i acc g → W (b2 (g.set b (.dat (.int j))) s) fun f s' => s' = s ∧ ∃ g2, f = .nx g2 ∧ St2 i (if c (x, y) then acc ++ [(x, y)] else acc) g2)
    (h3 : ∀ i acc g, St2 i acc g → St1 acc g) (h0 : St1 [] g0) (hQ : ∀ g, St1 ((prN ls).filter c) g → Q (.nx g) s) : W (forL (.nm a) ob (rangeD 0 ls.length) g0 s) Q := by
  have fl : ∀ (m : List (Nat × Nat)), (m.filter c).length ≤ m.length := fun m => List.length_filter_le _ _
  refine W_range (I := fun i g s' => s' = s ∧ ∃ acc, acc = ((List.range i).flatMap fun i => (ls.drop (i + 1)).map fun y => (ls.getD i 0, y)).filter c ∧ acc.length ≤ i * ls.length ∧ St1 acc g) ⟨rfl, [], rfl, Nat.zero_le _, h0⟩ ?_ ?_
  · rintro i g s' hlt ⟨rfl, acc, ha, hl, hS⟩
    have hi : i < ls.length := by omega
    rw [Int.zero_add]
    have hS2 := h1 i acc g hi hl hS
    rw [hob i acc _ hi hS2, W_rb]
    obtain ⟨x, hx⟩ : ∃ x, ls[i]? = some x := ⟨_, List.getElem?_eq_getElem hi⟩
    have gx : ls.getD i 0 = x := by rw [List.getD_eq_getElem?_getD, hx]; rfl
    refine W_range (I := fun t g s2 => s2 = s' ∧ ∃ acc2, acc2 = acc ++ (((ls.drop (i + 1)).take t).map fun y => (x, y)).filter c ∧ acc2.length ≤ acc.length + t ∧ St2 i acc2 g) ⟨rfl, acc, by simp, Nat.le_refl _, hS2⟩ ?_ ?_
    · rintro t g s2 hlt2 ⟨rfl, acc2, ha2, hl2, hS3⟩
      have hj : i + 1 + t < ls.length := by omega
      obtain ⟨y, hy⟩ : ∃ y, ls[i + 1 + t]? = some y := ⟨_, List.getElem?_eq_getElem hj⟩
      have mul : i * ls.length + ls.length ≤ ls.length * ls.length := by
        have : (i + 1) * ls.length ≤ ls.length * ls.length := Nat.mul_le_mul_right _ hi
        rwa [Nat.add_mul, Nat.one_mul] at this
      obtain ⟨f, s3, e, rfl, g2, rfl, hS4⟩ := h2 i (i + 1 + t) x y acc2 g hx hy (by omega) (by omega) hS3
      have ec : ((i : Int) + 1 + (t : Int)) = ((i + 1 + t : Nat) : Int) := by omega
      rw [ec]
      refine ⟨_, _, e, rfl, _, ?_, ?_, hS4⟩
      · rw [List.take_add_one, List.getElem?_drop, hy, List.map_append, List.filter_append, ha2]
        cases hc : c (x, y) with
        | true => simp [hc]
        | false => simp [hc]
      · split
        · rw [List.length_append, List.length_singleton]
          omega
        · omega
    · rintro g s2 ⟨rfl, acc2, ha2, hl2, hS3⟩
      simp only [seqK_nx, evSs_nil, W_ok, stepK_nx]
      refine ⟨trivial, acc2, ?_, ?_, h3 i acc2 g hS3⟩
      · rw [List.range_succ, List.flatMap_append, List.filter_append, ← ha, ha2]
        congr 1
        rw [List.flatMap_singleton, gx, List.take_of_length_le]
        rw [List.length_drop]
        omega
      · rw [Nat.add_mul, Nat.one_mul]
        omega
  · rintro g s' ⟨rfl, acc, ha, hl, hS⟩
    have e : ((ls.length : Int) - 0).toNat = ls.length := by omega
    rw [e, ← prN_flat] at ha
    rw [ha] at hS
    exact hQ g hS
end FR
/-! FrLev5: unseen, twins, is_sure; the law's hangs. -/
namespace FR
open PySem (Str)
theorem KnOk.sb {l : List Sg} {kn : List (Str × Int)} (q : KnOk l kn) : ∀ x ∈ kns kn, x ∈ bnP l := q.sub
theorem ks_eq {kn : List (Str × Int)} (h : kn.length < 60) : keySortD (knD kn) = some (.lst ((sortS (kns kn)).map D.str)) := keySort_kD (by omega)
theorem sort_nd {ns : List Str} (h : ns.Nodup) : (sortS ns).Nodup := (sortS_perm _).nodup_iff.mpr h
theorem sort_sub {ns B : List Str} (h : ∀ x ∈ ns, x ∈ B) : ∀ x ∈ sortS ns, x ∈ B := fun x hx => h x (mem_sortS.mp hx)
section
variable {tb : Tb} [Has tb 130 cb_w_benches 6 1] [Has tb 148 cb_w_joined 8 3] [Has tb 152 cb_w_hangs_v1 5 3]
theorem hangs_eq {k : Nat} {l : List Sg} {kn : List (Str × Int)} {gone : List Nat} {p : Nat → Bool} {s : S} (h : SLok l) (q : KnOk l kn) (hp : ∀ j, p j = !decide (j ∈ gone)) :
    sem tb (k + 2) 152 [.lst (l.map sgD), knD kn, .lst (gone.map iD)] s = some (.ok (.bl (hangP l (kns kn) p)), s) := by
  rw [sem_of rfl]
  have n24 := h.n24
  have r : rngD (.int 0) (.int (l.length : Int)) = some ((List.range l.length).map iD) := by rw [rng_ok (by decide) (by unfold SZ; omega), range_iD]
  have e : ∀ a b c, compL (cmp1 (enOf tb (k + 1)) [a, b, .dat (.lst (gone.map iD)), c, .un] (.nm 4) (.cmp .nin (.var 4) (.var 2)) (.var 4)) ((List.range l.length).map iD) s = some (.ok (((List.range l.length).filter p).map iD), s) := fun a b c =>
    compL_filt fun j hj => by
      have nj := nin_iD (i := j) (l := gone)
      simp -implicitDefEqProofs only [iD] at nj ⊢
      cases hd : decide (j ∈ gone) with
      | true =>
        rw [hd] at nj
        simp -implicitDefEqProofs [cmp1, setT, nj, hp, hd]
      | false =>
        rw [hd] at nj
        simp -implicitDefEqProofs [cmp1, setT, nj, hp, hd]
  have bg := bigL_map (f := iD) (xs := (List.range l.length).filter p) (s := s) (by have := filt_len (p := p) (n := l.length); unfold SZ; omega)
  have jo := joined_eq (tb := tb) (k := k) (is := (List.range l.length).filter p) (s := s) h filt_rng q.nd q.sb
  have eq := eq_nms (held_nm (is := (List.range l.length).filter p) h q.nd q.sb) h.nm
  simp -implicitDefEqProofs [cb_w_hangs_v1, startG, r, e, bg, ks_eq q.n9, jo, wbenches_eq n24, eq, hangP]
end
section
variable {tb : Tb} [Has tb 103 cb_benches_of 2 1] [Has tb 106 cb_held 8 3]
def bareP (l : List Sg) (ns : List Str) : List Nat := (List.range l.length).filter fun k => !hangP l ns fun j => decide (j ≠ k)
def hang2 (l : List Sg) (ns : List Str) (p : Nat × Nat) : Bool := hangP l ns fun j => !decide (j = p.1 ∨ j = p.2)
def twinP (l : List Sg) (ns : List Str) : List (Nat × Nat) := (prN ((List.range l.length).filter fun k => !decide (k ∈ bareP l ns))).filter fun p => !hang2 l ns p
theorem heldk_eq {k : Nat} {l : List Sg} {kn : List (Str × Int)} {p : Nat → Bool} {s : S} (h : SLok l) (q : KnOk l kn) : sem tb (k + 1) 106 [.lst (l.map sgD), .lst ((sortS (kns kn)).map D.str), .lst (((List.range l.length).filter p).map iD)] s = some (.ok (.lst ((heldP (edsL l ((List.range l.length).filter p)) (sortS (kns kn))).map D.str)), s) := by
  have := held_eq (tb := tb) (k := k) (is := (List.range l.length).filter p) (s := s) h filt_rng (by have := filt_len (p := p) (n := l.length); have := h.n24; omega) (sort_nd q.nd) (sort_sub q.sb)
  rwa [sort_sort] at this
variable [Has tb 124 cb_unseen_of 6 2]
theorem unseenof_eq {k : Nat} {l : List Sg} {kn : List (Str × Int)} {s : S} (h : SLok l) (q : KnOk l kn) : sem tb (k + 2) 124 [.lst (l.map sgD), knD kn] s = some (.ok (.lst ((bareP l (kns kn)).map iD)), s) := by
  have n24 := h.n24
  have r : rngD (.int 0) (.int (l.length : Int)) = some ((List.range l.length).map iD) := by rw [rng_ok (by decide) (by unfold SZ; omega), range_iD]
  have r' : rngD (.int 0) (.int (l.length : Int)) = some (rangeD 0 l.length) := rng_ok (by decide) (by unfold SZ; omega)
  have w : W (sem tb (k + 2) 124 [.lst (l.map sgD), knD kn] s) fun v s' => v = .lst ((bareP l (kns kn)).map iD) ∧ s' = s := by
    rw [sem_of rfl, W_run]
    simp -implicitDefEqProofs only [cb_unseen_of, startG]
    simp -implicitDefEqProofs [r']
    refine W_range (I := fun i g s' => s' = s ∧ ∃ x3 x4 x5, g = [.dat (.lst (l.map sgD)), .dat (knD kn), .own (((List.range i).filter fun k => !hangP l (kns kn) fun j => decide (j ≠ k)).map iD), x3, x4, x5]) ⟨rfl, .un, .un, .un, rfl⟩ ?_ ?_
    · rintro i g s' hlt ⟨rfl, x3, x4, x5, rfl⟩
      rw [Int.zero_add]
      have e : compL (cmp1 (enOf tb (k + 1)) [.dat (.lst (l.map sgD)), .dat (knD kn), .own (((List.range i).filter fun k => !hangP l (kns kn) fun j => decide (j ≠ k)).map iD), .dat (.int i), x4, x5] (.nm 5) (.cmp .ne (.var 5) (.var 3)) (.var 5)) ((List.range l.length).map iD) s' = some (.ok (((List.range l.length).filter fun j => decide (j ≠ i)).map iD), s') :=
        compL_filt fun j hj => by
          by_cases hd : j = i
          · subst hd
            simp -implicitDefEqProofs [cmp1, setT, iD]
          · have : ¬ (j : Int) = i := by omega
            simp -implicitDefEqProofs [cmp1, setT, iD, this, hd]
      have bg := bigL_map (f := iD) (xs := (List.range l.length).filter fun j => decide (j ≠ i)) (s := s') (by have := filt_len (p := fun j => decide (j ≠ i)) (n := l.length); unfold SZ; omega)
      have he := heldk_eq (tb := tb) (k := k) (p := fun j => decide (j ≠ i)) (s := s') h q
      have ne := ne_nms (held_nm (is := (List.range l.length).filter fun j => decide (j ≠ i)) h q.nd q.sb) h.nm
      have fl := filt_len (p := fun k => !hangP l (kns kn) fun j => decide (j ≠ k)) (n := i)
      rw [List.range_succ, List.filter_append]
      have hh : ∀ b, hangP l (kns kn) (fun j => decide (j ≠ i)) = b → decide (heldP (edsL l ((List.range l.length).filter fun j => decide (j ≠ i))) (sortS (kns kn)) = bnP l) = b := fun b h => h
      generalize ((List.range i).filter fun k => !hangP l (kns kn) fun j => decide (j ≠ k)) = acc at *
      have al : acc.length < 1000000 := by omega
      have fx : ∀ b, hangP l (kns kn) (fun j => decide (j ≠ i)) = b → ([i].filter fun k => !hangP l (kns kn) fun j => decide (j ≠ k)) = if b then [] else [i] := fun b hb => by
        rw [List.filter_cons, hb]
        cases b <;> rfl
      generalize ((List.range l.length).filter fun j => decide (j ≠ i)) = lft at *
      cases hb : hangP l (kns kn) (fun j => decide (j ≠ i)) with
      | true =>
        rw [hh true hb] at ne
        rw [fx true hb]
        simp -implicitDefEqProofs [r, e, bg, ks_eq q.n9, he, benches_eq n24, ne]
      | false =>
        rw [hh false hb] at ne
        rw [fx false hb]
        simp -implicitDefEqProofs [r, e, bg, ks_eq q.n9, he, benches_eq n24, ne, owned, appO, appF, al]
        rfl
    · rintro g s' ⟨rfl, x3, x4, x5, rfl⟩
      have e0 : ((l.length : Int) - 0).toNat = l.length := by omega
      rw [e0]
      unfold bareP
      simp -implicitDefEqProofs [exE, frz, frzS]
  obtain ⟨v, s', e, rfl, rfl⟩ := w
  exact e
end
end FR
/-! FrLev6: look_all, unseen, twins, is_sure. -/
namespace FR
open PySem (Str)
theorem bare_lt {l : List Sg} {ns : List Str} : ∀ i ∈ bareP l ns, i < l.length := filt_rng
section
variable {tb : Tb} [Has tb 101 cb_is_name 2 1] [HasG tb 5 (.int 8)] [HasG tb 17 (.str "abcdefghijklmnopqrstuvwxyz")] [Has tb 102 cb_is_sight 1 1] [Has tb 3 cb_is_whole 3 3] [HasG tb 11 (.int 1000000)] [HasG tb 14 (.int 100)] [Has tb 103 cb_benches_of 2 1] [Has tb 104 cb_look_sights 2 1] [HasG tb 12 (.int 24)] [HasG tb 1 (.int 10)] [Has tb 105 cb_look_known 4 2] [Has tb 106 cb_held 8 3] [Has tb 107 cb_look_all 2 2]
theorem lookall_eq {k : Nat} {l : List Sg} {kn : List (Str × Int)} {s : S} (h : SLok l) (q : KnOk l kn) (hc : hangP l (kns kn) (fun _ => true) = true) : sem tb (k + 4) 107 [.lst (l.map sgD), knD kn] s = some (.ok .non, s) := by
  rw [sem_of rfl]
  have n24 := h.n24
  have r : rngD (.int 0) (.int (l.length : Int)) = some ((List.range l.length).map iD) := by rw [rng_ok (by decide) (by unfold SZ; omega), range_iD]
  have he := heldk_eq (tb := tb) (k := k + 2) (p := fun _ => true) (s := s) h q
  have ne := ne_nms (held_nm (is := (List.range l.length).filter fun _ => true) h q.nd q.sb) h.nm
  unfold hangP at hc
  rw [hc] at ne
  have ft : (List.range l.length).filter (fun _ => true) = List.range l.length := by simp
  rw [ft] at he ne
  simp -implicitDefEqProofs [cb_look_all, startG, looks_eq h, lookk_eq h q, r, ks_eq q.n9, he, benches_eq n24, ne]
variable [Has tb 124 cb_unseen_of 6 2] [Has tb 123 cb_unseen 2 2]
theorem unseen_eq {k : Nat} {l : List Sg} {kn : List (Str × Int)} {s : S} (h : SLok l) (q : KnOk l kn) (hc : hangP l (kns kn) (fun _ => true) = true) : sem tb (k + 5) 123 [.lst (l.map sgD), knD kn] s = some (.ok (.lst ((bareP l (kns kn)).map iD)), s) := by
  rw [sem_of rfl]
  simp -implicitDefEqProofs [cb_unseen, startG, lookall_eq h q hc, unseenof_eq h q]
variable [Has tb 125 cb_twins 9 2]
theorem twins_eq {k : Nat} {l : List Sg} {kn : List (Str × Int)} {s : S} (h : SLok l) (q : KnOk l kn) (hc : hangP l (kns kn) (fun _ => true) = true) : sem tb (k + 5) 125 [.lst (l.map sgD), knD kn] s = some (.ok (.lst ((twinP l (kns kn)).map qD)), s) := by
  have n24 := h.n24
  have r : rngD (.int 0) (.int (l.length : Int)) = some ((List.range l.length).map iD) := by rw [rng_ok (by decide) (by unfold SZ; omega), range_iD]
  have w : W (sem tb (k + 5) 125 [.lst (l.map sgD), knD kn] s) fun v s' => v = .lst ((twinP l (kns kn)).map qD) ∧ s' = s := by
    rw [sem_of rfl, W_run]
    simp -implicitDefEqProofs only [cb_twins, startG]
    have e0 : ∀ x3 x4 x5 x6 x7 x8, compL (cmp1 (enOf tb (k + 4)) [.dat (.lst (l.map sgD)), .dat (knD kn), .dat (.lst ((bareP l (kns kn)).map iD)), x3, x4, x5, x6, x7, x8] (.nm 7) (.cmp .nin (.var 7) (.var 2)) (.var 7)) ((List.range l.length).map iD) s = some (.ok (((List.range l.length).filter fun j => !decide (j ∈ bareP l (kns kn))).map iD), s) := fun x3 x4 x5 x6 x7 x8 =>
      compL_filt fun j hj => by
        have nj := nin_iD (i := j) (l := bareP l (kns kn))
        simp -implicitDefEqProofs only [iD] at nj ⊢
        cases hd : decide (j ∈ bareP l (kns kn)) with
        | true =>
          rw [hd] at nj
          simp -implicitDefEqProofs [cmp1, setT, nj]
        | false =>
          rw [hd] at nj
          simp -implicitDefEqProofs [cmp1, setT, nj]
    have sl := filt_len (p := fun j => !decide (j ∈ bareP l (kns kn))) (n := l.length)
    unfold twinP
    generalize (List.range l.length).filter (fun j => !decide (j ∈ bareP l (kns kn))) = sm at *
    have bg := bigL_map (f := iD) (xs := sm) (s := s) (by unfold SZ; omega)
    have rs : rngD (.int 0) (.int (sm.length : Int)) = some (rangeD 0 sm.length) := rng_ok (by decide) (by unfold SZ; omega)
    simp -implicitDefEqProofs [lookall_eq h q hc, unseenof_eq h q, r, e0, bg, rs]
    generalize bareP l (kns kn) = br
    refine W_pairs (en := enOf tb (k + 4)) (b := 6) (b2 := evSs (enOf tb (k + 4)) (.cons (.asg [] 8 (.compR (.nm 7) (.cst (.int 0)) (.bif .len (.cons (.var 0) (.nil))) (.cmp .nin (.var 7) (.tup (.cons (.idx (.var 3) (.var 5)) (.cons (.idx (.var 3) (.var 6)) (.nil))))) (.var 7))) (.cons (.ifs [] (.cmp .ne (.call 106 (.cons (.var 0) (.cons (.ksort (.var 1)) (.cons (.var 8) (.nil))))) (.call 103 (.cons (.var 0) (.nil)))) (.cons (.app [] 4 (.tup (.cons (.idx (.var 3) (.var 5)) (.cons (.idx (.var 3) (.var 6)) (.nil))))) (.nil)) (.nil)) (.nil))))
      (ls := sm) (c := fun p => !hang2 l (kns kn) p)
      (St1 := fun acc g => ∃ x5 x6 x7 x8, g = [.dat (.lst (l.map sgD)), .dat (knD kn), .dat (.lst (br.map iD)), .dat (.lst (sm.map iD)), .own (acc.map qD), x5, x6, x7, x8])
      (St2 := fun i acc g => ∃ x6 x7 x8, g = [.dat (.lst (l.map sgD)), .dat (knD kn), .dat (.lst (br.map iD)), .dat (.lst (sm.map iD)), .own (acc.map qD), .dat (.int i), x6, x7, x8]) ?_ ?_ ?_ ?_ ⟨.un, .un, .un, .un, rfl⟩ ?_
    · rintro i acc g hi ⟨x6, x7, x8, rfl⟩
      have ri : rngD (.int ((i : Int) + 1)) (.int (sm.length : Int)) = some (rangeD ((i : Int) + 1) sm.length) := rng_ok (by unfold SZ; omega) (by unfold SZ; omega)
      simp -implicitDefEqProofs [ri]
    · rintro i acc g hi _ ⟨x5, x6, x7, x8, rfl⟩
      exact ⟨x6, x7, x8, rfl⟩
    · rintro i j x y acc g hx hy hij hacc ⟨x6, x7, x8, rfl⟩
      have ax : atL (sm.map iD) (i : Int) = some (.int x) := by
        rw [at_nat, List.getElem?_map, hx]
        rfl
      have ay : atL (sm.map iD) (j : Int) = some (.int y) := by
        rw [at_nat, List.getElem?_map, hy]
        rfl
      have e : compL (cmp1 (enOf tb (k + 4)) [.dat (.lst (l.map sgD)), .dat (knD kn), .dat (.lst (br.map iD)), .dat (.lst (sm.map iD)), .own (acc.map qD), .dat (.int i), .dat (.int j), x7, x8] (.nm 7) (.cmp .nin (.var 7) (.tup (.cons (.idx (.var 3) (.var 5)) (.cons (.idx (.var 3) (.var 6)) (.nil))))) (.var 7)) ((List.range l.length).map iD) s = some (.ok (((List.range l.length).filter fun t => !decide (t = x ∨ t = y)).map iD), s) :=
        compL_filt fun t ht => by
          have nj := nin_t2 (i := t) (a := x) (b := y)
          cases hd : decide (t = x ∨ t = y) with
          | true =>
            rw [hd] at nj
            simp -implicitDefEqProofs [cmp1, setT, iD, ax, ay, nj]
          | false =>
            rw [hd] at nj
            simp -implicitDefEqProofs [cmp1, setT, iD, ax, ay, nj]
      have bg := bigL_map (f := iD) (xs := (List.range l.length).filter fun t => !decide (t = x ∨ t = y)) (s := s) (by have := filt_len (p := fun t => !decide (t = x ∨ t = y)) (n := l.length); unfold SZ; omega)
      have he := heldk_eq (tb := tb) (k := k + 3) (p := fun t => !decide (t = x ∨ t = y)) (s := s) h q
      have ne := ne_nms (held_nm (is := (List.range l.length).filter fun t => !decide (t = x ∨ t = y)) h q.nd q.sb) h.nm
      have hh : ∀ b, hang2 l (kns kn) (x, y) = b → decide (heldP (edsL l ((List.range l.length).filter fun t => !decide (t = x ∨ t = y))) (sortS (kns kn)) = bnP l) = b := fun b h => h
      generalize ((List.range l.length).filter fun t => !decide (t = x ∨ t = y)) = lft at *
      have al : acc.length < 1000000 := by
        have : sm.length * sm.length ≤ 24 * 24 := Nat.mul_le_mul (by omega) (by omega)
        omega
      cases hb : hang2 l (kns kn) (x, y) with
      | true =>
        rw [hh true hb] at ne
        simp -implicitDefEqProofs [r, e, bg, ks_eq q.n9, he, benches_eq n24, ne]
      | false =>
        rw [hh false hb] at ne
        simp -implicitDefEqProofs [r, e, bg, ks_eq q.n9, he, benches_eq n24, ne, owned, appO, appF, al, ax, ay]
        rfl
    · rintro i acc g ⟨x6, x7, x8, rfl⟩
      exact ⟨_, _, _, _, rfl⟩
    · rintro g ⟨x5, x6, x7, x8, rfl⟩
      simp -implicitDefEqProofs [exE, frz, frzS]
  obtain ⟨v, s', e, rfl, rfl⟩ := w
  exact e
variable [Has tb 126 cb_is_sure 2 2]
theorem issure_eq {k : Nat} {l : List Sg} {kn : List (Str × Int)} {s : S} (h : SLok l) (q : KnOk l kn) (hc : hangP l (kns kn) (fun _ => true) = true) : sem tb (k + 6) 126 [.lst (l.map sgD), knD kn] s = some (.ok (.bl (decide (bareP l (kns kn) = []) && decide (twinP l (kns kn) = []))), s) := by
  rw [sem_of rfl]
  have e1 := eq_iD (l := bareP l (kns kn)) (m := [])
  have e2 := eq_qD (l := twinP l (kns kn)) (m := [])
  rw [List.map_nil] at e1 e2
  cases hb : decide (bareP l (kns kn) = []) with
  | true =>
    rw [hb] at e1
    simp -implicitDefEqProofs [cb_is_sure, startG, lookall_eq h q hc, unseenof_eq h q, twins_eq h q hc, e1, e2]
  | false =>
    rw [hb] at e1
    simp -implicitDefEqProofs [cb_is_sure, startG, lookall_eq h q hc, unseenof_eq h q, twins_eq h q hc, e1, e2]
end
end FR
/-! FrLev7: laws of hanging together. -/
namespace FR
open PySem (Str)
theorem Rch.trans {E : List Ed} {ns ms : List Str} {x : Str} (h : Rch E ns x) (k : ∀ y ∈ ns, Rch E ms y) : Rch E ms x := by
  induction h with
  | base h => exact k _ h
  | fw h _ ih => exact .fw h ih
  | bw h _ ih => exact .bw h ih
theorem Rch.symm1 {E : List Ed} {r x : Str} (h : Rch E [r] x) : Rch E [x] r := by
  have key : ∀ ns y, Rch E ns y → ns = [r] → Rch E [y] r := by
    intro ns y h
    induction h with
    | base h =>
      rintro rfl
      cases List.mem_singleton.mp h
      exact .base (List.mem_singleton.mpr rfl)
    | @fw a b h _ ih =>
      intro e
      exact (ih e).trans fun y hy => by
        cases List.mem_singleton.mp hy
        exact .bw h (.base (List.mem_singleton.mpr rfl))
    | @bw a b h _ ih =>
      intro e
      exact (ih e).trans fun y hy => by
        cases List.mem_singleton.mp hy
        exact .fw h (.base (List.mem_singleton.mpr rfl))
  exact key [r] x h rfl
def Con (l : List Sg) : Prop := ∃ r, ∀ x ∈ bnP l, Rch (l.map Sg.ed) [r] x
theorem Con.all {l : List Sg} (h : Con l) {ns : List Str} (h0 : ns ≠ []) (sub : ∀ x ∈ ns, x ∈ bnP l) : ∀ x ∈ bnP l, Rch (l.map Sg.ed) ns x := by
  obtain ⟨r, hr⟩ := h
  obtain ⟨y, hy⟩ := List.exists_mem_of_ne_nil ns h0
  intro x hx
  refine (hr x hx).trans fun z hz => ?_
  cases List.mem_singleton.mp hz
  exact (hr y (sub y hy)).symm1.trans fun z hz => by
    cases List.mem_singleton.mp hz
    exact .base hy
theorem hang_iff {l : List Sg} {ns : List Str} {p : Nat → Bool} (h : SLok l) (nd : ns.Nodup) (sub : ∀ x ∈ ns, x ∈ bnP l) : hangP l ns p = true ↔ ∀ x ∈ bnP l, Rch (edsL l ((List.range l.length).filter p)) ns x := by
  unfold hangP
  rw [decide_eq_true_eq, held_all (grok_of nd sub) (Nat.le_trans h.b10 (by decide)) (bn_srt l) (bn_nd l)]
  exact ⟨fun q x hx => (q x hx).mono (fun _ h => h) fun y hy => mem_sortS.mp hy, fun q x hx => (q x hx).mono (fun _ h => h) fun y hy => mem_sortS.mpr hy⟩
theorem eds_mem {l : List Sg} {p : Nat → Bool} {e : Ed} : e ∈ edsL l ((List.range l.length).filter p) ↔ ∃ i x, l[i]? = some x ∧ p i = true ∧ e = x.ed := by
  rw [edsL_mem]
  constructor
  · rintro ⟨i, hi, x, hx, rfl⟩
    exact ⟨i, x, hx, (List.mem_filter.mp hi).2, rfl⟩
  · rintro ⟨i, x, hx, hp, rfl⟩
    exact ⟨i, List.mem_filter.mpr ⟨List.mem_range.mpr (List.getElem?_eq_some_iff.mp hx).1, hp⟩, x, hx, rfl⟩
theorem hang_all {l : List Sg} {ns : List Str} (h : SLok l) (c : Con l) (h0 : ns ≠ []) (nd : ns.Nodup) (sub : ∀ x ∈ ns, x ∈ bnP l) : hangP l ns (fun _ => true) = true := by
  rw [hang_iff h nd sub]
  refine fun x hx => (c.all h0 sub x hx).mono (fun e he => ?_) fun _ h => h
  obtain ⟨y, hy, rfl⟩ := List.mem_map.mp he
  obtain ⟨i, hi⟩ := List.getElem?_of_mem hy
  exact eds_mem.mpr ⟨i, y, hi, rfl, rfl⟩
theorem hang_mono {l : List Sg} {ns ms : List Str} {p : Nat → Bool} (h : SLok l) (nd : ns.Nodup) (sub : ∀ x ∈ ns, x ∈ bnP l) (md : ms.Nodup) (sum : ∀ x ∈ ms, x ∈ bnP l) (hs : ∀ x ∈ ns, x ∈ ms) (q : hangP l ns p = true) : hangP l ms p = true := by
  rw [hang_iff h md sum]
  rw [hang_iff h nd sub] at q
  exact fun x hx => (q x hx).mono (fun _ h => h) hs
theorem bare_mono {l : List Sg} {ns ms : List Str} (h : SLok l) (nd : ns.Nodup) (sub : ∀ x ∈ ns, x ∈ bnP l) (md : ms.Nodup) (sum : ∀ x ∈ ms, x ∈ bnP l) (hs : ∀ x ∈ ns, x ∈ ms) : ∀ j ∈ bareP l ms, j ∈ bareP l ns := by
  intro j hj
  obtain ⟨h1, h2⟩ := List.mem_filter.mp hj
  refine List.mem_filter.mpr ⟨h1, ?_⟩
  cases e : hangP l ns fun t => decide (t ≠ j) with
  | false => rfl
  | true =>
    rw [hang_mono h nd sub md sum hs e] at h2
    cases h2
/-! one sight twice -/
section
variable {l : List Sg} {k : Nat} {x : Sg} (hx : l[k]? = some x)
theorem more_bn (hx : l[k]? = some x) : bnP (l ++ [x]) = bnP l := by
  have xm := List.mem_of_getElem? hx
  refine bn_alt fun z => ?_
  rw [List.mem_append, List.mem_map, List.mem_map]
  constructor
  · rintro (⟨y, hy, rfl⟩ | ⟨y, hy, rfl⟩)
    · rcases List.mem_append.mp hy with hy | hy
      · exact ⟨y, hy, .inl rfl⟩
      · cases List.mem_singleton.mp hy
        exact ⟨_, xm, .inl rfl⟩
    · rcases List.mem_append.mp hy with hy | hy
      · exact ⟨y, hy, .inr rfl⟩
      · cases List.mem_singleton.mp hy
        exact ⟨_, xm, .inr rfl⟩
  · rintro ⟨y, hy, rfl | rfl⟩
    · exact .inl ⟨y, List.mem_append_left _ hy, rfl⟩
    · exact .inr ⟨y, List.mem_append_left _ hy, rfl⟩
theorem more_ok (h : SLok l) (hl : l.length < 24) (hx : l[k]? = some x) : SLok (l ++ [x]) := ⟨fun y hy => by
  rcases List.mem_append.mp hy with hy | hy
  · exact h.ok y hy
  · cases List.mem_singleton.mp hy
    exact h.ok _ (List.mem_of_getElem? hx), by simp, by simp; omega⟩
theorem more_con (c : Con l) (hx : l[k]? = some x) : Con (l ++ [x]) := by
  obtain ⟨r, hr⟩ := c
  refine ⟨r, fun y hy => ?_⟩
  rw [more_bn hx] at hy
  exact (hr y hy).mono (fun e he => by rw [List.map_append]; exact List.mem_append_left _ he) fun _ h => h
theorem more_kn {kn : List (Str × Int)} (q : KnOk l kn) (hx : l[k]? = some x) : KnOk (l ++ [x]) kn := ⟨q.n1, q.n9, q.nd, by rw [more_bn hx]; exact q.sub, q.ok⟩
variable {ns : List Str}
theorem get_l {i : Nat} {y : Sg} (h : l[i]? = some y) : (l ++ [x])[i]? = some y := by
  rw [List.getElem?_append_left (List.getElem?_eq_some_iff.mp h).1]
  exact h
theorem get_x : (l ++ [x])[l.length]? = some x := by simp
theorem more_k (h : SLok (l ++ [x])) (c : Con l) (hx : l[k]? = some x) (h0 : ns ≠ []) (nd : ns.Nodup) (sub : ∀ x ∈ ns, x ∈ bnP l) : hangP (l ++ [x]) ns (fun j => decide (j ≠ k)) = true := by
  have eb := more_bn hx
  have hk := (List.getElem?_eq_some_iff.mp hx).1
  rw [hang_iff h nd (by rw [eb]; exact sub), eb]
  refine fun y hy => (c.all h0 sub y hy).mono (fun e he => ?_) fun _ h => h
  obtain ⟨z, hz, rfl⟩ := List.mem_map.mp he
  obtain ⟨i, hi⟩ := List.getElem?_of_mem hz
  by_cases hik : i = k
  · subst hik
    rw [hx] at hi
    cases hi
    exact eds_mem.mpr ⟨l.length, x, get_x, decide_eq_true (by omega), rfl⟩
  · exact eds_mem.mpr ⟨i, z, get_l hi, decide_eq_true hik, rfl⟩
theorem more_n (h : SLok (l ++ [x])) (c : Con l) (hx : l[k]? = some x) (h0 : ns ≠ []) (nd : ns.Nodup) (sub : ∀ x ∈ ns, x ∈ bnP l) : hangP (l ++ [x]) ns (fun j => decide (j ≠ l.length)) = true := by
  have eb := more_bn hx
  rw [hang_iff h nd (by rw [eb]; exact sub), eb]
  refine fun y hy => (c.all h0 sub y hy).mono (fun e he => ?_) fun _ h => h
  obtain ⟨z, hz, rfl⟩ := List.mem_map.mp he
  obtain ⟨i, hi⟩ := List.getElem?_of_mem hz
  have := (List.getElem?_eq_some_iff.mp hi).1
  exact eds_mem.mpr ⟨i, z, get_l hi, decide_eq_true (by omega), rfl⟩
theorem more_j (h' : SLok l) (h : SLok (l ++ [x])) (hx : l[k]? = some x) (nd : ns.Nodup) (sub : ∀ x ∈ ns, x ∈ bnP l) {p : Nat → Bool} (q : hangP l ns p = true) : hangP (l ++ [x]) ns p = true := by
  have eb := more_bn hx
  rw [hang_iff h nd (by rw [eb]; exact sub), eb]
  rw [hang_iff h' nd sub] at q
  refine fun y hy => (q y hy).mono (fun e he => ?_) fun _ h => h
  obtain ⟨i, z, hi, hp, rfl⟩ := eds_mem.mp he
  exact eds_mem.mpr ⟨i, z, get_l hi, hp, rfl⟩
theorem more_kn2 (h' : SLok l) (h : SLok (l ++ [x])) (hx : l[k]? = some x) (nd : ns.Nodup) (sub : ∀ x ∈ ns, x ∈ bnP l) (q : hangP l ns (fun j => decide (j ≠ k)) = false) : hang2 (l ++ [x]) ns (k, l.length) = false := by
  have eb := more_bn hx
  cases e : hang2 (l ++ [x]) ns (k, l.length) with
  | false => rfl
  | true =>
    unfold hang2 at e
    rw [hang_iff h nd (by rw [eb]; exact sub), eb] at e
    have : hangP l ns (fun j => decide (j ≠ k)) = true := by
      rw [hang_iff h' nd sub]
      refine fun y hy => (e y hy).mono (fun e he => ?_) fun _ h => h
      obtain ⟨i, z, hi, hp, rfl⟩ := eds_mem.mp he
      have hp : ¬ (i = k ∨ i = l.length) := by simpa using hp
      have hl := (List.getElem?_eq_some_iff.mp hi).1
      rw [List.length_append, List.length_singleton] at hl
      rw [List.getElem?_append_left (by omega)] at hi
      exact eds_mem.mpr ⟨i, z, hi, decide_eq_true (by omega), rfl⟩
    rw [this] at q
    cases q
theorem mem_prN {m a b : Nat} (h : a < b) (hb : b < m) : (a, b) ∈ prN (List.range m) := by
  rw [prN_flat, List.mem_flatMap, List.length_range]
  refine ⟨a, List.mem_range.mpr (by omega), List.mem_map.mpr ⟨b, ?_, ?_⟩⟩
  · rw [List.mem_iff_getElem?]
    exact ⟨b - (a + 1), by rw [List.getElem?_drop, show a + 1 + (b - (a + 1)) = b by omega, List.getElem?_range hb]⟩
  · rw [List.getD_eq_getElem?_getD, List.getElem?_range (by omega)]
    rfl
/-- no more is bare with one sight twice -/
theorem more_bare (h' : SLok l) (h : SLok (l ++ [x])) (c : Con l) (hx : l[k]? = some x) (h0 : ns ≠ []) (nd : ns.Nodup) (sub : ∀ x ∈ ns, x ∈ bnP l) : k ∉ bareP (l ++ [x]) ns ∧ l.length ∉ bareP (l ++ [x]) ns ∧ (∀ j ∈ bareP (l ++ [x]) ns, j ∈ bareP l ns) ∧ (bareP l ns = [k] → (k, l.length) ∈ twinP (l ++ [x]) ns) := by
  have hk := (List.getElem?_eq_some_iff.mp hx).1
  have a1 : k ∉ bareP (l ++ [x]) ns := fun hm => by
    have := (List.mem_filter.mp hm).2
    rw [more_k h c hx h0 nd sub] at this
    cases this
  have a2 : l.length ∉ bareP (l ++ [x]) ns := fun hm => by
    have := (List.mem_filter.mp hm).2
    rw [more_n h c hx h0 nd sub] at this
    cases this
  refine ⟨a1, a2, fun j hj => ?_, fun e => ?_⟩
  · obtain ⟨j1, j2⟩ := List.mem_filter.mp hj
    have jl := List.mem_range.mp j1
    rw [List.length_append, List.length_singleton] at jl
    have jn : j ≠ l.length := fun e => a2 (e ▸ hj)
    refine List.mem_filter.mpr ⟨List.mem_range.mpr (by omega), ?_⟩
    cases e : hangP l ns fun t => decide (t ≠ j) with
    | false => rfl
    | true =>
      rw [more_j h' h hx nd sub e] at j2
      cases j2
  · have kb : k ∈ bareP l ns := by rw [e]; exact List.mem_singleton.mpr rfl
    have hkf : hangP l ns (fun j => decide (j ≠ k)) = false := by
      have := (List.mem_filter.mp kb).2
      simpa using this
    unfold twinP
    rw [prN_filter]
    refine List.mem_filter.mpr ⟨List.mem_filter.mpr ⟨mem_prN hk (by simp), ?_⟩, ?_⟩
    · simp [a1, a2]
    · rw [more_kn2 h' h hx nd sub hkf]
      rfl
end
theorem twin_alt {l : List Sg} {ns : List Str} : (prN (List.range l.length)).filter (fun p => !decide (p.1 ∈ bareP l ns) && (!decide (p.2 ∈ bareP l ns) && !hang2 l ns p)) = twinP l ns := by
  unfold twinP
  rw [prN_filter, List.filter_filter]
  refine List.filter_congr fun p _ => ?_
  cases decide (p.1 ∈ bareP l ns) <;> cases decide (p.2 ∈ bareP l ns) <;> cases hang2 l ns p <;> rfl
end FR
/-! FrLev8: the laws' sights and known heights. -/
namespace FR
open PySem (Str)
theorem putQ_keys {α : Type} {l : List (Str × α)} {x : Str} {v : α} : (putQ l x v).map (·.1) = if x ∈ l.map (·.1) then l.map (·.1) else l.map (·.1) ++ [x] := by
  unfold putQ
  have e : (l.any fun p => decide (p.1 = x)) = decide (x ∈ l.map (·.1)) := by
    rw [Bool.eq_iff_iff, List.any_eq_true, decide_eq_true_eq, List.mem_map]
    constructor
    · rintro ⟨p, hp, h⟩
      exact ⟨p, hp, by simpa using h⟩
    · rintro ⟨p, hp, h⟩
      exact ⟨p, hp, by simpa using h⟩
  rw [e]
  by_cases h : x ∈ l.map (·.1)
  · rw [if_pos h, if_pos (decide_eq_true h), List.map_map]
    refine List.map_congr_left fun p _ => ?_
    show (if p.1 = x then (p.1, v) else p).1 = p.1
    split <;> rfl
  · rw [if_neg h, if_neg (by simpa using h), List.map_append]
    rfl
theorem putQ_vals {α : Type} {l : List (Str × α)} {x : Str} {v : α} : ∀ p ∈ putQ l x v, p ∈ l ∨ p.2 = v := by
  intro p hp
  unfold putQ at hp
  split at hp
  · obtain ⟨q, hq, rfl⟩ := List.mem_map.mp hp
    split
    · exact .inr rfl
    · exact .inl hq
  · rcases List.mem_append.mp hp with hp | hp
    · exact .inl hp
    · cases List.mem_singleton.mp hp
      exact .inr rfl
theorem putQ_len {α : Type} {l : List (Str × α)} {x : Str} {v : α} : (putQ l x v).length ≤ l.length + 1 ∧ 0 < (putQ l x v).length := by
  have e := congrArg List.length (putQ_keys (l := l) (x := x) (v := v))
  rw [List.length_map] at e
  rw [e]
  split
  · rename_i h
    rw [List.length_map]
    have := List.length_pos_of_mem h
    rw [List.length_map] at this
    omega
  · simp
/-- known heights, some maybe none yet -/
structure KnPre (l : List Sg) (kn : List (Str × Int)) : Prop where
  nd : (kns kn).Nodup
  sub : ∀ x ∈ kns kn, x ∈ bnP l
  ok : ∀ x ∈ kn, -1000000 ≤ x.2 ∧ x.2 ≤ 1000000
theorem KnPre.put {l : List Sg} {kn : List (Str × Int)} (h : KnPre l kn) {x : Str} {v : Int} (hx : x ∈ bnP l) (hv : -1000000 ≤ v ∧ v ≤ 1000000) : KnPre l (putQ kn x v) := by
  have e := putQ_keys (l := kn) (x := x) (v := v)
  refine ⟨?_, ?_, ?_⟩
  · show ((putQ kn x v).map (·.1)).Nodup
    rw [e]
    split
    · exact h.nd
    · rename_i hn
      exact List.nodup_append.mpr ⟨h.nd, by simp, fun a ha b hb => by cases List.mem_singleton.mp hb; exact fun z => hn (z ▸ ha)⟩
  · show ∀ y ∈ (putQ kn x v).map (·.1), y ∈ bnP l
    rw [e]
    intro y hy
    split at hy
    · exact h.sub y hy
    · rcases List.mem_append.mp hy with hy | hy
      · exact h.sub y hy
      · cases List.mem_singleton.mp hy
        exact hx
  · intro p hp
    rcases putQ_vals p hp with hp | hp
    · exact h.ok p hp
    · rw [hp]
      exact hv
section
variable {tb : Tb} [Has tb 9 cb_w_cell 2 2] [Has tb 10 cb_w_mix 3 2] [Has tb 11 cb_w_draw 3 3] [Has tb 12 cb_w_pick 3 3]
theorem W_pickS {k n : Nat} {ns : List Int} {nm : List Str} {Q : D → S → Prop} (hn : n < 900000) (hm : nm ≠ []) (h : ∀ y ∈ nm, Q (.str y) (some (n + 1))) : W (sem tb (k + 4) 12 [.scr ns, .town, .lst (nm.map D.str)] (some n)) Q :=
  W_pick hn (by simpa using hm) fun x hx => by
    obtain ⟨y, hy, rfl⟩ := List.mem_map.mp hx
    exact h y hy
def knI (ns : List Int) (l : List Sg) (n i : Nat) (g : G) (s : S) : Prop := ∃ kn m x5, g = [.dat (.scr ns), .dat .town, .dat (.lst (l.map sgD)), .dat (.lst ((bnP l).map D.str)), .ownD (kn.map fun p : Str × Int => (.inr p.1, .int p.2)), x5] ∧ s = some m ∧ m = n + 1 + 2 * i ∧ kn.length ≤ i ∧ (0 < i → kn ≠ []) ∧ KnPre l kn
theorem bn_ne {l : List Sg} (h : SLok l) : bnP l ≠ [] := by
  intro e
  match hl : l, h.n1 with
  | x :: r, _ =>
    have : x.a ∈ bnP (x :: r) := mem_bn.mpr ⟨x, List.mem_cons_self, .inl rfl⟩
    rw [e] at this
    cases this
variable [Has tb 130 cb_w_benches 6 1] [Has tb 131 cb_w_known 6 3]
theorem W_known {k n : Nat} {ns : List Int} {l : List Sg} {Q : D → S → Prop} (hn : n < 800000) (h : SLok l) (hq : ∀ (kn : List (Str × Int)) (m : Nat), KnOk l kn → m ≤ n + 10 → Q (knD kn) (some m)) : W (sem tb (k + 5) 131 [.scr ns, .town, .lst (l.map sgD)] (some n)) Q := by
  rw [sem_of rfl, W_run]
  simp -implicitDefEqProofs only [cb_w_known, startG]
  simp -implicitDefEqProofs [wbenches_eq h.n24, ownK, D.lfL]
  refine W_pickI (fun j => 1 ≤ j ∧ j ≤ 3) (by omega) (by simp) (by simp) fun c hc => ?_
  rw [rng_ok (by decide) (by unfold SZ; omega)]
  simp -implicitDefEqProofs
  refine W_range (I := knI ns l n) ⟨[], _, _, rfl, rfl, by omega, Nat.le_refl _, fun z => absurd z (by decide), ⟨by simp, by simp, by simp⟩⟩ ?_ ?_
  · rintro i g s hlt ⟨kn, m, x5, rfl, rfl, hm, hl, h0, hp⟩
    simp -implicitDefEqProofs
    refine W_pickI (fun j => -1000000 ≤ j ∧ j ≤ 1000000) (by omega) (by simp) (by simp) fun v hv => ?_
    refine W_pickS (by omega) (bn_ne h) fun y hy => ?_
    have pk := putK_kD (f := D.int) (l := kn) (x := y) (v := v)
    rw [stK_dct (k := .inr y) (ks := kn.map fun p : Str × Int => (.inr p.1, .int p.2)) rfl rfl (by rw [List.length_map]; unfold SZ; omega)]
    simp -implicitDefEqProofs [pk]
    have pl := putQ_len (l := kn) (x := y) (v := v)
    exact ⟨putQ kn y v, _, _, rfl, rfl, by omega, by omega, fun _ e => by rw [e] at pl; exact absurd pl.2 (by decide), hp.put hy hv⟩
  · rintro g s ⟨kn, m, x5, rfl, rfl, hm, hl, h0, hp⟩
    have lk : ∀ a b c d x ks, lkG [a, b, c, d, .ownD ks, x] 4 = [a, b, c, d, .dat (.dct ks), x] := fun _ _ _ _ _ _ => rfl
    simp -implicitDefEqProofs [lk]
    exact hq kn _ ⟨h0 (by omega), by omega, hp.nd, hp.sub, hp.ok⟩ (by omega)
end
end FR
/-! FrLev9: the laws' rings and nets of sights. -/
namespace FR
open PySem (Str)
@[simp] theorem isNon_bin' {o : Op} {a b : CE} : CE.isNon (.bin o a b) = false := rfl
structure NmOk (nm : List Str) : Prop where
  sub : ∀ y ∈ nm, y ∈ nms
  nd : nm.Nodup
  n2 : 2 ≤ nm.length
  n10 : nm.length ≤ 10
theorem NmOk.ne {nm : List Str} (h : NmOk nm) : nm ≠ [] := by
  rintro rfl
  exact absurd h.n2 (by decide)
theorem NmOk.other {nm : List Str} (h : NmOk nm) (x : Str) : nm.filter (fun y => !decide (y = x)) ≠ [] := by
  intro e
  have n2 := h.n2
  have a0 : nm[0] = x := by
    have := List.filter_eq_nil_iff.mp e nm[0] (List.getElem_mem (by omega))
    simpa using this
  have a1 : nm[1] = x := by
    have := List.filter_eq_nil_iff.mp e nm[1] (List.getElem_mem (by omega))
    simpa using this
  exact List.pairwise_iff_getElem.mp h.nd 0 1 (by omega) (by omega) (by decide) (by rw [a0, a1])
theorem nd_ne {nm : List Str} (h : nm.Nodup) {i j : Nat} {x y : Str} (hi : nm[i]? = some x) (hj : nm[j]? = some y) (n : i ≠ j) : x ≠ y := by
  rintro rfl
  obtain ⟨h1, e1⟩ := List.getElem?_eq_some_iff.mp hi
  obtain ⟨h2, e2⟩ := List.getElem?_eq_some_iff.mp hj
  rcases Nat.lt_or_gt_of_ne n with hl | hl
  · exact List.pairwise_iff_getElem.mp h i j h1 h2 hl (by rw [e1, e2])
  · exact List.pairwise_iff_getElem.mp h j i h2 h1 hl (by rw [e1, e2])
theorem nms_d : [D.str "a", .str "b", .str "c", .str "hill", .str "dam", .str "zzzzzzzz", .str "road", .str "x", .str "y", .str "gate"] = nms.map D.str := rfl
/-- rows so far: the first i names hang together -/
structure Rows (nm : List Str) (i : Nat) (rows : List Sg) : Prop where
  ok : ∀ x ∈ rows, SgOk x ∧ x.a ∈ nm ∧ x.b ∈ nm
  rch : ∀ r, nm[0]? = some r → ∀ y ∈ nm.take i, Rch (rows.map Sg.ed) [r] y
theorem Rows.more {nm : List Str} {i : Nat} {rows : List Sg} (h : Rows nm i rows) {x : Sg} (hx : SgOk x ∧ x.a ∈ nm ∧ x.b ∈ nm) : Rows nm i (rows ++ [x]) := ⟨fun y hy => by
  rcases List.mem_append.mp hy with hy | hy
  · exact h.ok y hy
  · cases List.mem_singleton.mp hy
    exact hx, fun r hr y hy => (h.rch r hr y hy).mono (fun e he => by rw [List.map_append]; exact List.mem_append_left _ he) fun _ h => h⟩
theorem Rows.fin {nm : List Str} {i : Nat} {rows : List Sg} (h : Rows nm i rows) (hn : nm ≠ []) (hi : nm.length ≤ i) (n1 : 1 ≤ rows.length) (n24 : rows.length ≤ 24) : SLok rows ∧ Con rows := by
  refine ⟨⟨fun x hx => (h.ok x hx).1, n1, n24⟩, ?_⟩
  obtain ⟨r, hr⟩ : ∃ r, nm[0]? = some r := ⟨_, List.getElem?_eq_getElem (List.length_pos_iff.mpr hn)⟩
  refine ⟨r, fun x hx => h.rch r hr x ?_⟩
  rw [List.take_of_length_le hi]
  obtain ⟨y, hy, rfl | rfl⟩ := mem_bn.mp hx
  · exact (h.ok y hy).2.1
  · exact (h.ok y hy).2.2
theorem at_prev {α : Type} {xs : List α} {i : Nat} (h : i < xs.length) : ∃ x, atL xs ((i : Int) - 1) = some x ∧ ((i = 0 ∧ xs[xs.length - 1]? = some x) ∨ (0 < i ∧ xs[i - 1]? = some x)) := by
  unfold atL
  by_cases h0 : i = 0
  · subst h0
    rw [if_neg (by omega), if_pos (by omega)]
    have e : (((0 : Nat) : Int) - 1 + (xs.length : Int)).toNat = xs.length - 1 := by omega
    rw [e]
    exact ⟨_, List.getElem?_eq_getElem (by omega), .inl ⟨rfl, List.getElem?_eq_getElem (by omega)⟩⟩
  · rw [if_pos (by omega)]
    have e : ((i : Int) - 1).toNat = i - 1 := by omega
    rw [e]
    exact ⟨_, List.getElem?_eq_getElem (by omega), .inr ⟨by omega, List.getElem?_eq_getElem (by omega)⟩⟩
section
variable {tb : Tb} [Has tb 9 cb_w_cell 2 2] [Has tb 10 cb_w_mix 3 2] [Has tb 11 cb_w_draw 3 3] [Has tb 12 cb_w_pick 3 3] 
theorem comp_other {k : Nat} {g : G} {nm : List Str} {o : Str} {i j : Nat} {s : S} (hs : ∀ y ∈ nm, y ∈ nms) (ho : o ∈ nms) (hi : i < g.length) (hij : i ≠ j) (hr : G.rd g j = some (.str o)) : compL (cmp1 (enOf tb k) g (.nm i) (.cmp .ne (.var i) (.var j)) (.var i)) (nm.map D.str) s = some (.ok ((nm.filter fun y => !decide (y = o)).map D.str), s) :=
  compL_filt fun y hy => by
    have r1 : G.rd (g.set i (.dat (.str y))) i = some (.str y) := rd_set hi
    have r2 : G.rd (g.set i (.dat (.str y))) j = some (.str o) := by
      unfold G.rd
      rw [List.getElem?_set_ne hij]
      exact hr
    have ne := ne_nm (hs y hy) ho
    cases hd : decide (y = o) with
    | true =>
      rw [hd] at ne
      simp -implicitDefEqProofs [cmp1, setT, r1, r2, ne]
    | false =>
      rw [hd] at ne
      simp -implicitDefEqProofs [cmp1, setT, r1, r2, ne]
variable [Has tb 157 cb_w_ring 7 2]
def ringI (ns : List Int) (nm : List Str) (n a b : Nat) (c : Nat → Nat) (i : Nat) (g : G) (s : S) : Prop := ∃ rows m x4 x5 x6, g = [.dat (.scr ns), .dat .town, .dat (.lst (nm.map D.str)), .own (rows.map sgD), x4, x5, x6] ∧ s = some m ∧ m = n + a * i ∧ rows.length = b + i ∧ Rows nm (c i) rows
theorem W_ring {k n : Nat} {ns : List Int} {Q : D → S → Prop} (hn : n < 800000) (hq : ∀ (l : List Sg) (m : Nat), SLok l → Con l → m ≤ n + 100 → Q (.lst (l.map sgD)) (some m)) : W (sem tb (k + 5) 157 [.scr ns, .town] (some n)) Q := by
  rw [sem_of rfl, W_run]
  simp -implicitDefEqProofs only [cb_w_ring, startG]
  simp -implicitDefEqProofs
  rw [nms_d]
  refine W_draw (by omega) (by decide) fun d d0 d1 => ?_
  have ct : slcD (.lst (nms.map D.str)) none (some (3 + d)) = some (.lst ((nms.take (3 + d).toNat).map D.str)) := by
    rw [slc_lst, cutL_map, cut_to (by omega)]
  have nmok : NmOk (nms.take (3 + d).toNat) := by
    have l10 : nms.length = 10 := rfl
    refine ⟨fun y hy => List.mem_of_mem_take hy, nms_nd.sublist (List.take_sublist _ _), ?_, ?_⟩
    · rw [List.length_take, l10]
      omega
    · rw [List.length_take, l10]
      omega
  have n3 : 3 ≤ (nms.take (3 + d).toNat).length := by
    have l10 : nms.length = 10 := rfl
    rw [List.length_take, l10]
    omega
  generalize nms.take (3 + d).toNat = nm at *
  have n10 := nmok.n10
  have rl : rngD (.int 0) (.int (nm.length : Int)) = some (rangeD 0 nm.length) := rng_ok (by decide) (by unfold SZ; omega)
  simp -implicitDefEqProofs [ct, rl, D.lfL]
  refine W_range (I := ringI ns nm (n + 1) 1 0 id) ⟨[], _, _, _, _, rfl, rfl, rfl, rfl, ⟨by simp, by simp⟩⟩ ?_ ?_
  · rintro i g s hlt ⟨rows, m, x4, x5, x6, rfl, rfl, hm, hl, hR⟩
    rw [Int.zero_add]
    have hi : i < nm.length := by omega
    obtain ⟨p, ep, hp⟩ := at_prev hi
    obtain ⟨y, hy⟩ : ∃ y, nm[i]? = some y := ⟨_, List.getElem?_eq_getElem hi⟩
    have e1 : atL (nm.map D.str) ((i : Int) - 1) = some (.str p) := by rw [atL_map, ep]; rfl
    have e2 : atL (nm.map D.str) (i : Int) = some (.str y) := by rw [at_nat, List.getElem?_map, hy]; rfl
    have pm : p ∈ nm := by
      rcases hp with ⟨_, h⟩ | ⟨_, h⟩
      · exact List.mem_of_getElem? h
      · exact List.mem_of_getElem? h
    have ym := List.mem_of_getElem? hy
    have py : p ≠ y := by
      rcases hp with ⟨_, h⟩ | ⟨_, h⟩
      · exact nd_ne nmok.nd h hy (by omega)
      · exact nd_ne nmok.nd h hy (by omega)
    have al : rows.length < 1000000 := by omega
    simp -implicitDefEqProofs [e1, e2, owned]
    refine W_draw (by omega) (by decide) fun r r0 r1 => ?_
    simp -implicitDefEqProofs [appO, appF, al]
    refine ⟨rows ++ [⟨p, y, r, 1⟩], _, _, _, _, by rw [List.map_append]; rfl, rfl, by omega, by simp; omega, ?_⟩
    have hx : SgOk ⟨p, y, r, 1⟩ ∧ p ∈ nm ∧ y ∈ nm := ⟨⟨nmok.sub p pm, nmok.sub y ym, py, ⟨by show -1000000 ≤ r; omega, by show r ≤ 1000000; omega⟩, ⟨by show (1 : Int) ≤ 1; decide, by show (1 : Int) ≤ 100; decide⟩⟩, pm, ym⟩
    have mr := hR.more hx
    refine ⟨mr.ok, fun z hz w hw => ?_⟩
    have hw : w ∈ nm.take (i + 1) := hw
    rw [List.take_add_one, hy] at hw
    rcases List.mem_append.mp hw with hw | hw
    · exact mr.rch z hz w hw
    · have hw : w ∈ [y] := hw
      cases List.mem_singleton.mp hw
      rcases Nat.eq_zero_or_pos i with h0 | h0
      · subst h0
        rw [hy] at hz
        cases hz
        exact .base (List.mem_singleton.mpr rfl)
      · rcases hp with ⟨h1, _⟩ | ⟨_, h⟩
        · omega
        · refine .fw (a := p) ?_ (mr.rch z hz p ?_)
          · rw [List.map_append]
            exact List.mem_append_right _ (List.mem_singleton.mpr rfl)
          · rw [List.mem_iff_getElem?]
            exact ⟨i - 1, by rw [List.getElem?_take_of_lt (by show i - 1 < i; omega)]; exact h⟩
  · rintro g s ⟨rows, m, x4, x5, x6, rfl, rfl, hm, hl, hR⟩
    simp -implicitDefEqProofs
    refine W_draw (by omega) (by decide) fun c c0 c1 => ?_
    rw [rng_ok (by decide) (by unfold SZ; omega)]
    simp -implicitDefEqProofs
    refine W_range (I := ringI ns nm (m + 1) 2 nm.length (fun _ => nm.length)) ⟨rows, _, _, _, _, rfl, rfl, rfl, by omega, ?_⟩ ?_ ?_
    · have e : id ((nm.length : Int) - 0).toNat = nm.length := by show ((nm.length : Int) - 0).toNat = nm.length; omega
      rw [e] at hR
      exact hR
    · rintro i g s hlt ⟨rows, m, x4, x5, x6, rfl, rfl, hm, hl, hR⟩
      simp -implicitDefEqProofs [owned]
      refine W_pickS (by omega) nmok.ne fun o ho => ?_
      have co : ∀ a b c d e s, compL (cmp1 (enOf tb (k + 4)) [a, b, c, d, e, .dat (.str o), x6] (.nm 6) (.cmp .ne (.var 6) (.var 5)) (.var 6)) (nm.map D.str) s = some (.ok ((nm.filter fun y => !decide (y = o)).map D.str), s) := fun a b c d e s => comp_other nmok.sub (nmok.sub o ho) (by simp) (by decide) rfl
      have bl := bigL_map (f := D.str) (xs := nm.filter fun y => !decide (y = o)) (s := some (m + 1)) (by have := List.length_filter_le (fun y => !decide (y = o)) nm; unfold SZ; omega)
      have al : rows.length < 1000000 := by omega
      have on := nmok.other o
      have om : ∀ y ∈ nm.filter (fun y => !decide (y = o)), y ∈ nm ∧ o ≠ y := fun y hy => by
        obtain ⟨h1, h2⟩ := List.mem_filter.mp hy
        exact ⟨h1, fun e => by simp [e] at h2⟩
      generalize nm.filter (fun y => !decide (y = o)) = os at *
      simp -implicitDefEqProofs [co, bl]
      refine W_pickS (by omega) on fun y hy => ?_
      obtain ⟨ym, oy⟩ := om y hy
      simp -implicitDefEqProofs [appO, appF, al]
      exact ⟨rows ++ [⟨o, y, 5, 2⟩], _, _, _, _, by rw [List.map_append]; rfl, rfl, by omega, by simp; omega, hR.more ⟨⟨nmok.sub o ho, nmok.sub y ym, oy, ⟨by show (-1000000 : Int) ≤ 5; decide, by show (5 : Int) ≤ 1000000; decide⟩, ⟨by show (1 : Int) ≤ 2; decide, by show (2 : Int) ≤ 100; decide⟩⟩, ho, ym⟩⟩
    · rintro g s ⟨rows, m, x4, x5, x6, rfl, rfl, hm, hl, hR⟩
      simp -implicitDefEqProofs [exE, frz, frzS]
      obtain ⟨h1, h2⟩ := hR.fin nmok.ne (Nat.le_refl _) (by omega) (by omega)
      exact hq rows _ h1 h2 (by omega)
end
end FR
/-! FrLev10: the laws' sights. -/
namespace FR
open PySem (Str)
theorem Rch.flip {E E' : List Ed} {ns : List Str} {x : Str} (h : Rch E ns x) (q : ∀ e ∈ E, e ∈ E' ∨ (e.2, e.1) ∈ E') : Rch E' ns x := by
  induction h with
  | base h => exact .base h
  | @fw a b h _ ih =>
    rcases q _ h with z | z
    · exact .fw z ih
    · exact .bw z ih
  | @bw a b h _ ih =>
    rcases q _ h with z | z
    · exact .bw z ih
    · exact .fw z ih
def eD (e : Ed) : D := .tup [.str e.1, .str e.2]
structure Net (nm : List Str) (i : Nat) (E : List Ed) : Prop where
  ok : ∀ e ∈ E, e.1 ∈ nm ∧ e.2 ∈ nm ∧ e.1 ≠ e.2
  rch : ∀ r, nm[0]? = some r → ∀ y ∈ nm.take i, Rch E [r] y
theorem Net.more {nm : List Str} {i : Nat} {E : List Ed} (h : Net nm i E) {x : Ed} (hx : x.1 ∈ nm ∧ x.2 ∈ nm ∧ x.1 ≠ x.2) : Net nm i (E ++ [x]) := ⟨fun y hy => by
  rcases List.mem_append.mp hy with hy | hy
  · exact h.ok y hy
  · cases List.mem_singleton.mp hy
    exact hx, fun r hr y hy => (h.rch r hr y hy).mono (fun e he => List.mem_append_left _ he) fun _ h => h⟩
def netI (ns : List Int) (nm : List Str) (most : Int) (n a b : Nat) (c : Nat → Nat) (i : Nat) (g : G) (s : S) : Prop := ∃ E m x4 x6 x7 x8 x9 x10 x11 x12, g = [.dat (.scr ns), .dat .town, .dat (.int most), .dat (.lst (nm.map D.str)), x4, .own (E.map eD), x6, x7, x8, x9, x10, x11, x12] ∧ s = some m ∧ m = n + a * i ∧ E.length = b + i ∧ Net nm (c i) E
def rowI (ns : List Int) (nm : List Str) (Es : List Ed) (most : Int) (n : Nat) (i : Nat) (g : G) (s : S) : Prop := ∃ (rows : List Sg) (m : Nat) (x4 x5 x6 x8 x9 x10 x11 x12 : Sl), g = [.dat (.scr ns), .dat .town, .dat (.int most), .dat (.lst (nm.map D.str)), x4, x5, x6, .own (rows.map sgD), x8, x9, x10, x11, x12] ∧ s = some m ∧ m = n + 4 * i ∧ rows.length = i ∧ (∀ x ∈ rows, SgOk x ∧ x.a ∈ nm ∧ x.b ∈ nm) ∧ ∀ e ∈ Es.take i, e ∈ rows.map Sg.ed ∨ (e.2, e.1) ∈ rows.map Sg.ed
theorem add_tup4 {a b c d : D} : binD .add (.tup [a, b]) (.tup [c, d]) = some (.tup [a, b, c, d]) := rfl
section
variable {tb : Tb} [Has tb 9 cb_w_cell 2 2] [Has tb 10 cb_w_mix 3 2] [Has tb 11 cb_w_draw 3 3] [Has tb 12 cb_w_pick 3 3] [Has tb 129 cb_w_sights 13 3]
theorem W_sights {k n : Nat} {ns : List Int} {most : Int} {Q : D → S → Prop} (hn : n < 800000) (m1 : 1 ≤ most) (m2 : most ≤ 16) (hq : ∀ (l : List Sg) (m : Nat), SLok l → Con l → m ≤ n + 200 → Q (.lst (l.map sgD)) (some m)) : W (sem tb (k + 5) 129 [.scr ns, .town, .int most] (some n)) Q := by
  rw [sem_of rfl, W_run]
  simp -implicitDefEqProofs only [cb_w_sights, startG]
  simp -implicitDefEqProofs
  rw [nms_d]
  refine W_draw (by omega) (by decide) fun t t0 t1 => ?_
  have l10 : nms.length = 10 := rfl
  have ct1 : slcD (.lst (nms.map D.str)) (some t) none = some (.lst ((nms.drop t.toNat).map D.str)) := by
    rw [slc_lst, cutL_map, cut_from (by omega) (by rw [l10]; omega)]
  have ct2 : slcD (.lst (nms.map D.str)) none (some t) = some (.lst ((nms.take t.toNat).map D.str)) := by
    rw [slc_lst, cutL_map, cut_to (by omega)]
  have ad : binD .add (.lst ((nms.drop t.toNat).map D.str)) (.lst ((nms.take t.toNat).map D.str)) = some (.lst ((nms.drop t.toNat ++ nms.take t.toNat).map D.str)) := add_map (by rw [List.length_drop, List.length_take, l10]; unfold SZ; omega)
  have pm : (nms.drop t.toNat ++ nms.take t.toNat).Perm nms := by
    have := List.perm_append_comm (l₁ := nms.drop t.toNat) (l₂ := nms.take t.toNat)
    rwa [List.take_append_drop] at this
  generalize nms.drop t.toNat ++ nms.take t.toNat = nn at *
  simp -implicitDefEqProofs [ct1, ct2, ad, -List.map_drop, -List.map_take]
  refine W_pickI (fun j => 5 ≤ j ∧ j ≤ 9) (by omega) (by simp) (by simp) fun c hc => ?_
  refine W_draw (by omega) (by omega) fun d d0 d1 => ?_
  have ct3 : slcD (.lst (nn.map D.str)) none (some (2 + d)) = some (.lst ((nn.take (2 + d).toNat).map D.str)) := by
    rw [slc_lst, cutL_map, cut_to (by omega)]
  have pl := pm.length_eq
  have nmok : NmOk (nn.take (2 + d).toNat) := by
    refine ⟨fun y hy => pm.mem_iff.mp (List.mem_of_mem_take hy), (pm.nodup_iff.mpr nms_nd).sublist (List.take_sublist _ _), ?_, ?_⟩
    · rw [List.length_take, pl, l10]
      omega
    · rw [List.length_take, pl, l10]
      omega
  generalize nn.take (2 + d).toNat = nm at *
  have n10 := nmok.n10
  have n2 := nmok.n2
  have rl : rngD (.int 1) (.int (nm.length : Int)) = some (rangeD 1 nm.length) := rng_ok (by decide) (by unfold SZ; omega)
  simp -implicitDefEqProofs [ct3, rl, D.lfL]
  refine W_range (I := netI ns nm most (n + 3) 1 0 (fun i => i + 1)) ⟨[], _, _, _, _, _, _, _, _, _, rfl, rfl, rfl, rfl, ⟨by simp, fun r hr y hy => ?_⟩⟩ ?_ ?_
  · have hy : y ∈ nm.take 1 := hy
    obtain ⟨hl, e⟩ := List.getElem?_eq_some_iff.mp hr
    have : nm.take 1 = [r] := by
      rw [List.take_add_one, List.take_zero, hr]
      rfl
    rw [this] at hy
    exact .base hy
  · rintro i g s hlt ⟨E, m, x4, x6, x7, x8, x9, x10, x11, x12, rfl, rfl, hm, hl, hR⟩
    have hi : 1 + i < nm.length := by omega
    obtain ⟨y, hy⟩ : ∃ y, nm[1 + i]? = some y := ⟨_, List.getElem?_eq_getElem hi⟩
    have e2 : atL (nm.map D.str) ((1 : Int) + i) = some (.str y) := by
      rw [show (1 : Int) + i = ((1 + i : Nat) : Int) by omega, at_nat, List.getElem?_map, hy]
      rfl
    have ym := List.mem_of_getElem? hy
    have al : E.length < 1000000 := by omega
    simp -implicitDefEqProofs [owned]
    refine W_draw (by omega) (by omega) fun r r0 r1 => ?_
    have hr : r.toNat < nm.length := by omega
    obtain ⟨p, hp⟩ : ∃ p, nm[r.toNat]? = some p := ⟨_, List.getElem?_eq_getElem hr⟩
    have e1 : atL (nm.map D.str) r = some (.str p) := by
      rw [at_pos r0, List.getElem?_map, hp]
      rfl
    have pm' := List.mem_of_getElem? hp
    have py := nd_ne nmok.nd hp hy (by omega)
    simp -implicitDefEqProofs [e1, e2, appO, appF, al]
    refine ⟨E ++ [(p, y)], _, _, _, _, _, _, _, _, _, by rw [List.map_append]; rfl, rfl, by omega, by simp; omega, ?_⟩
    have mr := hR.more (x := (p, y)) ⟨pm', ym, py⟩
    refine ⟨mr.ok, fun z hz w hw => ?_⟩
    have hw : w ∈ nm.take (i + 1 + 1) := hw
    rw [List.take_add_one, show i + 1 = 1 + i by omega, hy] at hw
    rcases List.mem_append.mp hw with hw | hw
    · exact mr.rch z hz w (by show w ∈ nm.take (i + 1); rw [show i + 1 = 1 + i by omega]; exact hw)
    · have hw : w ∈ [y] := hw
      cases List.mem_singleton.mp hw
      refine .fw (a := p) (List.mem_append_right _ (List.mem_singleton.mpr rfl)) (mr.rch z hz p ?_)
      rw [List.mem_iff_getElem?]
      exact ⟨r.toNat, by rw [List.getElem?_take_of_lt (by show r.toNat < i + 1; omega)]; exact hp⟩
  · rintro g s ⟨E, m, x4, x6, x7, x8, x9, x10, x11, x12, rfl, rfl, hm, hl, hR⟩
    simp -implicitDefEqProofs
    refine W_pickI (fun j => 1 ≤ j ∧ j ≤ 16) (by omega) (by simp) (by simp [m1, m2]) fun q hq' => ?_
    refine W_draw (by omega) (by omega) fun c' c0 c1 => ?_
    rw [rng_ok (by decide) (by unfold SZ; omega)]
    simp -implicitDefEqProofs
    refine W_range (I := netI ns nm most (m + 2) 2 (nm.length - 1) (fun _ => nm.length)) ⟨E, _, _, _, _, _, _, _, _, _, rfl, rfl, rfl, by omega, ?_⟩ ?_ ?_
    · have e : ((nm.length : Int) - 1).toNat + 1 = nm.length := by omega
      have hR' : Net nm (((nm.length : Int) - 1).toNat + 1) E := hR
      rw [e] at hR'
      exact hR'
    · rintro i g s hlt ⟨E, m, x4, x6, x7, x8, x9, x10, x11, x12, rfl, rfl, hm, hl, hR⟩
      simp -implicitDefEqProofs [owned]
      refine W_pickS (by omega) nmok.ne fun o ho => ?_
      have co : ∀ a b c d e f g h j u v s, compL (cmp1 (enOf tb (k + 4)) [a, b, c, d, e, f, g, h, .dat (.str o), j, u, v, x12] (.nm 12) (.cmp .ne (.var 12) (.var 8)) (.var 12)) (nm.map D.str) s = some (.ok ((nm.filter fun y => !decide (y = o)).map D.str), s) := fun a b c d e f g h j u v s => comp_other nmok.sub (nmok.sub o ho) (by simp) (by decide) rfl
      have bl := bigL_map (f := D.str) (xs := nm.filter fun y => !decide (y = o)) (s := some (m + 1)) (by have := List.length_filter_le (fun y => !decide (y = o)) nm; unfold SZ; omega)
      have al : E.length < 1000000 := by omega
      have on := nmok.other o
      have om : ∀ y ∈ nm.filter (fun y => !decide (y = o)), y ∈ nm ∧ o ≠ y := fun y hy => by
        obtain ⟨h1, h2⟩ := List.mem_filter.mp hy
        exact ⟨h1, fun e => by simp [e] at h2⟩
      generalize nm.filter (fun y => !decide (y = o)) = os at *
      simp -implicitDefEqProofs [co, bl]
      refine W_pickS (by omega) on fun y hy => ?_
      obtain ⟨ym, oy⟩ := om y hy
      simp -implicitDefEqProofs [appO, appF, al]
      exact ⟨E ++ [(o, y)], _, _, _, _, _, _, _, _, _, by rw [List.map_append]; rfl, rfl, by omega, by simp; omega, hR.more ⟨ho, ym, oy⟩⟩
    · rintro g s ⟨E, m, x4, x6, x7, x8, x9, x10, x11, x12, rfl, rfl, hm, hl, hR⟩
      simp -implicitDefEqProofs
      refine W_draw (by omega) (by omega) fun t t0 t1 => ?_
      have ct1 : slcD (.lst (E.map eD)) (some t) none = some (.lst ((E.drop t.toNat).map eD)) := by
        rw [slc_lst, cutL_map, cut_from (by omega) (by omega)]
      have ct2 : slcD (.lst (E.map eD)) none (some t) = some (.lst ((E.take t.toNat).map eD)) := by
        rw [slc_lst, cutL_map, cut_to (by omega)]
      have ad : binD .add (.lst ((E.drop t.toNat).map eD)) (.lst ((E.take t.toNat).map eD)) = some (.lst ((E.drop t.toNat ++ E.take t.toNat).map eD)) := add_map (by rw [List.length_drop, List.length_take]; unfold SZ; omega)
      have pm : (E.drop t.toNat ++ E.take t.toNat).Perm E := by
        have := List.perm_append_comm (l₁ := E.drop t.toNat) (l₂ := E.take t.toNat)
        rwa [List.take_append_drop] at this
      generalize E.drop t.toNat ++ E.take t.toNat = Es at *
      have pl := pm.length_eq
      simp -implicitDefEqProofs [frz, frzS, D.lfL, ct1, ct2, ad, -List.map_drop, -List.map_take]
      refine W_forL (I := rowI ns nm Es most (m + 1)) ⟨[], _, _, _, _, _, _, _, _, _, rfl, rfl, rfl, rfl, by simp, by simp⟩ ?_ ?_
      · rintro i d g s hd ⟨rows, m', x4, x5, x6, x8, x9, x10, x11, x12, rfl, rfl, hm', hl', hok, hcov⟩
        have hil : i < Es.length := by
          have := (List.getElem?_eq_some_iff.mp hd).1
          rwa [List.length_map] at this
        rw [List.getElem?_map] at hd
        obtain ⟨e, he, rfl⟩ := Option.map_eq_some_iff.mp hd
        obtain ⟨ea, eb, ene⟩ := hR.ok e (pm.mem_iff.mp (List.mem_of_getElem? he))
        have al : rows.length < 1000000 := by omega
        refine ⟨_, rfl, ?_⟩
        simp -implicitDefEqProofs [owned]
        have fin : ∀ (x : Sg) (X4 X5 X6 X8 X9 X10 X11 X12), SgOk x ∧ x.a ∈ nm ∧ x.b ∈ nm → (e = x.ed ∨ (e.2, e.1) = x.ed) → rowI ns nm Es most (m + 1) (i + 1) [.dat (.scr ns), .dat .town, .dat (.int most), .dat (.lst (nm.map D.str)), X4, X5, X6, .own (rows.map sgD ++ [sgD x]), X8, X9, X10, X11, X12] (some (m' + 4)) := fun x X4 X5 X6 X8 X9 X10 X11 X12 hx hex => by
          refine ⟨rows ++ [x], _, _, _, _, _, _, _, _, _, by rw [List.map_append]; rfl, rfl, by omega, by simp; omega, fun y hy => ?_, fun e' he' => ?_⟩
          · rcases List.mem_append.mp hy with hy | hy
            · exact hok y hy
            · cases List.mem_singleton.mp hy
              exact hx
          · rw [List.take_add_one, he] at he'
            rw [List.map_append]
            rcases List.mem_append.mp he' with h' | h'
            · rcases hcov e' h' with h' | h'
              · exact .inl (List.mem_append_left _ h')
              · exact .inr (List.mem_append_left _ h')
            · have h' : e' ∈ [e] := h'
              cases List.mem_singleton.mp h'
              rcases hex with h | h
              · exact .inl (List.mem_append_right _ (by rw [h]; exact List.mem_singleton.mpr rfl))
              · exact .inr (List.mem_append_right _ (by rw [h]; exact List.mem_singleton.mpr rfl))
        refine W_draw (by omega) (by decide) fun z z0 z1 => ?_
        by_cases hz : z = 0
        · simp -implicitDefEqProofs [hz]
          refine W_draw (by omega) (by decide) fun v v0 v1 => ?_
          simp -implicitDefEqProofs
          refine W_pickI (fun j => -1000000 ≤ j ∧ j ≤ 1000000) (by omega) (by simp) (by simp; omega) fun v hv => ?_
          refine W_pickI (fun j => 1 ≤ j ∧ j ≤ 100) (by omega) (by simp) (by simp) fun w hw => ?_
          simp -implicitDefEqProofs [add_tup4, appO, appF, al]
          exact fin ⟨e.1, e.2, v, w⟩ _ _ _ _ _ _ _ _ ⟨⟨nmok.sub _ ea, nmok.sub _ eb, ene, hv, hw⟩, ea, eb⟩ (.inl rfl)
        · simp -implicitDefEqProofs [hz]
          refine W_draw (by omega) (by decide) fun v v0 v1 => ?_
          simp -implicitDefEqProofs
          refine W_pickI (fun j => -1000000 ≤ j ∧ j ≤ 1000000) (by omega) (by simp) (by simp; omega) fun v hv => ?_
          refine W_pickI (fun j => 1 ≤ j ∧ j ≤ 100) (by omega) (by simp) (by simp) fun w hw => ?_
          simp -implicitDefEqProofs [add_tup4, appO, appF, al]
          exact fin ⟨e.2, e.1, v, w⟩ _ _ _ _ _ _ _ _ ⟨⟨nmok.sub _ eb, nmok.sub _ ea, ene.symm, hv, hw⟩, eb, ea⟩ (.inr rfl)
      · rintro g s ⟨rows, m', x4, x5, x6, x8, x9, x10, x11, x12, rfl, rfl, hm', hl', hok, hcov⟩
        rw [List.length_map] at hl' hm' hcov
        rw [List.take_length] at hcov
        simp -implicitDefEqProofs [exE, frz, frzS]
        have rw' : Rows nm nm.length rows := ⟨hok, fun r hr y hy => (hR.rch r hr y hy).flip fun e he => hcov e (pm.mem_iff.mpr he)⟩
        obtain ⟨h1, h2⟩ := rw'.fin nmok.ne (Nat.le_refl _) (by omega) (by omega)
        exact hq rows _ h1 h2 (by omega)
end
end FR
namespace FR
open PySem (Str)
def fd_k43_law : Fd := ⟨"law", (["_law_script"] : List Str), (["_law_script", "_law_town", "_law_sights_here", "_law_known_here", "_law_size", "_law_bare", "_law_pairs", "_law_i", "_law_k", "_law_held_now", "_law_fewer", "_law_j", "_law_more"] : List Str), .cons (.asg [] 2 (.ite (.cmp .eq (.call 11 (.cons (.var 0) (.cons (.var 1) (.cons (.cst (.int 2)) (.nil))))) (.cst (.int 0))) (.call 157 (.cons (.var 0) (.cons (.var 1) (.nil)))) (.call 129 (.cons (.var 0) (.cons (.var 1) (.cons (.cst (.int 8)) (.nil))))))) (.cons (.asg [] 3 (.call 131 (.cons (.var 0) (.cons (.var 1) (.cons (.var 2) (.nil)))))) (.cons (.asg [] 4 (.bif .len (.cons (.var 2) (.nil)))) (.cons (.asg [] 5 (.compR (.nm 8) (.cst (.int 0)) (.var 4) (.not (.call 152 (.cons (.var 2) (.cons (.var 3) (.cons (.lst (.cons (.var 8) (.nil))) (.nil)))))) (.var 8))) (.cons (.own [] 6 (.lst (.nil))) (.cons (.forR [] (.nm 7) (.cst (.int 0)) (.var 4) (.cons (.forR [] (.nm 11) (.bin .add (.var 7) (.cst (.int 1))) (.var 4) (.cons (.ifs [] (.and (.cmp .nin (.var 7) (.var 5)) (.and (.cmp .nin (.var 11) (.var 5)) (.not (.call 152 (.cons (.var 2) (.cons (.var 3) (.cons (.lst (.cons (.var 7) (.cons (.var 11) (.nil)))) (.nil)))))))) (.cons (.app [] 6 (.tup (.cons (.var 7) (.cons (.var 11) (.nil))))) (.nil)) (.nil)) (.nil))) (.nil))) (.cons (.ifs [6] (.or (.cmp .ne (.call 123 (.cons (.var 2) (.cons (.var 3) (.nil)))) (.var 5)) (.cmp .ne (.call 125 (.cons (.var 2) (.cons (.var 3) (.nil)))) (.var 6))) (.cons (.ret [] (.cst (.bl false))) (.nil)) (.nil)) (.cons (.ifs [6] (.not (.call 158 (.cons (.call 126 (.cons (.var 2) (.cons (.var 3) (.nil)))) (.cons (.and (.cmp .eq (.var 5) (.lst (.nil))) (.cmp .eq (.var 6) (.lst (.nil)))) (.nil))))) (.cons (.ret [] (.cst (.bl false))) (.nil)) (.nil)) (.cons (.asg [] 8 (.call 11 (.cons (.var 0) (.cons (.var 1) (.cons (.var 4) (.nil)))))) (.cons (.ifs [] (.cmp .lt (.var 4) (.cst (.int 24))) (.cons (.asg [] 12 (.bin .add (.var 2) (.lst (.cons (.idx (.var 2) (.var 8)) (.nil))))) (.cons (.ifs [] (.or (.cmp .isin (.var 8) (.call 123 (.cons (.var 12) (.cons (.var 3) (.nil))))) (.cmp .isin (.var 4) (.call 123 (.cons (.var 12) (.cons (.var 3) (.nil)))))) (.cons (.ret [] (.cst (.bl false))) (.nil)) (.nil)) (.cons (.ifs [] (.cmp .ne (.comp (.nm 11) (.call 123 (.cons (.var 12) (.cons (.var 3) (.nil)))) (.cmp .nin (.var 11) (.var 5)) (.var 11)) (.lst (.nil))) (.cons (.ret [] (.cst (.bl false))) (.nil)) (.nil)) (.cons (.ifs [] (.and (.cmp .eq (.var 5) (.lst (.cons (.var 8) (.nil)))) (.cmp .nin (.tup (.cons (.var 8) (.cons (.var 4) (.nil)))) (.call 125 (.cons (.var 12) (.cons (.var 3) (.nil)))))) (.cons (.ret [] (.cst (.bl false))) (.nil)) (.nil)) (.nil))))) (.nil)) (.cons (.own [] 9 (.bif .dict (.cons (.var 3) (.nil)))) (.cons (.sti [] 9 (.call 12 (.cons (.var 0) (.cons (.var 1) (.cons (.call 130 (.cons (.var 2) (.nil))) (.nil))))) (.cst (.int 3))) (.cons (.lkd 9) (.cons (.asg [] 10 (.call 123 (.cons (.var 2) (.cons (.var 9) (.nil))))) (.cons (.ret [] (.cmp .eq (.comp (.nm 11) (.var 10) (.cmp .nin (.var 11) (.var 5)) (.var 11)) (.lst (.nil)))) (.nil)))))))))))))))⟩
def fd_k43_3 : Fd := ⟨"is_whole", (["thing", "low", "most"] : List Str), (["thing", "low", "most"] : List Str), cb_is_whole⟩
def fd_k43_101 : Fd := ⟨"is_name", (["thing"] : List Str), (["thing", "sign"] : List Str), cb_is_name⟩
def fd_k43_102 : Fd := ⟨"is_sight", (["thing"] : List Str), (["thing"] : List Str), cb_is_sight⟩
def fd_k43_103 : Fd := ⟨"benches_of", (["sights"] : List Str), (["sights", "sight"] : List Str), cb_benches_of⟩
def fd_k43_104 : Fd := ⟨"look_sights", (["sights"] : List Str), (["sights", "one"] : List Str), cb_look_sights⟩
def fd_k43_105 : Fd := ⟨"look_known", (["sights", "known"] : List Str), (["sights", "known", "benches", "name"] : List Str), cb_look_known⟩
def fd_k43_106 : Fd := ⟨"held", (["sights", "names", "left"] : List Str), (["sights", "names", "left", "found", "grown", "k", "one", "other"] : List Str), cb_held⟩
def fd_k43_107 : Fd := ⟨"look_all", (["sights", "known"] : List Str), (["sights", "known"] : List Str), cb_look_all⟩
def fd_k43_123 : Fd := ⟨"unseen", (["sights", "known"] : List Str), (["sights", "known"] : List Str), cb_unseen⟩
def fd_k43_124 : Fd := ⟨"unseen_of", (["sights", "known"] : List Str), (["sights", "known", "found", "k", "left", "j"] : List Str), cb_unseen_of⟩
def fd_k43_125 : Fd := ⟨"twins", (["sights", "known"] : List Str), (["sights", "known", "bare", "some", "found", "i", "j", "k", "left"] : List Str), cb_twins⟩
def fd_k43_126 : Fd := ⟨"is_sure", (["sights", "known"] : List Str), (["sights", "known"] : List Str), cb_is_sure⟩
def fd_k43_9 : Fd := ⟨"_law_cell", (["_law_script", "_law_k"] : List Str), (["_law_script", "_law_k"] : List Str), cb_w_cell⟩
def fd_k43_10 : Fd := ⟨"_law_mix", (["_law_script", "_law_k"] : List Str), (["_law_script", "_law_k", "_law_number"] : List Str), cb_w_mix⟩
def fd_k43_11 : Fd := ⟨"_law_draw", (["_law_script", "_law_town", "_law_many"] : List Str), (["_law_script", "_law_town", "_law_many"] : List Str), cb_w_draw⟩
def fd_k43_12 : Fd := ⟨"_law_pick", (["_law_script", "_law_town", "_law_some"] : List Str), (["_law_script", "_law_town", "_law_some"] : List Str), cb_w_pick⟩
def fd_k43_129 : Fd := ⟨"_law_sights", (["_law_script", "_law_town", "_law_most"] : List Str), (["_law_script", "_law_town", "_law_most", "_law_names", "_law_turn", "_law_found", "_law_k", "_law_rows", "_law_one", "_law_other", "_law_pair", "_law_rise", "_law_name"] : List Str), cb_w_sights⟩
def fd_k43_130 : Fd := ⟨"_law_benches", (["_law_sights_here"] : List Str), (["_law_sights_here", "_law_found", "_law_one", "_law_other", "_law_rise", "_law_weight"] : List Str), cb_w_benches⟩
def fd_k43_131 : Fd := ⟨"_law_known", (["_law_script", "_law_town", "_law_sights_here"] : List Str), (["_law_script", "_law_town", "_law_sights_here", "_law_benches_here", "_law_found", "_law_k"] : List Str), cb_w_known⟩
def fd_k43_148 : Fd := ⟨"_law_joined", (["_law_sights_here", "_law_some", "_law_numbers"] : List Str), (["_law_sights_here", "_law_some", "_law_numbers", "_law_found", "_law_turn", "_law_k", "_law_one", "_law_other"] : List Str), cb_w_joined⟩
def fd_k43_157 : Fd := ⟨"_law_ring", (["_law_script", "_law_town"] : List Str), (["_law_script", "_law_town", "_law_names", "_law_found", "_law_k", "_law_one", "_law_name"] : List Str), cb_w_ring⟩
def fd_k43_158 : Fd := ⟨"_law_is", (["_law_told", "_law_due"] : List Str), (["_law_told", "_law_due"] : List Str), cb_w_is⟩
def fd_k43_152 : Fd := ⟨"_law_hangs", (["_law_sights_here", "_law_known_here", "_law_gone"] : List Str), (["_law_sights_here", "_law_known_here", "_law_gone", "_law_numbers", "_law_k"] : List Str), cb_w_hangs_v1⟩
def ds_k43 : List DfC := [⟨3, 6, fd_k43_3⟩, ⟨101, 14, fd_k43_101⟩, ⟨102, 15, fd_k43_102⟩, ⟨103, 16, fd_k43_103⟩, ⟨104, 17, fd_k43_104⟩, ⟨105, 18, fd_k43_105⟩, ⟨106, 19, fd_k43_106⟩, ⟨107, 20, fd_k43_107⟩, ⟨123, 22, fd_k43_123⟩, ⟨124, 23, fd_k43_124⟩, ⟨125, 24, fd_k43_125⟩, ⟨126, 25, fd_k43_126⟩, ⟨9, 27, fd_k43_9⟩, ⟨10, 28, fd_k43_10⟩, ⟨11, 29, fd_k43_11⟩, ⟨12, 30, fd_k43_12⟩, ⟨129, 31, fd_k43_129⟩, ⟨130, 32, fd_k43_130⟩, ⟨131, 33, fd_k43_131⟩, ⟨148, 34, fd_k43_148⟩, ⟨157, 35, fd_k43_157⟩, ⟨158, 36, fd_k43_158⟩, ⟨152, 37, fd_k43_152⟩]
def gs_k43 : List GlC := [⟨17, "SMALL", .str "abcdefghijklmnopqrstuvwxyz"⟩, ⟨5, "MOST_NAME", .int 8⟩, ⟨12, "MOST_SIGHTS", .int 24⟩, ⟨1, "MOST_BENCHES", .int 10⟩, ⟨11, "MOST_RISE", .int 1000000⟩, ⟨14, "MOST_WEIGHT", .int 100⟩]
def ts_k43 : List TuC := []
def cs_k43 : List (Nat × Str) := [(0, "FieldError"), (4, "BadSights"), (5, "BadKnown"), (6, "Loose")]
def tb_k43 : Tb := mkTb ds_k43 gs_k43 ts_k43 cs_k43
instance : Has tb_k43 3 cb_is_whole 3 3 := ⟨⟨fd_k43_3, rfl, rfl, rfl, rfl⟩⟩
instance : Has tb_k43 101 cb_is_name 2 1 := ⟨⟨fd_k43_101, rfl, rfl, rfl, rfl⟩⟩
instance : Has tb_k43 102 cb_is_sight 1 1 := ⟨⟨fd_k43_102, rfl, rfl, rfl, rfl⟩⟩
instance : Has tb_k43 103 cb_benches_of 2 1 := ⟨⟨fd_k43_103, rfl, rfl, rfl, rfl⟩⟩
instance : Has tb_k43 104 cb_look_sights 2 1 := ⟨⟨fd_k43_104, rfl, rfl, rfl, rfl⟩⟩
instance : Has tb_k43 105 cb_look_known 4 2 := ⟨⟨fd_k43_105, rfl, rfl, rfl, rfl⟩⟩
instance : Has tb_k43 106 cb_held 8 3 := ⟨⟨fd_k43_106, rfl, rfl, rfl, rfl⟩⟩
instance : Has tb_k43 107 cb_look_all 2 2 := ⟨⟨fd_k43_107, rfl, rfl, rfl, rfl⟩⟩
instance : Has tb_k43 123 cb_unseen 2 2 := ⟨⟨fd_k43_123, rfl, rfl, rfl, rfl⟩⟩
instance : Has tb_k43 124 cb_unseen_of 6 2 := ⟨⟨fd_k43_124, rfl, rfl, rfl, rfl⟩⟩
instance : Has tb_k43 125 cb_twins 9 2 := ⟨⟨fd_k43_125, rfl, rfl, rfl, rfl⟩⟩
instance : Has tb_k43 126 cb_is_sure 2 2 := ⟨⟨fd_k43_126, rfl, rfl, rfl, rfl⟩⟩
instance : Has tb_k43 9 cb_w_cell 2 2 := ⟨⟨fd_k43_9, rfl, rfl, rfl, rfl⟩⟩
instance : Has tb_k43 10 cb_w_mix 3 2 := ⟨⟨fd_k43_10, rfl, rfl, rfl, rfl⟩⟩
instance : Has tb_k43 11 cb_w_draw 3 3 := ⟨⟨fd_k43_11, rfl, rfl, rfl, rfl⟩⟩
instance : Has tb_k43 12 cb_w_pick 3 3 := ⟨⟨fd_k43_12, rfl, rfl, rfl, rfl⟩⟩
instance : Has tb_k43 129 cb_w_sights 13 3 := ⟨⟨fd_k43_129, rfl, rfl, rfl, rfl⟩⟩
instance : Has tb_k43 130 cb_w_benches 6 1 := ⟨⟨fd_k43_130, rfl, rfl, rfl, rfl⟩⟩
instance : Has tb_k43 131 cb_w_known 6 3 := ⟨⟨fd_k43_131, rfl, rfl, rfl, rfl⟩⟩
instance : Has tb_k43 148 cb_w_joined 8 3 := ⟨⟨fd_k43_148, rfl, rfl, rfl, rfl⟩⟩
instance : Has tb_k43 157 cb_w_ring 7 2 := ⟨⟨fd_k43_157, rfl, rfl, rfl, rfl⟩⟩
instance : Has tb_k43 158 cb_w_is 2 2 := ⟨⟨fd_k43_158, rfl, rfl, rfl, rfl⟩⟩
instance : Has tb_k43 152 cb_w_hangs_v1 5 3 := ⟨⟨fd_k43_152, rfl, rfl, rfl, rfl⟩⟩
instance : HasG tb_k43 17 (.str "abcdefghijklmnopqrstuvwxyz") := ⟨rfl⟩
instance : HasG tb_k43 5 (.int 8) := ⟨rfl⟩
instance : HasG tb_k43 12 (.int 24) := ⟨rfl⟩
instance : HasG tb_k43 1 (.int 10) := ⟨rfl⟩
instance : HasG tb_k43 11 (.int 1000000) := ⟨rfl⟩
instance : HasG tb_k43 14 (.int 100) := ⟨rfl⟩
end FR
namespace FR
open PySem (Str)
def k43_d : CSs := .cons (.own [] 9 (.bif .dict (.cons (.var 3) (.nil)))) (.cons (.sti [] 9 (.call 12 (.cons (.var 0) (.cons (.var 1) (.cons (.call 130 (.cons (.var 2) (.nil))) (.nil))))) (.cst (.int 3))) (.cons (.lkd 9) (.cons (.asg [] 10 (.call 123 (.cons (.var 2) (.cons (.var 9) (.nil))))) (.cons (.ret [] (.cmp .eq (.comp (.nm 11) (.var 10) (.cmp .nin (.var 11) (.var 5)) (.var 11)) (.lst (.nil)))) (.nil)))))
def k43_c : CSs := .cons (.asg [] 8 (.call 11 (.cons (.var 0) (.cons (.var 1) (.cons (.var 4) (.nil)))))) (.cons (.ifs [] (.cmp .lt (.var 4) (.cst (.int 24))) (.cons (.asg [] 12 (.bin .add (.var 2) (.lst (.cons (.idx (.var 2) (.var 8)) (.nil))))) (.cons (.ifs [] (.or (.cmp .isin (.var 8) (.call 123 (.cons (.var 12) (.cons (.var 3) (.nil))))) (.cmp .isin (.var 4) (.call 123 (.cons (.var 12) (.cons (.var 3) (.nil)))))) (.cons (.ret [] (.cst (.bl false))) (.nil)) (.nil)) (.cons (.ifs [] (.cmp .ne (.comp (.nm 11) (.call 123 (.cons (.var 12) (.cons (.var 3) (.nil)))) (.cmp .nin (.var 11) (.var 5)) (.var 11)) (.lst (.nil))) (.cons (.ret [] (.cst (.bl false))) (.nil)) (.nil)) (.cons (.ifs [] (.and (.cmp .eq (.var 5) (.lst (.cons (.var 8) (.nil)))) (.cmp .nin (.tup (.cons (.var 8) (.cons (.var 4) (.nil)))) (.call 125 (.cons (.var 12) (.cons (.var 3) (.nil)))))) (.cons (.ret [] (.cst (.bl false))) (.nil)) (.nil)) (.nil))))) (.nil)) (k43_d))
def k43_b : CSs := .cons (.ifs [6] (.or (.cmp .ne (.call 123 (.cons (.var 2) (.cons (.var 3) (.nil)))) (.var 5)) (.cmp .ne (.call 125 (.cons (.var 2) (.cons (.var 3) (.nil)))) (.var 6))) (.cons (.ret [] (.cst (.bl false))) (.nil)) (.nil)) (.cons (.ifs [6] (.not (.call 158 (.cons (.call 126 (.cons (.var 2) (.cons (.var 3) (.nil)))) (.cons (.and (.cmp .eq (.var 5) (.lst (.nil))) (.cmp .eq (.var 6) (.lst (.nil)))) (.nil))))) (.cons (.ret [] (.cst (.bl false))) (.nil)) (.nil)) (k43_c))
def k43_a : CSs := .cons (.asg [] 4 (.bif .len (.cons (.var 2) (.nil)))) (.cons (.asg [] 5 (.compR (.nm 8) (.cst (.int 0)) (.var 4) (.not (.call 152 (.cons (.var 2) (.cons (.var 3) (.cons (.lst (.cons (.var 8) (.nil))) (.nil)))))) (.var 8))) (.cons (.own [] 6 (.lst (.nil))) (.cons (.forR [] (.nm 7) (.cst (.int 0)) (.var 4) (.cons (.forR [] (.nm 11) (.bin .add (.var 7) (.cst (.int 1))) (.var 4) (.cons (.ifs [] (.and (.cmp .nin (.var 7) (.var 5)) (.and (.cmp .nin (.var 11) (.var 5)) (.not (.call 152 (.cons (.var 2) (.cons (.var 3) (.cons (.lst (.cons (.var 7) (.cons (.var 11) (.nil)))) (.nil)))))))) (.cons (.app [] 6 (.tup (.cons (.var 7) (.cons (.var 11) (.nil))))) (.nil)) (.nil)) (.nil))) (.nil))) (k43_b))))
theorem k43_body : fd_k43_law.body = .cons (.asg [] 2 (.ite (.cmp .eq (.call 11 (.cons (.var 0) (.cons (.var 1) (.cons (.cst (.int 2)) (.nil))))) (.cst (.int 0))) (.call 157 (.cons (.var 0) (.cons (.var 1) (.nil)))) (.call 129 (.cons (.var 0) (.cons (.var 1) (.cons (.cst (.int 8)) (.nil))))))) (.cons (.asg [] 3 (.call 131 (.cons (.var 0) (.cons (.var 1) (.cons (.var 2) (.nil)))))) (k43_a)) := by rfl

theorem comp_nin {en : En} {g : G} {i j : Nat} {xs br : List Nat} {s : S} (hi : i < g.length) (hij : i ≠ j) (hr : G.rd g j = some (.lst (br.map iD))) : compL (cmp1 en g (.nm i) (.cmp .nin (.var i) (.var j)) (.var i)) (xs.map iD) s = some (.ok ((xs.filter fun y => !decide (y ∈ br)).map iD), s) :=
  compL_filt fun y hy => by
    have r1 : G.rd (g.set i (.dat (.int y))) i = some (.int y) := rd_set hi
    have r2 : G.rd (g.set i (.dat (.int y))) j = some (.lst (br.map iD)) := by
      unfold G.rd
      rw [List.getElem?_set_ne hij]
      exact hr
    have ne := nin_iD (i := y) (l := br)
    cases hd : decide (y ∈ br) with
    | true =>
      rw [hd] at ne
      simp -implicitDefEqProofs [cmp1, setT, iD, r1, r2, ne]
    | false =>
      rw [hd] at ne
      simp -implicitDefEqProofs [cmp1, setT, iD, r1, r2, ne]
theorem filt_none {xs br : List Nat} (h : ∀ j ∈ xs, j ∈ br) : (xs.filter fun y => !decide (y ∈ br)) = [] := by
  rw [List.filter_eq_nil_iff]
  intro y hy
  simp [h y hy]
theorem eq_nn : cmpD .eq (.lst []) (.lst []) = some true := rfl
theorem ne_nn : cmpD .ne (.lst []) (.lst []) = some false := rfl
theorem KnOk.pre {l : List Sg} {kn : List (Str × Int)} (q : KnOk l kn) : KnPre l kn := ⟨q.nd, q.sub, q.ok⟩
theorem KnOk.ne {l : List Sg} {kn : List (Str × Int)} (q : KnOk l kn) : kns kn ≠ [] := by
  have := q.n1
  simpa using this
section
variable {l : List Sg} {kn : List (Str × Int)} {ns : List Int}
theorem k43_D (h : SLok l) (c : Con l) (q : KnOk l kn) {m : Nat} (hm : m < 1000) {x4 x6 x7 x8 x9 x10 x11 x12 : Sl} :
    W (evSs (enOf tb_k43 30) k43_d [.dat (.scr ns), .dat .town, .dat (.lst (l.map sgD)), .dat (knD kn), x4, .dat (.lst ((bareP l (kns kn)).map iD)), x6, x7, x8, x9, x10, x11, x12] (some m)) (retK fun d _ => d = .bl true) := by
  unfold k43_d
  have di : ∀ s, bifD .dict [knD kn] s = some (knD kn) := fun s => rfl
  have oK : ∀ g s, ownK g [] 9 (knD kn) s = some (.ok (.nx (g.set 9 (.ownD (kn.map fun p : Str × Int => (.inr p.1, .int p.2))))), s) := fun g s => by
    show some _ = _
    congr 3
    split <;> rfl
  simp -implicitDefEqProofs [di, oK, wbenches_eq h.n24]
  refine W_pickS (by omega) (bn_ne h) fun y hy => ?_
  have pk := putK_kD (f := D.int) (l := kn) (x := y) (v := 3)
  have n9 : kn.length ≤ 10 := by
    have := sub_len q.nd q.sub
    rw [List.length_map] at this
    have := h.b10
    omega
  rw [stK_dct (k := .inr y) (ks := kn.map fun p : Str × Int => (.inr p.1, .int p.2)) rfl rfl (by rw [List.length_map]; unfold SZ; omega)]
  have lk : ∀ a b c d e f g h i x y z ks, lkG [a, b, c, d, e, f, g, h, i, .ownD ks, x, y, z] 9 = [a, b, c, d, e, f, g, h, i, .dat (.dct ks), x, y, z] := fun _ _ _ _ _ _ _ _ _ _ _ _ _ => rfl
  have kp := q.pre.put (x := y) (v := 3) hy (by decide)
  have pl := putQ_len (l := kn) (x := y) (v := 3)
  have q' : KnOk l (putQ kn y 3) := ⟨fun e => by rw [e] at pl; exact absurd pl.2 (by decide), by omega, kp.nd, kp.sub, kp.ok⟩
  have us := unseen_eq (tb := tb_k43) (k := 25) (s := some (m + 1)) h q' (hang_all h c q'.ne q'.nd q'.sb)
  have sub : ∀ x ∈ kns kn, x ∈ kns (putQ kn y 3) := fun x hx => by
    have e := putQ_keys (l := kn) (x := y) (v := 3)
    show x ∈ (putQ kn y 3).map (·.1)
    rw [e]
    split
    · exact hx
    · exact List.mem_append_left _ hx
  have bm := bare_mono h q.nd q.sb q'.nd q'.sb sub
  have kd : D.dct ((putQ kn y 3).map fun p => (.inr p.1, .int p.2)) = knD (putQ kn y 3) := rfl
  generalize hbn : bareP l (kns (putQ kn y 3)) = br' at *
  have cn : ∀ a b c d e f g h i x y s, compL (cmp1 (enOf tb_k43 30) [a, b, c, d, e, .dat (.lst ((bareP l (kns kn)).map iD)), f, g, h, i, x, y, x12] (.nm 11) (.cmp .nin (.var 11) (.var 5)) (.var 11)) (br'.map iD) s = some (.ok [], s) := fun a b c d e f g h i x y s => by
    rw [comp_nin (by simp) (by decide) rfl, filt_none bm]
    rfl
  simp -implicitDefEqProofs [pk, lk, kd, us, cn, bigL, eq_nn]
theorem k43_C (h : SLok l) (c : Con l) (q : KnOk l kn) {m : Nat} (hm : m < 900) {x6 x7 x8 x9 x10 x11 x12 : Sl} :
    W (evSs (enOf tb_k43 30) k43_c [.dat (.scr ns), .dat .town, .dat (.lst (l.map sgD)), .dat (knD kn), .dat (.int l.length), .dat (.lst ((bareP l (kns kn)).map iD)), x6, x7, x8, x9, x10, x11, x12] (some m)) (retK fun d _ => d = .bl true) := by
  unfold k43_c
  have n1 := h.n1
  simp -implicitDefEqProofs
  refine W_draw (by omega) (by omega) fun k k0 k1 => ?_
  have hk : k.toNat < l.length := by omega
  have ek : k = (k.toNat : Int) := by omega
  rw [ek]
  generalize k.toNat = t at *
  clear ek k0 k1
  obtain ⟨x, hx⟩ : ∃ x, l[t]? = some x := ⟨_, List.getElem?_eq_getElem hk⟩
  by_cases h24 : l.length < 24
  · have h24' : (l.length : Int) < 24 := by omega
    have ax : atL (l.map sgD) (t : Int) = some (sgD x) := by
      rw [at_nat, List.getElem?_map, hx]
      rfl
    have ad : binD .add (.lst (l.map sgD)) (.lst [sgD x]) = some (.lst ((l ++ [x]).map sgD)) := add_map (ys := [x]) (by simp [SZ]; omega)
    have mo := more_ok h h24 hx
    have mc := more_con c hx
    have mk := more_kn q hx
    have us := fun s => unseen_eq (tb := tb_k43) (k := 25) (s := s) mo mk (hang_all mo mc mk.ne mk.nd mk.sb)
    have tw := fun s => twins_eq (tb := tb_k43) (k := 25) (s := s) mo mk (hang_all mo mc mk.ne mk.nd mk.sb)
    obtain ⟨b1, b2, b3, b4⟩ := more_bare h mo c hx q.ne q.nd q.sb
    generalize bareP (l ++ [x]) (kns kn) = bm at *
    generalize twinP (l ++ [x]) (kns kn) = tm at *
    generalize hlm : l ++ [x] = lm at *
    have i1 := in_iD (i := t) (l := bm)
    have i2 := in_iD (i := l.length) (l := bm)
    rw [decide_eq_false b1] at i1
    rw [decide_eq_false b2] at i2
    have cn : ∀ a b c d e f g h i x y s, compL (cmp1 (enOf tb_k43 30) [a, b, c, d, e, .dat (.lst ((bareP l (kns kn)).map iD)), f, g, h, i, x, x11, y] (.nm 11) (.cmp .nin (.var 11) (.var 5)) (.var 11)) (bm.map iD) s = some (.ok [], s) := fun a b c d e f g h i x y s => by
      rw [comp_nin (by simp) (by decide) rfl, filt_none b3]
      rfl
    have e1 := eq_iD (l := bareP l (kns kn)) (m := [t])
    have nq := nin_qD (p := (t, l.length)) (l := tm)
    simp -implicitDefEqProofs only [qD, List.map_cons, List.map_nil, iD] at e1 nq
    by_cases hb : bareP l (kns kn) = [t]
    · rw [decide_eq_true hb] at e1
      rw [decide_eq_true (b4 hb)] at nq
      simp -implicitDefEqProofs [h24', ax, ad, us, tw, i1, i2, cn, bigL, ne_nn, e1, nq, -List.map_append]
      exact k43_D h c q (by omega)
    · rw [decide_eq_false hb] at e1
      simp -implicitDefEqProofs [h24', ax, ad, us, tw, i1, i2, cn, bigL, ne_nn, e1, nq, -List.map_append]
      exact k43_D h c q (by omega)
  · have h24' : ¬ (l.length : Int) < 24 := by omega
    simp -implicitDefEqProofs [h24']
    exact k43_D h c q (by omega)
theorem k43_B (h : SLok l) (c : Con l) (q : KnOk l kn) {m : Nat} (hm : m < 900) {x7 x8 x9 x10 x11 x12 : Sl} :
    W (evSs (enOf tb_k43 30) k43_b [.dat (.scr ns), .dat .town, .dat (.lst (l.map sgD)), .dat (knD kn), .dat (.int l.length), .dat (.lst ((bareP l (kns kn)).map iD)), .own ((twinP l (kns kn)).map qD), x7, x8, x9, x10, x11, x12] (some m)) (retK fun d _ => d = .bl true) := by
  unfold k43_b
  have ha := hang_all h c q.ne q.nd q.sb
  have us := unseen_eq (tb := tb_k43) (k := 25) (s := some m) h q ha
  have tw := twins_eq (tb := tb_k43) (k := 25) (s := some m) h q ha
  have su := issure_eq (tb := tb_k43) (k := 24) (s := some m) h q ha
  have e1 := ne_iD (l := bareP l (kns kn)) (m := bareP l (kns kn))
  have e2 := ne_qD (l := twinP l (kns kn)) (m := twinP l (kns kn))
  rw [decide_eq_true rfl] at e1 e2
  have e3 := eq_iD (l := bareP l (kns kn)) (m := [])
  have e4 := eq_qD (l := twinP l (kns kn)) (m := [])
  rw [List.map_nil] at e3 e4
  have wis : ∀ b s, sem tb_k43 30 158 [.bl b, .bl b] s = some (.ok (.bl true), s) := fun b s => by
    rw [sem_of rfl]
    simp -implicitDefEqProofs [cb_w_is, startG, eq_bl, show isiD (.bl b) .bool = some true from rfl]
  have fin := fun x6 x7 x8 x9 x10 x11 x12 => k43_C (ns := ns) h c q hm (x6 := x6) (x7 := x7) (x8 := x8) (x9 := x9) (x10 := x10) (x11 := x11) (x12 := x12)
  generalize bareP l (kns kn) = br at *
  generalize twinP l (kns kn) = tn at *
  cases hd : decide (br = []) with
  | true =>
    rw [hd] at e3 su
    have wis' := wis (decide (tn = [])) (some m)
    rw [Bool.true_and] at su
    simp -implicitDefEqProofs only [evSs_cons, evS_ifs]
    simp -implicitDefEqProofs [testE, frz, frzS, us, tw, e1, e2, su, e3, e4, wis]
    exact fin _ _ _ _ _ _ _
  | false =>
    rw [hd] at e3 su
    rw [Bool.false_and] at su
    simp -implicitDefEqProofs [testE, frz, frzS, us, tw, e1, e2, su, e3, e4, wis]
    exact fin _ _ _ _ _ _ _
theorem k43_A (h : SLok l) (c : Con l) (q : KnOk l kn) {m : Nat} (hm : m < 900) :
    W (evSs (enOf tb_k43 30) k43_a [.dat (.scr ns), .dat .town, .dat (.lst (l.map sgD)), .dat (knD kn), .un, .un, .un, .un, .un, .un, .un, .un, .un] (some m)) (retK fun d _ => d = .bl true) := by
  unfold k43_a
  have n24 := h.n24
  have r : rngD (.int 0) (.int (l.length : Int)) = some ((List.range l.length).map iD) := by rw [rng_ok (by decide) (by unfold SZ; omega), range_iD]
  have cb : ∀ e s, compL (cmp1 (enOf tb_k43 30) [.dat (.scr ns), .dat .town, .dat (.lst (l.map sgD)), .dat (knD kn), e, .un, .un, .un, .un, .un, .un, .un, .un] (.nm 8) (.not (.call 152 (.cons (.var 2) (.cons (.var 3) (.cons (.lst (.cons (.var 8) (.nil))) (.nil)))))) (.var 8)) ((List.range l.length).map iD) s = some (.ok ((bareP l (kns kn)).map iD), s) := fun e s =>
    compL_filt fun j hj => by
      have hg := hangs_eq (tb := tb_k43) (k := 28) (gone := [j]) (p := fun t => decide (t ≠ j)) (s := s) h q (fun t => by simp)
      simp -implicitDefEqProofs only [List.map_cons, List.map_nil, iD] at hg
      cases hd : hangP l (kns kn) fun t => decide (t ≠ j) with
      | true =>
        rw [hd] at hg
        simp -implicitDefEqProofs [cmp1, setT, iD, hg]
      | false =>
        rw [hd] at hg
        simp -implicitDefEqProofs [cmp1, setT, iD, hg]
  have bl := bigL_map (f := iD) (xs := bareP l (kns kn)) (s := some m) (by have : (bareP l (kns kn)).length ≤ l.length := filt_len; unfold SZ; omega)
  have r' : (List.range l.length).map iD = rangeD 0 (List.range l.length).length := by rw [List.length_range, range_iD]
  simp -implicitDefEqProofs [r, cb, bl, D.lfL]
  rw [r']
  refine W_pairs (en := enOf tb_k43 30) (b := 11) (b2 := evSs (enOf tb_k43 30) (.cons (.ifs [] (.and (.cmp .nin (.var 7) (.var 5)) (.and (.cmp .nin (.var 11) (.var 5)) (.not (.call 152 (.cons (.var 2) (.cons (.var 3) (.cons (.lst (.cons (.var 7) (.cons (.var 11) (.nil)))) (.nil)))))))) (.cons (.app [] 6 (.tup (.cons (.var 7) (.cons (.var 11) (.nil))))) (.nil)) (.nil)) (.nil)))
    (ls := List.range l.length) (c := fun p => !decide (p.1 ∈ bareP l (kns kn)) && (!decide (p.2 ∈ bareP l (kns kn)) && !hang2 l (kns kn) p))
    (St1 := fun acc g => ∃ x7 x8 x9 x10 x11 x12, g = [.dat (.scr ns), .dat .town, .dat (.lst (l.map sgD)), .dat (knD kn), .dat (.int l.length), .dat (.lst ((bareP l (kns kn)).map iD)), .own (acc.map qD), x7, x8, x9, x10, x11, x12])
    (St2 := fun i acc g => ∃ x8 x9 x10 x11 x12, g = [.dat (.scr ns), .dat .town, .dat (.lst (l.map sgD)), .dat (knD kn), .dat (.int l.length), .dat (.lst ((bareP l (kns kn)).map iD)), .own (acc.map qD), .dat (.int i), x8, x9, x10, x11, x12]) ?_ ?_ ?_ ?_ ⟨.un, .un, .un, .un, .un, .un, rfl⟩ ?_
  · rintro i acc g hi ⟨x8, x9, x10, x11, x12, rfl⟩
    rw [List.length_range] at hi ⊢
    have ri : rngD (.int ((i : Int) + 1)) (.int (l.length : Int)) = some (rangeD ((i : Int) + 1) l.length) := rng_ok (by unfold SZ; omega) (by unfold SZ; omega)
    simp -implicitDefEqProofs [ri]
  · rintro i acc g hi _ ⟨x7, x8, x9, x10, x11, x12, rfl⟩
    exact ⟨x8, x9, x10, x11, x12, rfl⟩
  · rintro i j x y acc g hx hy hij hacc ⟨x8, x9, x10, x11, x12, rfl⟩
    rw [List.length_range] at hacc
    have al : acc.length < 1000000 := by
      have : l.length * l.length ≤ 24 * 24 := Nat.mul_le_mul (by omega) (by omega)
      omega
    have hxi : x = i := by
      have := (List.getElem?_eq_some_iff.mp hx).1
      rw [List.length_range] at this
      rw [List.getElem?_range this] at hx
      cases hx
      rfl
    have hyj : y = j := by
      have := (List.getElem?_eq_some_iff.mp hy).1
      rw [List.length_range] at this
      rw [List.getElem?_range this] at hy
      cases hy
      rfl
    subst hxi hyj
    have hg := hangs_eq (tb := tb_k43) (k := 28) (gone := [x, y]) (p := fun t => !decide (t = x ∨ t = y)) (s := some m) h q (fun t => by simp)
    simp -implicitDefEqProofs only [List.map_cons, List.map_nil, iD] at hg
    have hg' : sem tb_k43 30 152 [.lst (l.map sgD), knD kn, .lst [.int x, .int y]] (some m) = some (.ok (.bl (hang2 l (kns kn) (x, y))), some m) := hg
    clear hg
    have n1 := nin_iD (i := x) (l := bareP l (kns kn))
    have n2 := nin_iD (i := y) (l := bareP l (kns kn))
    dsimp only
    cases d1 : decide (x ∈ bareP l (kns kn)) with
    | true =>
      rw [d1] at n1
      simp -implicitDefEqProofs [n1]
    | false =>
      rw [d1] at n1
      cases d2 : decide (y ∈ bareP l (kns kn)) with
      | true =>
        rw [d2] at n2
        simp -implicitDefEqProofs [n1, n2]
      | false =>
        rw [d2] at n2
        cases d3 : hang2 l (kns kn) (x, y) with
        | true =>
          rw [d3] at hg'
          simp -implicitDefEqProofs [n1, n2, hg']
        | false =>
          rw [d3] at hg'
          simp -implicitDefEqProofs [n1, n2, hg', owned, appO, appF, al]
          rfl
  · rintro i acc g ⟨x8, x9, x10, x11, x12, rfl⟩
    exact ⟨_, _, _, _, _, _, rfl⟩
  · rintro g ⟨x7, x8, x9, x10, x11, x12, rfl⟩
    rw [twin_alt]
    simp -implicitDefEqProofs
    exact k43_B h c q hm
end
theorem law_k43 : LawT tb_k43 fd_k43_law 1 30 := by
  refine lawT_of fun ns => ?_
  rw [k43_body]
  have g0 : lawG fd_k43_law.N.length 1 ns = [.dat (.scr ns), .dat .town, .un, .un, .un, .un, .un, .un, .un, .un, .un, .un, .un] := rfl
  rw [g0]
  have rest : ∀ (l : List Sg) (m : Nat), SLok l → Con l → m ≤ 300 → W (evSs (enOf tb_k43 30) (.cons (.asg [] 3 (.call 131 (.cons (.var 0) (.cons (.var 1) (.cons (.var 2) (.nil)))))) k43_a) [.dat (.scr ns), .dat .town, .dat (.lst (l.map sgD)), .un, .un, .un, .un, .un, .un, .un, .un, .un, .un] (some m)) (retK fun d _ => d = .bl true) := fun l m h c hm => by
    simp -implicitDefEqProofs only [evSs_cons]
    simp -implicitDefEqProofs
    refine W_known (by omega) h fun kn m' q hm' => ?_
    exact k43_A h c q (by omega)
  rw [evSs_cons, W_rb]
  simp -implicitDefEqProofs
  refine W_draw (by decide) (by decide) fun t t0 t1 => ?_
  by_cases ht : t = 0
  · simp -implicitDefEqProofs only [ht]
    simp -implicitDefEqProofs
    refine W_ring (by decide) fun l m h c hm => ?_
    have := rest l m h c (by omega)
    simpa -implicitDefEqProofs using this
  · simp -implicitDefEqProofs [ht]
    refine W_sights (by decide) (by decide) (by decide) fun l m h c hm => ?_
    have := rest l m h c (by omega)
    simpa -implicitDefEqProofs using this
end FR
/-! FrRule1: rules of the machine for dicts that stay as they are. -/
namespace FR
open PySem PySem.Spec PyProof.Rows L2
section
variable {X : Cx}
/-- d[k] by values -/
def rIxK : R2 := fun x y H Q => ∃ a v, x = .ref a ∧ DGet H a y (some v) ∧ Q v H
theorem ix_dictK (hu : X.A.units + 1 < cLine) : IxR X rIxK := fun value slice pins t σ H x y v u Q I rx ry h hs => by
  obtain ⟨a, r, rfl, g, q⟩ := h
  cases rx
  exact tail_any (dict_typeIs I g) slot_dict_getitem.lookup (d_getItem hu I g ry fun z t1 I1 rz => ⟨r, H, I1, rz, q⟩) hs
/-- k in d, k not in d by values -/
def rInK (n : Bool) : R2 := fun x y H Q => ∃ a o, y = .ref a ∧ DGet H a x o ∧ Q (.bl (if n then !o.isSome else o.isSome)) H
theorem op_inK (hu : X.A.units + 1 < cLine) : OpR X (compareOp .In) (rInK false) := fun pins t σ H x y v u Q I rx ry h => by
  obtain ⟨a, o, rfl, g, q⟩ := h
  cases ry
  exact d_in hu I g rx fun t1 I1 => ⟨.bl o.isSome, H, I1, rfl, q⟩
theorem op_ninK (hu : X.A.units + 1 < cLine) : OpR X (compareOp .NotIn) (rInK true) := fun pins t σ H x y v u Q I rx ry h => by
  obtain ⟨a, o, rfl, g, q⟩ := h
  cases ry
  exact d_notIn hu I g rx fun t1 I1 => ⟨.bl (!o.isSome), H, I1, rfl, q⟩
/-- len(d), locked or not -/
def rLenK : List V → Hp → VK → Prop := fun xs H Q => ∃ (d : Addr) (kvs : List (Key × V)), xs = [.ref d] ∧ Rd H d (.dK kvs) ∧ Q (.int kvs.length) H
theorem cr_lenK : CallR X (.builtin "len") rLenK := fun pins t σ H xs us Q I r h => by
  obtain ⟨d, kvs, rfl, e, q⟩ := h
  obtain ⟨u, rfl, ru⟩ := vals1 r
  cases ru
  exact d_len I e fun k t1 I1 => ⟨.int kvs.length, H, I1, ⟨k, rfl⟩, q⟩
/-! ### locks -/
/-- what comes out may be locked -/
def lkP (Q : VK) : VK := fun v H => Q v H ∨ ∃ d u, H d = some u ∧ Mut (some u) ∧ ∀ od, Q v (upd H d (.frz od u))
theorem pe_lkP {e : Expr} {t : TE} (h : PE X e t) : PE X e (fun σ H Q => t σ H (lkP Q)) := ⟨fun pins t1 σ H Q I q => thn (h.run pins t1 σ H _ I q) fun v t2 ⟨x, H1, I1, r, k⟩ => by
  rcases k with k | ⟨d, u, hd, mu, k⟩
  · exact ⟨x, H1, I1, r, k⟩
  · obtain ⟨od, I2⟩ := I1.lock hd mu
    exact ⟨x, _, I2, r, k od⟩⟩
/-- ahead of a statement something may be locked -/
theorem ps_lkA {st : Stmt} {t : TS} (h : PS X st t) : PS X st (fun D σ H => t D σ H ∨ ∃ d u, H d = some u ∧ Mut (some u) ∧ ∀ od, t D σ (upd H d (.frz od u))) := ⟨fun pins t1 σ H D I q => by
  rcases q with q | ⟨d, u, hd, mu, q⟩
  · exact h.run pins t1 σ H D I q
  · obtain ⟨od, I2⟩ := I.lock hd mu
    exact h.run pins t1 σ _ D I2 (q od)⟩
/-! ### d.keys() -/
def KeyV (p d : Addr) : HO := .ext fun h => PySem.W.KdlKeysView h p d
theorem keyV_ok {P : Program} {w : World} {H : Hp} {h : Heap} {p d : Addr} (e : PySem.W.KdlKeysView h p d) : ObjOk P w H h p (KeyV p d) :=
  ⟨e, let ⟨o, ho, _⟩ := e; ⟨o, ho⟩, fun h1 h2 x k => let ⟨o, ho, r⟩ := x; ⟨o, k o ho, r⟩⟩
def tKeys (te : TE) : TE := fun σ H Q => te σ H fun x H1 => ∃ d kvs, x = .ref d ∧ Rd H1 d (.dK kvs) ∧ ∀ p, H1 p = none → Q (.ref p) (upd H1 p (KeyV p d))
theorem pe_keys {e : Expr} {te : TE} {ap cp : Pos} (he : PE X e te) (hb : attributeBase e "keys" X.env (eval e X.env) = eval e X.env) (hl : (ap.endLine == cp.line) = true) : PE X (.Call (.Attribute e "keys" ap) [] [] cp) (tKeys te) :=
  ⟨fun pins t σ H Q I h => by
    refine wpAny_Call_method (T := "dict") (id := "dict.keys") hb rfl hl F.plainAttrs_dict F.slot_dict_keys F.type_dict_keys (thn (he.run pins t σ H _ I h) fun u t1 ⟨x, H1, I1, rx, d, kvs, ex, hd, q⟩ => ?_)
    subst ex
    cases rx
    obtain ⟨z, lo, vs, rel, dd⟩ := dk_rd I1.hok hd
    refine ⟨dd.typeIs, fun b q => ?_, ?_⟩
    · cases q
      obtain ⟨ob, _, _, h1, h2, _⟩ := dd
      exact ⟨ob, h1, h2.2.1⟩
    · have new : PySem.W.KdlKeysView (t1.heap.push { cls := .type "dict_keys", data := .fields #[.ref d] }) t1.heap.objs.size d := ⟨_, Heap.get?_push_size _ rfl, rfl, rfl⟩
      exact method_meetsIn F.slot_dict_keys F.entry_dict_keys rfl (PySem.evalArgs_none ⟨rfl, dd.typeIs, F.args_dict_keys_1 _, _, PySem.W.kdl_meets_keys (mixKind X.prog X.w) d lo, ⟨vs, dd⟩,
        ⟨.ref t1.heap.objs.size, upd H1 t1.heap.objs.size (KeyV t1.heap.objs.size d), I1.laid (t' := t1.toks) (fun b u e => Heap.get?_push_of_some _ e) (Nat.le_refl _) (keyV_ok new), rfl, q _ (I1.hok.fresh (Nat.le_refl _))⟩⟩)⟩
/-- the keys, as a list of values -/
theorem keys_vals {P : Program} {w : World} {kvs : List (Key × V)} {vs : List (Key × Value)} {acc : Array Value} (rk : KV kvs vs) (hacc : ItemsOf (fun i v => ∃ k x, vs[i]? = some (k, x) ∧ (mixKind P w).is k v = true) acc vs.length) : Vals (kvs.map fun kv => kV kv.1) acc.toList := by
  have hl : kvs.length = vs.length := Paired.length rk
  refine vals_of_at (by rw [List.length_map, Array.length_toList (xs := acc), hacc.1, hl]) fun j x u h1 h2 => ?_
  obtain ⟨k, y, e1, e2⟩ := hacc.2 j u (by rw [← Array.getElem?_toList]; exact h2)
  have e3 : (kvs.map (·.1))[j]? = some k := by
    rw [KV.keys rk, List.getElem?_map, e1]
    rfl
  rw [List.getElem?_map] at h1 e3
  cases q : kvs[j]? with
  | none =>
    rw [q] at e3
    cases e3
  | some kv =>
    rw [q] at h1 e3
    cases h1
    cases e3
    exact keyIs_rel e2
/-- list(d.keys()) -/
def rListK : List V → Hp → VK → Prop := fun xs H Q => ∃ (p d : Addr) (kvs : List (Key × V)), xs = [.ref p] ∧ H p = some (KeyV p d) ∧ Rd H d (.dK kvs) ∧ ∀ q, H q = none → Q (.ref q) (upd H q (.lst (kvs.map fun kv => kV kv.1)))
theorem cr_listK (hc : X.calm = true) : CallR X (.type "list") rListK := fun pins t σ H xs us Q I r h => by
  obtain ⟨p, d, kvs, rfl, hp, hd, q⟩ := h
  obtain ⟨u, rfl, ru⟩ := vals1 r
  cases ru
  have kv : PySem.W.KdlKeysView t.heap p d := (I.hok p _ hp).1
  obtain ⟨z, lo, vs, rk, dd⟩ := dk_rd I.hok hd
  obtain ⟨ep, hat⟩ := dd.dictAt
  have hl : kvs.length = vs.length := Paired.length rk
  refine PySem.W.kdl_call (PySem.W.kdl_keys (knd := mixKind X.prog X.w) (kvs := vs) (ep := ep)) (I.ok.hd hc) ⟨kv, hat⟩ (by rw [← hl]; exact z) fun h' tk acc c' kp hS hacc => ?_
  have hz : (kvs.map fun kv => kV kv.1).length ≤ sizeLine := by
    rw [List.length_map]
    exact z
  refine ⟨.ref t.heap.objs.size, _, I.laid (o := .lst (kvs.map fun kv => kV kv.1)) kp (Nat.le_refl _) ⟨hz, acc.toList, c', keys_vals rk hacc, ?_⟩, rfl, q _ (I.hok.fresh (Nat.le_refl _))⟩
  rw [Array.toArray_toList]
  exact hS
theorem strs_of_vals : ∀ {ks : List Str} {us : List Value}, Vals (ks.map V.str) us → StrsAre us ks
  | [], [], .nil => .nil
  | k :: ks, u :: us, .cons h r => by
    obtain ⟨t, rfl⟩ := h
    exact .cons k t (strs_of_vals r)
/-- what sorted makes of texts that were collected -/
theorem sort_texts {pins : List (Addr × Obj)} {σ : L2.St} {H : Hp} {t : Shared} {Q : VK} {acc : List Value} {ks : List Str} (I : Inv X pins σ H t) (hS : StrsAre acc ks) (h64 : ks.length < 64)
    (q : ∀ ys p, ys.Perm ks → sortedS ys = true → H p = none → Q (.ref p) (upd H p (.lst (ys.map V.str)))) {E : Value → Shared → Prop} {A : Around} {P : PySem.Fin → Shared → Prop}
    (hP : ∀ v t1, EP X pins σ Q v t1 → P (.done (.ret v)) t1) : wpAny (model X.prog X.w) A (newList acc >>= fun l => holding [l] (call (.builtin "list.sort") [l] []) >>= fun _ => ret l) P E t := by
  have hal : acc.length = ks.length := by
    clear q hP
    induction hS with
    | nil => rfl
    | cons _ _ _ ih => exact congrArg (· + 1) (ih (by simp at h64; omega))
  have z : acc.length ≤ sizeLine := by
    rw [hal]
    exact Nat.le_trans (Nat.le_of_lt h64) (by decide)
  refine wpAny_bind (wpAny_newList ?_ z)
  generalize hN : t.heap.push (seqObj "list" acc.toArray 0) = N
  have at0 : N.get? t.heap.objs.size = some (seqObj "list" acc.toArray 0) := by
    rw [← hN]
    exact Heap.get?_push_size _ rfl
  refine wpAny_bind (wpAny_holding (wpAny_call_entry PyProof.Rows.slot_list_sort ⟨_, at0, rfl⟩ PyProof.Rows.entry_list_sort (list_sort_treeK strKind_oneLt (s := { t with heap := N }) at0 hS.keysOf (fun a b r e => keyKind_strs (by rw [← e]; exact hS)) (by rw [hal]; exact h64) fun st hp hs => ⟨_, rfl, ?_⟩) (PyProof.Rows.args_list_sort _)))
  obtain ⟨ys, g1, g2, g3⟩ := sorted_out_str hS hp hs
  obtain ⟨c, hc⟩ := PyProof.Rows.sortedHeap_at (vs := acc) (out := (arrOf st).map (·.2)) at0
  have zs : (ys.map V.str).length ≤ sizeLine := by
    rw [List.length_map, g2.length_eq, ← hal]
    exact z
  have ok : ∀ H', ObjOk X.prog X.w H' (PyProof.Rows.sortedHeap N t.heap.objs.size acc ((arrOf st).map (·.2))) t.heap.objs.size (.lst (ys.map V.str)) := fun H' =>
    ⟨zs, ((arrOf st).map (·.2)).toList, c, vals_of_strs g1, by rw [Array.toArray_toList]; exact hc⟩
  refine wpAny_pure (hP _ _ ⟨.ref t.heap.objs.size, upd H t.heap.objs.size (.lst (ys.map V.str)), I.laid (t' := t.toks) (fun b u e => ?_) (Nat.le_refl _) (ok _), rfl, q ys _ g2 g3 (I.hok.fresh (Nat.le_refl _))⟩)
  have lt : b < t.heap.objs.size := Heap.lt_size e
  rw [PyProof.Rows.sortedHeap_old (Nat.ne_of_lt lt) (by rw [← hN, size_push']; exact Nat.lt_succ_of_lt lt), ← hN]
  exact Heap.get?_push_of_some _ e
/-- sorted(d.keys()), of texts -/
def rSortK : List V → Hp → VK → Prop := fun xs H Q => ∃ (p d : Addr) (kvs : List (Key × V)) (ks : List Str), xs = [.ref p] ∧ H p = some (KeyV p d) ∧ Rd H d (.dK kvs) ∧ kvs.map (·.1) = ks.map Sum.inr ∧ ks.length < 64 ∧
  ∀ ys q, ys.Perm ks → sortedS ys = true → H q = none → Q (.ref q) (upd H q (.lst (ys.map V.str)))
theorem cr_sortK (hc : X.calm = true) : CallR X (.builtin "sorted") rSortK := fun pins t σ H xs us Q I r h => by
  obtain ⟨p, d, kvs, ks, rfl, hp, hd, hks, h64, q⟩ := h
  obtain ⟨u, rfl, ru⟩ := vals1 r
  cases ru
  have kv : PySem.W.KdlKeysView t.heap p d := (I.hok p _ hp).1
  obtain ⟨z, lo, vs, rk, dd⟩ := dk_rd I.hok hd
  obtain ⟨ep, hat⟩ := dd.dictAt
  have hl : kvs.length = vs.length := Paired.length rk
  refine Calls.call_function_entry PyProof.Rows.kind_sorted PyProof.Rows.plain_sorted PyProof.Rows.entry_sorted (PyProof.Rows.args_sorted1 _) ?_
  unfold Builtin.«sorted»
  refine wpAny_bind (m := checkCount "sorted" 1 1 _) (wpAny_pure ?_)
  refine wpAny_bind (PySem.W.kdu_collect (A := X.A.in1) (PySem.W.kdl_keys (knd := mixKind X.prog X.w) (kvs := vs) (ep := ep)) (I.ok.hd hc) ⟨kv, hat⟩ (by rw [← hl]; exact z) fun h' tk acc kp hacc => ?_)
  have e1 : (kvs.map fun kv => kV kv.1) = ks.map V.str := by
    have e2 : (kvs.map fun kv => kV kv.1) = (kvs.map (·.1)).map kV := by
      rw [List.map_map]
      rfl
    rw [e2, hks, List.map_map]
    rfl
  have hS : StrsAre acc.toList ks := strs_of_vals (by rw [← e1]; exact keys_vals rk hacc)
  exact sort_texts (t := { t with heap := h', toks := tk }) (I.kept kp) hS h64 q fun v t1 h => ⟨_, rfl, h⟩
end
end FR
/-! FrRule2: set(a list), by what is true of the set item by item; sets of texts. -/
namespace FR
open PySem PySem.Spec PyProof.Rows L2
abbrev nset (w : World) : Obj := { cls := .type "set", dict := none, data := .set #[] 0 (.fresh 0 0 (!w.params.followText "set-order")) }
section
variable {P : Program} {w : World} {A : Around} {E : Value → Shared → Prop} {s : Shared}
/-- what is wanted of a property of the set at S, i items of the list put in, the old heap B kept -/
structure Grows (P : Program) (w : World) (A : Around) (B : Heap) (S : Addr) (items : Array Value) (J : Nat → Heap → Prop) : Prop where
  start : ∀ h : Heap, h.get? S = some (nset w) → (∀ b o, B.get? b = some o → h.get? b = some o) → J 0 h
  keep : ∀ i (h h' : Heap), J i h → (∀ b o, b = S ∨ (∃ u, B.get? b = some u) → h.get? b = some o → h'.get? b = some o) → J i h'
  step : ∀ i v (t : Shared) (Q : Bool → Shared → Prop) (E : Value → Shared → Prop), items[i]? = some v → J i t.heap → (∀ r h' tk, t.toks ≤ tk → Heap.SameBut S t.heap h' → J (i + 1) h' → Q r { t with heap := h', toks := tk }) → wpAny (model P w) A (setAdd S v) Q E t
theorem upd_loop {I : Addr} {fp wr : List Addr} {G : Array GenState → Array GenState → Prop} {items : Array Value} {St : Nat → Shared → Prop} {R : Result → Shared → Prop} {B : Heap} {S : Addr} {J : Nat → Heap → Prop}
    (W : WalksS P w A.in1 I fp wr G items.size (fun i v => items[i]? = some v) St) (gr : Grows P w A.in1 B S items J) (hSf : S ∉ fp) (hw : ∀ b ∈ wr, B.get? b = none) :
    ∀ (k i : Nat) (t : Shared), items.size - i = k → i ≤ items.size → St i t → J i t.heap → (∀ t', Moved (S :: wr) G t t' → J items.size t'.heap → R (.ok (.ret .none)) t') →
      codeAny (model P w) A (.builtin "set.update.loop" ⟨[.ref S, .ref I], []⟩) R t := by
  have nw : S ∉ wr := fun h => hSf (W.sub _ h)
  have more : ∀ b ∈ wr, b ∈ S :: wr := fun b hb => List.mem_cons_of_mem _ hb
  have kp : ∀ {i : Nat} {t t' : Shared}, Moved wr G t t' → J i t.heap → J i t'.heap := fun {i t t'} hm j => gr.keep i _ _ j fun b o hb e => hm.heap b o (fun z => by
    rcases hb with rfl | ⟨u, hu⟩
    · exact nw z
    · rw [hw b z] at hu
      cases hu) e
  intro k
  induction k with
  | zero =>
    intro i t hk hi hst j hR
    obtain rfl : i = items.size := by omega
    refine codeAny_builtin F.entry_set_update_loop ?_
    rw [Around.under_plainId F.plain_set_update_loop _]
    refine wpAny_bind (m := pyNext (.ref I)) (W.done t _ _ hst fun t' hm => ?_)
    exact wpAny_pure (hR t' (hm.mono more) (kp hm j))
  | succ k ih =>
    intro i t hk hi hst j hR
    have lt : i < items.size := by omega
    refine codeAny_builtin F.entry_set_update_loop ?_
    rw [Around.under_plainId F.plain_set_update_loop _]
    refine wpAny_bind (m := pyNext (.ref I)) (W.item i t _ _ lt hst fun v t' hv hst' hm => ?_)
    refine wpAny_bind (m := holding [v] (setAdd S v)) (wpAny_holding ?_)
    refine gr.step i v t' _ _ hv (kp hm j) fun r h' tk htk sb j2 => ?_
    have same : ∀ b o, b ≠ S → t'.heap.get? b = some o → h'.get? b = some o := fun b o hb e => (sb.2 b hb).trans e
    refine wpAny_pure ⟨plainId_quiet F.plain_set_update_loop _, ih (i + 1) { t' with heap := h', toks := tk } (by omega) lt (W.frame _ t' _ _ hst' htk fun b hb o e => same b o (fun z => hSf (z ▸ hb)) e) j2 fun t2 hm2 j3 => ?_⟩
    exact hR t2 (Moved.trans W.gtrans ((hm.mono more).then_heap htk fun b o hb e => same b o (fun z => hb (z ▸ List.mem_cons_self)) e) hm2) j3
theorem set_of_list {l : Addr} {items : Array Value} {J : Nat → Heap → Prop} {Q : Value → Shared → Prop} (hh : A.handled = none) (hl : s.heap.IsList l items) (gr : Grows P w A.in1.in1.in1 s.heap s.heap.objs.size items J)
    (h : ∀ (h' : Heap) (tk : Nat), J items.size h' → (∀ b o, s.heap.get? b = some o → h'.get? b = some o) → Q (.ref s.heap.objs.size) { s with heap := h', toks := tk }) :
    wpAny (model P w) A (call (.type "set") [.ref l]) Q E s := by
  obtain ⟨c, tl, hmro⟩ := F.called_set.mro
  have hmade := F.called_set.made
  have hsub := F.called_set.sub
  have h1 := F.called_set.notType
  have h2 := F.called_set.canCreate
  have hct := F.typeCall_set_1 (.ref l)
  have hli := F.called_set.init.lookup
  have hbi := F.called_set.init.bind (.ref s.heap.objs.size)
  refine wpAny_call (codeAny_of_tree (wpAny_pure ⟨Code.quiet_builtin _ (by decide +kernel), codeAny_builtin F.entry_type_call ?_⟩))
  rw [Around.under_plain (weight_type_call_type "set" [.ref l] []) rfl]
  repeat (any_goals (first | assumption | wp_step))
  refine codeAny_mono (code_set_led1 (.ref l) (E := E) (Q₁ := fun v t => v = .ref s.heap.objs.size ∧ t = { s with heap := s.heap.push (nset w) }) ⟨rfl, rfl⟩) fun r t hr => ?_
  cases r with
  | error e => exact hr
  | ok fl =>
    cases fl with
    | ret v =>
      obtain ⟨rfl, rfl⟩ := hr
      have hS : (s.heap.push (nset w)).get? s.heap.objs.size = some (nset w) := Heap.get?_push_size _ rfl
      have hT : Shared.TypeIs { s with heap := s.heap.push (nset w) } (.ref s.heap.objs.size) "set" := ⟨_, hS, rfl⟩
      repeat (any_goals (first | assumption | wp_step))
      refine codeAny_mono (codeAny_call_builtin (R := wants (fun r t => r = .none ∧ ∃ h' tk, t = { s with heap := h', toks := tk } ∧ J items.size h' ∧ ∀ b o, s.heap.get? b = some o → h'.get? b = some o) E) F.called_set.init.plain F.entry_set_init (check_set_init_1 hT ?_)) fun r t hr => ?_
      · obtain ⟨⟨ocls, odict, odata, oslots⟩, hol, rfl, nl, rfl⟩ := hl
        have lt : l < s.heap.objs.size := Heap.lt_size hol
        have hol' : (s.heap.push (nset w)).get? l = some { cls := .type "list", dict := odict, data := .seq items nl, slots := oslots } := Heap.get?_push_of_some _ hol
        have hl1 : (s.heap.push (nset w)).IsList l items := ⟨_, hol', rfl, nl, rfl⟩
        have hsls := F.sub_list_set
        have hslf := F.sub_list_frozenset
        have hne : (Value.type "list" == Value.type "dict") = false := by decide
        unfold Builtin.«set.__init__» noKeywords Builtin.Frozenset.updateFrom
        generalize hPI : pyIter = PI
        wp_walk
        subst hPI
        refine wpAny_pyIter_list hl1 (wpAny_bind (wpAny_runValue ?_))
        have sz : (s.heap.push (nset w)).objs.size = s.heap.objs.size + 1 := Heap.size_push ..
        have gone : ∀ b, s.heap.objs.size ≤ b → s.heap.get? b = none := fun b hb => by
          cases q : s.heap.get? b with
          | none => rfl
          | some o => exact absurd (Heap.lt_size q) (Nat.not_lt_of_le hb)
        refine upd_loop ((Walks.list (by simp [hh]) _ l (Nat.ne_of_lt (Nat.lt_of_lt_of_eq (Nat.lt_succ_of_lt lt) sz.symm)) items).toS) gr (fun z => by
          rcases List.mem_cons.mp z with z | z
          · exact Nat.lt_irrefl _ (Nat.lt_of_lt_of_eq (Nat.lt_succ_self _) (sz.symm.trans z.symm))
          · exact Nat.lt_irrefl _ (Nat.lt_of_lt_of_eq lt (List.mem_singleton.mp z))) (fun b hb => gone b (by rw [List.mem_singleton.mp hb, sz]; exact Nat.le_succ _)) (items.size - 0) 0 _ rfl (Nat.zero_le _) ⟨⟨_, Heap.get?_push_size _ rfl, rfl, rfl⟩, (hl1.push _)⟩ (gr.start _ (Heap.get?_push_of_some _ hS) fun b o e => Heap.get?_push_of_some _ (Heap.get?_push_of_some _ e)) fun t' hm j => ?_
        obtain ⟨h', g2, d', tk', os'⟩ := t'
        obtain rfl : g2 = s.gens := hm.gens
        obtain rfl : d' = s.drawn := hm.drawn
        obtain rfl : os' = s.os := hm.os
        refine wpAny_pure ?_
        show wpAny _ _ (ret Value.none) _ _ _
        refine wpAny_pure ⟨rfl, h', tk', rfl, j, fun b o e => ?_⟩
        have lb : b < s.heap.objs.size := Heap.lt_size e
        exact hm.heap b o (fun z => by
          rcases List.mem_cons.mp z with z | z
          · exact Nat.lt_irrefl _ (z ▸ lb)
          · have z2 := (List.mem_singleton.mp z).trans sz
            exact Nat.lt_irrefl _ (Nat.lt_trans (Nat.lt_succ_self _) (z2 ▸ lb))) (Heap.get?_push_of_some _ (Heap.get?_push_of_some _ e))
      · cases r with
        | error e => exact hr
        | ok f2 =>
          cases f2 with
          | ret r =>
            obtain ⟨rfl, h', tk, rfl, j, kp⟩ := hr
            repeat (any_goals (first | assumption | wp_step))
            exact h _ _ j kp
          | _ => exact hr.elim
    | _ => exact hr.elim
end
end FR
/-! FrRule3: sets of texts: set(a list), sorted, len. -/
namespace FR
open PySem PySem.Spec PyProof.Rows L2
def keyT (e : Int × Value) : Str := match e.2 with
  | .str k _ => k
  | _ => default
def IsTx (P : Program) (w : World) (e : Int × Value) : Prop := ∃ k tk, e = ((strKind P w).hash k, Value.str k tk)
/-- a set of texts at a, in its table's order -/
structure TxSet (P : Program) (w : World) (h : Heap) (a : Addr) (ks : List Str) (o : Obj) (es : Array (Int × Value)) (ep : Nat) (t : SetTable) : Prop where
  ob : h.get? a = some o
  ex : o.ExactSet
  dat : o.data = .set es ep t
  tx : ∀ e ∈ es.toList, IsTx P w e
  key : es.toList.map keyT = ks
  nd : ks.Nodup
  few : es.size < scanBound
  fits : t.fits es.size = true
  ris : Ris t.place.toList
  led : w.params.followText "set-order" = true ∨ t.led = true
section
variable {P : Program} {w : World} {A : Around} {E : Value → Shared → Prop} {s : Shared} {a : Addr}
theorem tx_elems {l : List (Int × Value)} (h : ∀ e ∈ l, IsTx P w e) : ElemsOf (strKind P w) l := fun e he => by
  obtain ⟨k, tk, rfl⟩ := h e he
  exact ⟨⟨k, strKind_is P w k tk, rfl⟩, rfl⟩
theorem tx_is {e : Int × Value} (h : IsTx P w e) (k : Str) : (strKind P w).is k e.2 = true ↔ keyT e = k := by
  obtain ⟨j, tk, rfl⟩ := h
  rw [KeyKind.is_eq_decide (strKind_is P w j tk) k, decide_eq_true_eq]
  exact eq_comm
/-- behind the table's search: the new entry laid in -/
theorem tx_tail {g : Bool → Sem Unit} (hg : ∀ (b : Bool) (t1 : Shared) (Q : Unit → Shared → Prop), Q () t1 → wpAny (model P w) A (g b) Q E t1) {ks : List Str} {o : Obj} {es es1 : Array (Int × Value)} {ep : Nat} {t t2 : SetTable} (R : TxSet P w s.heap a ks o es ep t)
    (tx1 : ∀ e ∈ es1.toList, IsTx P w e) (nd1 : (es1.toList.map keyT).Nodup) (few1 : es1.size < scanBound) (fits1 : t2.fits es1.size = true) (ris1 : Ris t2.place.toList) (led1 : w.params.followText "set-order" = true ∨ t2.led = true) {wasDummy : Bool} {Z : Option Bool → Shared → Prop}
    (hZ : ∀ h' ks' o' es' ep' t', Heap.SameBut a s.heap h' → TxSet P w h' a ks' o' es' ep' t' → ks'.Perm (es1.toList.map keyT) → Z (some true) { s with heap := h' }) :
    wpAny (model P w) A (storeSet a es1 t2 >>= fun _ => if (!wasDummy && t2.tooFull) = true then g (relayAll t2 es1 (SetTable.grown es1.size)).2.2 >>= fun _ => storeSet a (relayAll t2 es1 (SetTable.grown es1.size)).1 (relayAll t2 es1 (SetTable.grown es1.size)).2.1 >>= fun _ => pure (some true) else pure (some true)) Z E s := by
  refine wpAny_bind (wpAny_storeSet_of R.ob R.dat ?_ (fits_of_scanBound few1))
  have ob1 := store_at (es' := es1) (t' := t2) R.ob R.dat
  have sb1 := Heap.SameBut.update s.heap a (Obj.putSet es1 t2)
  split
  · have pm := relayAll_perm t2 es1 (SetTable.grown es1.size)
    have f3 := relayAll_fits t2 es1 (SetTable.grown es1.size)
    have r3 := relayAll_ris t2 es1 (SetTable.grown es1.size)
    have l3 := relayAll_led t2 es1 (SetTable.grown es1.size)
    generalize relayAll t2 es1 (SetTable.grown es1.size) = Y at pm f3 r3 l3 ⊢
    obtain ⟨es2, t3, gave⟩ := Y
    dsimp only at pm f3 r3 l3 ⊢
    have few2 : es2.size < scanBound := by
      rw [← Array.length_toList, pm.length_eq, Array.length_toList]
      exact few1
    refine wpAny_bind (hg _ _ _ (wpAny_bind (wpAny_storeSet_of ob1 rfl ?_ (fits_of_scanBound few2))))
    refine wpAny_pure (hZ _ _ _ es2 _ t3 (sb1.trans (Heap.SameBut.update _ a _)) ⟨store_at (es' := es2) (t' := t3) ob1 rfl, R.ex, rfl, fun e he => tx1 e (pm.mem_iff.mp he), rfl, (pm.map keyT).nodup_iff.mpr nd1, few2, f3, r3, led1.imp id fun z => by rw [l3]; exact z⟩ (pm.map keyT))
  · exact wpAny_pure (hZ _ _ _ es1 _ t2 sb1 ⟨ob1, R.ex, rfl, tx1, rfl, nd1, few1, fits1, ris1, led1⟩ (List.Perm.refl _))
theorem tx_add {ks : List Str} {o : Obj} {es : Array (Int × Value)} {ep : Nat} {t : SetTable} {k : Str} {tk : Tok} {Q : Bool → Shared → Prop} (R : TxSet P w s.heap a ks o es ep t) (room : ks.length + 1 < scanBound)
    (hQ : ∀ r h' ks' o' es' ep' t', Heap.SameBut a s.heap h' → TxSet P w h' a ks' o' es' ep' t' → ((k ∈ ks ∧ ks' = ks) ∨ ks'.Perm (k :: ks)) → Q r { s with heap := h' }) :
    wpAny (model P w) A (setAddHashed a (.str k tk) ((strKind P w).hash k)) Q E s := by
  have isk : (strKind P w).is k (.str k tk) = true := strKind_is P w k tk
  have sc : (Value.str k tk).scannable = true := rfl
  have el := tx_elems R.tx
  have len : es.size = ks.length := by
    rw [← R.key, List.length_map, Array.length_toList]
  unfold setAddHashed setAddHashedIn
  refine wpAny_holding (wpAny_bind (wpAny_setState_of R.ob R.dat R.fits ?_))
  dsimp only
  rw [byScan_of sc R.few el]
  simp only [↓reduceIte]
  unfold setAddByScan
  refine wpAny_bind (wpAny_bind (wpAny_rule (wpAny_bind (wpAny_setScan_of isk R.ob R.dat R.fits el ?_))))
  cases fi : List.findIdx? (fun e => (strKind P w).is k e.2) es.toList with
  | some j =>
    dsimp only
    obtain ⟨hj, pj, _⟩ := List.findIdx?_eq_some_iff_getElem.mp fi
    have mk : k ∈ ks := by
      rw [← R.key]
      exact List.mem_map.mpr ⟨_, List.getElem_mem hj, (tx_is (R.tx _ (List.getElem_mem hj)) k).mp pj⟩
    exact wpAny_pure (wpAny_pure (hQ _ s.heap ks o es ep t (Heap.SameBut.refl a s.heap) R (.inl ⟨mk, rfl⟩)))
  | none =>
    dsimp only
    have nk : k ∉ ks := fun z => by
      rw [← R.key] at z
      obtain ⟨e, he, q⟩ := List.mem_map.mp z
      have := List.findIdx?_eq_none_iff.mp fi e he
      rw [(tx_is (R.tx e he) k).mpr q] at this
      cases this
    have gw : ∀ (b : Bool) {t1 : Shared} {Q' : Unit → Shared → Prop}, Q' () t1 → wpAny (model P w) A (match b with | true => rule "set.scan.the-table-gave-way" | false => pure ()) Q' E t1 := fun b t1 Q' q => by
      cases b
      · exact wpAny_pure q
      · exact wpAny_rule q
    have pm := layNew_perm t es ((strKind P w).hash k) (.str k tk)
    have f1 := layNew_fits t es ((strKind P w).hash k) (.str k tk)
    have r1 := layNew_ris t es ((strKind P w).hash k) (.str k tk) R.ris
    have l1 := layNew_led t es ((strKind P w).hash k) (.str k tk)
    generalize layNew t es ((strKind P w).hash k) (.str k tk) = Y at pm f1 r1 l1 ⊢
    obtain ⟨es1, t1, wasDummy, gave⟩ := Y
    dsimp only at pm f1 r1 l1 ⊢
    rw [Array.toList_push] at pm
    have pc : es1.toList.Perm (((strKind P w).hash k, Value.str k tk) :: es.toList) := pm.trans (List.perm_append_singleton _ _)
    have pk : (es1.toList.map keyT).Perm (k :: ks) := by
      have := pc.map keyT
      rw [List.map_cons, R.key] at this
      exact this
    have tx1 : ∀ e ∈ es1.toList, IsTx P w e := fun e he => by
      rcases List.mem_cons.mp (pc.mem_iff.mp he) with z | z
      · exact ⟨k, tk, z⟩
      · exact R.tx e z
    have nd1 : (es1.toList.map keyT).Nodup := pk.nodup_iff.mpr (List.nodup_cons.mpr ⟨nk, R.nd⟩)
    have few1 : es1.size < scanBound := by
      rw [← Array.length_toList, pc.length_eq, List.length_cons, Array.length_toList, len]
      exact room
    have led1 : w.params.followText "set-order" = true ∨ t1.led = true := R.led.imp id fun z => by rw [l1]; exact z
    have fin : ∀ h' ks' o' es' ep' t', Heap.SameBut a s.heap h' → TxSet P w h' a ks' o' es' ep' t' → ks'.Perm (es1.toList.map keyT) → Q true { s with heap := h' } := fun h' ks' o' es' ep' t' sb R' p => hQ true h' ks' o' es' ep' t' sb R' (.inr (p.trans pk))
    refine wpAny_bind (gw _ ?_)
    split
    · refine wpAny_bind ?_
      rw [hashByValue_scannable 8 sc]
      refine wpAny_pure ?_
      refine tx_tail (fun b t2 Q' q => ?_) R tx1 nd1 few1 ?_ ?_ ?_ fun h' ks' o' es' ep' t' sb R' p => wpAny_pure (fin h' ks' o' es' ep' t' sb R' p)
      · cases b
        · exact wpAny_pure q
        · exact wpAny_rule q
      · first | (split <;> first | exact f1 | exact SetTable.fits_plain_off f1) | exact f1
      · first | (split <;> exact r1) | exact r1
      · first | (split <;> exact led1) | exact led1
    · refine wpAny_bind (wpAny_pure ?_)
      simp only [↓reduceIte]
      refine tx_tail (fun b t2 Q' q => ?_) R tx1 nd1 few1 f1 r1 led1 fun h' ks' o' es' ep' t' sb R' p => wpAny_pure (fin h' ks' o' es' ep' t' sb R' p)
      cases b
      · exact wpAny_pure q
      · exact wpAny_rule q
theorem strs_get : ∀ {us : List Value} {ns : List Str} {i : Nat} {v : Value}, StrsAre us ns → us[i]? = some v → ∃ k tk, ns[i]? = some k ∧ v = Value.str k tk
  | _, _, _, _, .nil, e => by simp at e
  | _, _, 0, _, .cons y tk _, e => by
    cases e
    exact ⟨y, tk, rfl, rfl⟩
  | _, _, i + 1, _, .cons y tk h, e => strs_get h (i := i) (by simpa using e)
/-- the texts of a list, put into a set -/
theorem tx_grows {items : Array Value} {names : List Str} (B : Heap) (S : Addr) (hi : StrsAre items.toList names) (room : names.length + 1 < scanBound) (hA : B.get? S = none) :
    Grows P w A B S items fun i h => ∃ ks o es ep t, TxSet P w h S ks o es ep t ∧ ks.length ≤ i ∧ i ≤ names.length ∧ ∀ x, x ∈ ks ↔ x ∈ names.take i where
  start := fun h hS _ => ⟨[], _, #[], 0, _, ⟨hS, ⟨rfl, rfl, rfl⟩, rfl, fun e he => by simp at he, rfl, List.nodup_nil, by decide, by rfl, List.Pairwise.nil, by
    show _ ∨ (!w.params.followText "set-order") = true
    cases w.params.followText "set-order" <;> simp⟩, Nat.le_refl _, Nat.zero_le _, fun x => by simp⟩
  keep := fun i h h' ⟨ks, o, es, ep, t, R, r⟩ k => ⟨ks, o, es, ep, t, ⟨k S o (.inl rfl) R.ob, R.ex, R.dat, R.tx, R.key, R.nd, R.few, R.fits, R.ris, R.led⟩, r⟩
  step := fun i v t Q E hv ⟨ks, o, es, ep, tb, R, hl, _, hm⟩ hQ => by
    obtain ⟨k, tk, hk, rfl⟩ : ∃ k tk, names[i]? = some k ∧ v = Value.str k tk := by
      exact strs_get hi (by rw [Array.getElem?_toList]; exact hv)
    have lt : i < names.length := (List.getElem?_eq_some_iff.mp hk).1
    unfold setAdd
    refine wpAny_holding (wpAny_bind ((strKind P w).pyHash (k := k) (strKind_is _ _ _ _) ?_))
    refine tx_add (s := { t with toks := t.toks + 1 }) R (by omega) fun r h' ks' o' es' ep' t' sb R' c => hQ r h' _ (Nat.le_succ _) sb ⟨ks', o', es', ep', t', R', ?_, lt, fun x => ?_⟩
    · rcases c with ⟨_, rfl⟩ | p
      · omega
      · rw [p.length_eq, List.length_cons]
        omega
    · rw [List.take_add_one, hk]
      show x ∈ ks' ↔ x ∈ names.take i ++ [k]
      rw [List.mem_append, List.mem_singleton, ← hm x]
      rcases c with ⟨m, rfl⟩ | p
      · exact ⟨.inl, fun h => h.elim id fun e => e ▸ m⟩
      · rw [p.mem_iff, List.mem_cons]
        exact Or.comm
end
section
variable {X : Cx}
/-- a set of texts, as the heap tells it: its members in the table's order -/
def TxO (P : Program) (w : World) (a : Addr) (ks : List Str) : HO := .ext fun h => ∃ o es ep t, TxSet P w h a ks o es ep t
theorem txO_ok {P : Program} {w : World} {H : Hp} {h : Heap} {a : Addr} {ks : List Str} (R : ∃ o es ep t, TxSet P w h a ks o es ep t) : ObjOk P w H h a (TxO P w a ks) :=
  ⟨R, let ⟨o, _, _, _, r⟩ := R; ⟨o, r.ob⟩, fun h1 h2 ⟨o, es, ep, t, r⟩ k => ⟨o, es, ep, t, ⟨k o r.ob, r.ex, r.dat, r.tx, r.key, r.nd, r.few, r.fits, r.ris, r.led⟩⟩⟩
/-- set(xs), xs a list of texts -/
def rSetT (K : PySem.W.Frag) (P : Program) (w : World) : List V → Hp → VK → Prop := fun xs H Q => ∃ (l : Addr) (names : List Str), xs = [.ref l] ∧ SqL K H l (names.map V.str) ∧ names.length ≤ 1000 ∧
  ∀ p ks, H p = none → ks.Nodup → (∀ x, x ∈ ks ↔ x ∈ names) → Q (.ref p) (upd H p (TxO P w p ks))
theorem cr_setT (hc : X.calm = true) : CallR X (.type "set") (rSetT X.K X.prog X.w) := fun pins t σ H xs us Q I r h => by
  obtain ⟨l, names, rfl, hl, hn, q⟩ := h
  obtain ⟨u, rfl, ru⟩ := vals1 r
  cases ru
  obtain ⟨its, rv, pl, _⟩ := I.list hl
  have hs : StrsAre its.toArray.toList names := strs_of_vals rv
  have fr : t.heap.get? t.heap.objs.size = none := by
    cases e : t.heap.get? t.heap.objs.size with
    | none => rfl
    | some o => exact absurd (Heap.lt_size e) (Nat.lt_irrefl _)
  have room : names.length + 1 < scanBound := by
    unfold scanBound
    omega
  refine set_of_list (I.ok.hd hc) pl.isList (tx_grows t.heap t.heap.objs.size hs room fr) fun h' tk ⟨ks, o, es, ep, tb, R, _, hi, hm⟩ kp => ?_
  have hz : its.toArray.size = names.length := by
    rw [List.size_toArray, ← rv.length, List.length_map]
  rw [hz, List.take_length] at hm
  exact ⟨.ref t.heap.objs.size, _, I.laid (o := TxO X.prog X.w t.heap.objs.size ks) kp (Nat.le_refl _) (txO_ok ⟨o, es, ep, tb, R⟩), rfl, q _ ks (I.hok.fresh (Nat.le_refl _)) R.nd hm⟩
/-- sorted(a set of texts) -/
def rSortT (P : Program) (w : World) : List V → Hp → VK → Prop := fun xs H Q => ∃ (a : Addr) (ks : List Str), xs = [.ref a] ∧ H a = some (TxO P w a ks) ∧ ks.length < 64 ∧ ∀ ys q, ys.Perm ks → sortedS ys = true → H q = none → Q (.ref q) (upd H q (.lst (ys.map V.str)))
theorem tx_strs {P : Program} {w : World} : ∀ {es : List (Int × Value)}, (∀ e ∈ es, IsTx P w e) → StrsAre (es.map (·.2)) (es.map keyT)
  | [], _ => .nil
  | e :: es, h => by
    obtain ⟨k, tk, rfl⟩ := h e List.mem_cons_self
    exact .cons k tk (tx_strs fun e he => h e (List.mem_cons_of_mem _ he))
theorem strs_perm : ∀ {us vs : List Value} {ks : List Str}, us.Perm vs → StrsAre vs ks → ∃ js, StrsAre us js ∧ js.Perm ks := by
  intro us vs ks p
  induction p generalizing ks with
  | nil => exact fun h => ⟨ks, h, List.Perm.refl _⟩
  | cons x _ ih =>
    intro h
    cases h with
    | cons y t h =>
      obtain ⟨js, h1, h2⟩ := ih h
      exact ⟨y :: js, .cons y t h1, h2.cons y⟩
  | swap x y l =>
    intro h
    cases h with
    | cons a t h =>
      cases h with
      | cons b u h => exact ⟨b :: a :: _, .cons b u (.cons a t h), List.Perm.swap _ _ _⟩
  | trans _ _ ih1 ih2 =>
    intro h
    obtain ⟨js, h1, h2⟩ := ih2 h
    obtain ⟨is, h3, h4⟩ := ih1 h1
    exact ⟨is, h3, h4.trans h2⟩
theorem cr_sortT (hc : X.calm = true) : CallR X (.builtin "sorted") (rSortT X.prog X.w) := fun pins t σ H xs us Q I r h => by
  obtain ⟨a, ks, rfl, ha, h64, q⟩ := h
  obtain ⟨u, rfl, ru⟩ := vals1 r
  cases ru
  obtain ⟨o, es, ep, tb, R⟩ := (I.hok a _ ha).1
  refine Calls.call_function_entry PyProof.Rows.kind_sorted PyProof.Rows.plain_sorted PyProof.Rows.entry_sorted (PyProof.Rows.args_sorted1 _) ?_
  unfold Builtin.«sorted»
  refine wpAny_bind (m := checkCount "sorted" 1 1 _) (wpAny_pure ?_)
  refine wpAny_bind (collect_set (A := X.A.in1) (I.ok.hd hc) ⟨o, R.ob, R.ex.1, R.dat⟩ R.fits R.few R.ris R.led fun t1 vs kp hz hg ho pm => ?_)
  obtain ⟨js, h1, h2⟩ := strs_perm pm (tx_strs R.tx)
  rw [R.key] at h2
  have J : Inv X pins σ H { t with heap := t1.heap, gens := t1.gens, drawn := t1.drawn, toks := t1.toks } := I.call (ch := []) (Un.kept kp) (I.hok.kept kp) (by rw [hg]; exact I.bare) (fun _ z => nomatch z)
  have e : { t with heap := t1.heap, gens := t1.gens, drawn := t1.drawn, toks := t1.toks } = t1 := by
    cases t1
    cases t
    cases ho
    rfl
  rw [e] at J
  exact sort_texts J h1 (by rw [h2.length_eq]; exact h64) (fun ys p p1 => q ys p (p1.trans h2)) fun v t2 h => ⟨_, rfl, h⟩
/-- len(a set of texts) -/
def rLenT (P : Program) (w : World) : List V → Hp → VK → Prop := fun xs H Q => ∃ (a : Addr) (ks : List Str), xs = [.ref a] ∧ H a = some (TxO P w a ks) ∧ Q (.int ks.length) H
theorem cr_lenT : CallR X (.builtin "len") (rLenT X.prog X.w) := fun pins t σ H xs us Q I r h => by
  obtain ⟨a, ks, rfl, ha, q⟩ := h
  obtain ⟨u, rfl, ru⟩ := vals1 r
  cases ru
  obtain ⟨o, es, ep, tb, R⟩ := (I.hok a _ ha).1
  have len : es.size = ks.length := by
    rw [← R.key, List.length_map, Array.length_toList]
  refine call_len_set R.ob R.ex R.dat R.fits (by have z := fits_of_scanBound R.few; rw [sizeLine_eq] at z; omega) ⟨.int ks.length, H, I.tok _, ⟨_, by rw [len]⟩, q⟩
end
end FR
/-! FrRule4: dicts of plain data compared. -/
namespace FR
open PySem PySem.Spec PyProof.Rows L2
/-- a dict's pairs and their data -/
def DpK (K : PySem.W.Frag) (H : Hp) (kvs : List (Key × V)) (ps : List (Key × PyData)) : Prop := Paired (fun kv p => kv.1 = p.1 ∧ Dp K H kv.2 p.2 ∧ SeqAt.shaped p.2 = true) kvs ps
def getP (ps : List (Key × PyData)) (k : Key) : Option PyData := (ps.find? fun kv => decide (kv.1 = k)).map (·.2)
def hitB (ps qs : List (Key × PyData)) : Bool := ps.all fun p => match getP qs p.1 with
  | some d => PyData.eqv p.2 d
  | none => false
theorem DpK.get {K : PySem.W.Frag} {H : Hp} {kvs : List (Key × V)} {ps : List (Key × PyData)} (h : DpK K H kvs ps) (k : Key) : (valV kvs k = none ∧ getP ps k = none) ∨ ∃ v d, valV kvs k = some v ∧ getP ps k = some d ∧ Dp K H v d ∧ SeqAt.shaped d = true := by
  unfold DpK at h
  induction h with
  | nil => exact .inl ⟨rfl, rfl⟩
  | @cons kv p r ps hp _ ih =>
    obtain ⟨e, d, sh⟩ := hp
    by_cases q : kv.1 = k
    · right
      refine ⟨kv.2, p.2, valV_pos q, ?_, d, sh⟩
      unfold getP
      rw [List.find?_cons, decide_eq_true (e ▸ q)]
      rfl
    · have q2 : ¬ p.1 = k := fun z => q (e.trans z)
      rw [valV_neg q]
      have e2 : getP (p :: ps) k = getP ps k := by
        unfold getP
        rw [List.find?_cons, decide_eq_false q2]
      rw [e2]
      exact ih
section
variable {X : Cx} {pins : List (Addr × Obj)} {σ : L2.St} {H : Hp} {t : Shared}
theorem hits_data (I : Inv X pins σ H t) {A : Around} (hu : A.units + 64 < cLine) {ls : List (Key × V)} {qs : List (Key × PyData)} {vb : List (Key × Value)} (hq : DpK X.K H ls qs) (rb : KV ls vb) :
    ∀ {ks : List (Key × V)} {ps : List (Key × PyData)} {va : List (Key × Value)}, DpK X.K H ks ps → KV ks va → PySem.W.KeqHits A t vb va (hitB ps qs) := by
  intro ks ps va hp ra
  unfold DpK at hp
  induction hp generalizing va with
  | nil =>
    cases ra
    exact .nil
  | @cons kv p ks ps hd _ ih =>
    obtain ⟨e, d, sh⟩ := hd
    unfold KV at ra
    cases ra with
    | @cons _ q _ va' h1 h2 =>
      obtain ⟨k, v⟩ := q
      obtain ⟨e1, r1⟩ := h1
      have e1 : kv.1 = k := e1
      have ih := ih h2
      unfold hitB
      rw [List.all_cons]
      have hk : p.1 = k := e.symm.trans e1
      rcases hq.get k with ⟨n1, n2⟩ | ⟨u, d2, n1, n2, dp2, sh2⟩
      · rw [hk, n2]
        have rr := rb.val k
        rw [n1] at rr
        cases z : valueAt vb k with
        | none => exact .miss z
        | some y =>
          rw [z] at rr
          exact (show False from rr).elim
      · rw [hk, n2]
        have rr := rb.val k
        rw [n1] at rr
        obtain ⟨y, hy, ry⟩ := rr.some_of
        obtain ⟨as, rd1⟩ := Dp.reads I _ _ _ d r1
        obtain ⟨bs, rd2⟩ := Dp.reads I _ _ _ dp2 ry
        exact .hit hy (SeqAt.eqAt_reads _ _ A t _ _ as bs rd1 rd2 (SeqAt.canLay_of_shaped sh) (SeqAt.canLay_of_shaped sh2) (SeqAt.room_of_shaped sh hu)) ih
end
section
variable {X : Cx}
def rEqK (K : PySem.W.Frag) (n : Bool) : R2 := fun x y H Q => ∃ a b ks ls ps qs, x = .ref a ∧ y = .ref b ∧ Rd H a (.dK ks) ∧ Rd H b (.dK ls) ∧ DpK K H ks ps ∧ DpK K H ls qs ∧ Q (.bl (if n then !(ks.length == ls.length && hitB ps qs) else (ks.length == ls.length && hitB ps qs))) H
theorem op_eqK (hu : X.A.units + 65 < cLine) : OpR X (compareOp .Eq) (rEqK X.K false) := fun pins t σ H x y v u Q I rx ry h => by
  obtain ⟨a, b, ks, ls, ps, qs, rfl, rfl, ha, hb, hp, hq, q⟩ := h
  cases rx
  cases ry
  obtain ⟨_, ya, va, ra, da⟩ := dk_rd I.hok ha
  obtain ⟨_, yb, vb, rb, db⟩ := dk_rd I.hok hb
  refine PySem.W.keq_eq (knd := mixKind X.prog X.w) (r := hitB ps qs) ya yb da db (by omega) (fun _ => hits_data I (A := X.A.in1) (by show X.A.units + 1 + 64 < cLine; omega) hq rb hp ra) ⟨.bl (va.length == vb.length && hitB ps qs), H, I, rfl, ?_⟩
  rw [← ra.length, ← rb.length]
  exact q
theorem op_neK (hu : X.A.units + 65 < cLine) : OpR X (compareOp .NotEq) (rEqK X.K true) := fun pins t σ H x y v u Q I rx ry h => by
  obtain ⟨a, b, ks, ls, ps, qs, rfl, rfl, ha, hb, hp, hq, q⟩ := h
  cases rx
  cases ry
  obtain ⟨_, ya, va, ra, da⟩ := dk_rd I.hok ha
  obtain ⟨_, yb, vb, rb, db⟩ := dk_rd I.hok hb
  refine PySem.W.keq_ne (knd := mixKind X.prog X.w) (r := hitB ps qs) ya yb da db (by omega) (fun _ => hits_data I (A := X.A.in1) (by show X.A.units + 1 + 64 < cLine; omega) hq rb hp ra) ⟨.bl (!(va.length == vb.length && hitB ps qs)), H, I, rfl, ?_⟩
  rw [← ra.length, ← rb.length]
  exact q
end
end FR
/-! FrSnd0: how data stand in the heap; states. -/
namespace FR
open PySem PySem.Spec PyProof.Rows L2

/-- what is fixed through a law: the written part, the town's place, the classes' and the defs' places -/
structure Gd where
  K : PySem.W.Frag
  T : Option Addr
  cA : Nat → Addr
  fA : Nat → Addr

/-- a caught error of the class cls, tracked at a -/
def ExV (cls : Value) (a : Addr) : HO := .ext fun h => ∃ (oe : Obj) (vs : Array Value), h.get? a = some oe ∧ Zc cls none oe ∧ oe.data = .fields vs
mutual
inductive Rep (Z : Gd) (h : Hp) : D → V → Prop
  | non : Rep Z h .non .non
  | bl (b : Bool) : Rep Z h (.bl b) (.bl b)
  | int (i : Int) : Rep Z h (.int i) (.int i)
  | str (x : Str) : Rep Z h (.str x) (.str x)
  | tup {a : Addr} {vs : List V} {ds : List D} : SqT Z.K h a vs → RepL Z h ds vs → Rep Z h (.tup ds) (.ref a)
  | lst {a : Addr} {vs : List V} {ds : List D} : h a = some (.lst vs) → RepL Z h ds vs → Rep Z h (.lst ds) (.ref a)
  | dct {a : Addr} {o : Obj} {vs : List (Key × V)} {ds : List (Key × D)} : h a = some (.frz o (.dK vs)) → RepK Z h ds vs → Rep Z h (.dct ds) (.ref a)
  | fn (f : Nat) : Rep Z h (.fn f) (.ref (Z.fA f))
  | exc {a : Addr} (c : Nat) : h a = some (ExV (.ref (Z.cA c)) a) → Rep Z h (.exc c) (.ref a)
  | town {a : Addr} : Z.T = some a → Rep Z h .town (.ref a)
  | scr {a : Addr} {ns : List Int} : SqL Z.K h a (ns.map V.int) → Rep Z h (.scr ns) (.ref a)
inductive RepL (Z : Gd) (h : Hp) : List D → List V → Prop
  | nil : RepL Z h [] []
  | cons {d : D} {v : V} {ds : List D} {vs : List V} : Rep Z h d v → RepL Z h ds vs → RepL Z h (d :: ds) (v :: vs)
inductive RepK (Z : Gd) (h : Hp) : List (Key × D) → List (Key × V) → Prop
  | nil : RepK Z h [] []
  | cons {k : Key} {d : D} {v : V} {ds : List (Key × D)} {vs : List (Key × V)} : Rep Z h d v → RepK Z h ds vs → RepK Z h ((k, d) :: ds) ((k, v) :: vs)
end

section
variable {Z : Gd} {h h' : Hp}
theorem seqT {K : PySem.W.Frag} {H H' : Hp} {a : Addr} {xs : List V} (e : Same H H') (x : SqT K H a xs) : SqT K H' a xs := by
  rcases x with (x | ⟨o, x⟩) | x
  · exact .inl (.inl (e _ _ x))
  · exact .inl (.inr ⟨o, e _ _ x⟩)
  · exact .inr x
mutual
theorem Rep.mono (e : Same h h') : ∀ {d : D} {v : V}, Rep Z h d v → Rep Z h' d v
  | _, _, .non => .non
  | _, _, .bl b => .bl b
  | _, _, .int b => .int b
  | _, _, .str b => .str b
  | _, _, .tup x y => .tup (seqT e x) (RepL.mono e y)
  | _, _, .lst x y => .lst (e _ _ x) (RepL.mono e y)
  | _, _, .dct x y => .dct (e _ _ x) (RepK.mono e y)
  | _, _, .fn f => .fn f
  | _, _, .exc c x => .exc c (e _ _ x)
  | _, _, .town x => .town x
  | _, _, .scr x => .scr (e.seq x)
theorem RepL.mono (e : Same h h') : ∀ {d : List D} {v : List V}, RepL Z h d v → RepL Z h' d v
  | _, _, .nil => .nil
  | _, _, .cons x y => .cons (Rep.mono e x) (RepL.mono e y)
theorem RepK.mono (e : Same h h') : ∀ {d : List (Key × D)} {v : List (Key × V)}, RepK Z h d v → RepK Z h' d v
  | _, _, .nil => .nil
  | _, _, .cons x y => .cons (Rep.mono e x) (RepK.mono e y)
end
theorem RepL.length : ∀ {ds : List D} {vs : List V}, RepL Z h ds vs → ds.length = vs.length
  | _, _, .nil => rfl
  | _, _, .cons _ y => congrArg (· + 1) y.length
theorem RepL.get : ∀ {ds : List D} {vs : List V} {i : Nat} {d : D}, RepL Z h ds vs → ds[i]? = some d → ∃ v, vs[i]? = some v ∧ Rep Z h d v
  | _, _, _, _, .nil, e => by simp at e
  | _, _, 0, _, .cons x y, e => by
    simp only [List.getElem?_cons_zero, Option.some.injEq] at e
    subst e
    exact ⟨_, rfl, x⟩
  | _, _, i + 1, _, .cons x y, e => by
    rw [List.getElem?_cons_succ] at e
    obtain ⟨v, e1, r⟩ := y.get e
    exact ⟨v, by rw [List.getElem?_cons_succ]; exact e1, r⟩
theorem RepL.app : ∀ {ds es : List D} {vs us : List V}, RepL Z h ds vs → RepL Z h es us → RepL Z h (ds ++ es) (vs ++ us)
  | _, _, _, _, .nil, y => y
  | _, _, _, _, .cons a b, y => .cons a (b.app y)
theorem RepL.drop : ∀ {ds : List D} {vs : List V} (n : Nat), RepL Z h ds vs → RepL Z h (ds.drop n) (vs.drop n)
  | _, _, 0, x => x
  | _, _, n + 1, .nil => by simpa using RepL.nil
  | _, _, n + 1, .cons _ y => y.drop n
theorem RepL.take : ∀ {ds : List D} {vs : List V} (n : Nat), RepL Z h ds vs → RepL Z h (ds.take n) (vs.take n)
  | _, _, 0, x => by simpa using RepL.nil
  | _, _, n + 1, .nil => by simpa using RepL.nil
  | _, _, n + 1, .cons x y => .cons x (y.take n)
theorem RepL.rev : ∀ {ds : List D} {vs : List V}, RepL Z h ds vs → RepL Z h ds.reverse vs.reverse
  | _, _, .nil => .nil
  | _, _, .cons x y => by
    rw [List.reverse_cons, List.reverse_cons]
    exact y.rev.app (.cons x .nil)
theorem RepL.rep {ds : List D} {vs : List V} (x : RepL Z h ds vs) : ∀ n : Nat, RepL Z h (List.replicate n ds).flatten (List.replicate n vs).flatten
  | 0 => .nil
  | n + 1 => by
    rw [List.replicate_succ, List.replicate_succ, List.flatten_cons, List.flatten_cons]
    exact x.app (x.rep n)
theorem RepL.set : ∀ {ds : List D} {vs : List V} {d : D} {v : V} (i : Nat), RepL Z h ds vs → Rep Z h d v → RepL Z h (ds.set i d) (vs.set i v)
  | _, _, _, _, _, .nil, _ => .nil
  | _, _, _, _, 0, .cons x y, r => .cons r y
  | _, _, _, _, i + 1, .cons x y, r => .cons x (y.set i r)
theorem RepL.snoc {ds : List D} {vs : List V} {d : D} {v : V} (x : RepL Z h ds vs) (r : Rep Z h d v) : RepL Z h (ds ++ [d]) (vs ++ [v]) := x.app (.cons r .nil)
theorem RepL.ints : ∀ {ds : List D} {vs : List V} {ns : List Int}, RepL Z h ds vs → intsD ds = some ns → vs = ns.map V.int
  | _, _, _, .nil, e => by
    rw [intsD] at e
    cases e
    rfl
  | _, _, ns, .cons x y, e => by
    cases x with
    | int i =>
      rw [intsD] at e
      obtain ⟨ms, e1, rfl⟩ := Option.map_eq_some_iff.mp e
      rw [y.ints e1]
      rfl
    | _ => cases e
theorem RepL.bools : ∀ {ds : List D} {vs : List V} {ns : List Bool}, RepL Z h ds vs → boolsD ds = some ns → vs = ns.map V.bl
  | _, _, _, .nil, e => by
    rw [boolsD] at e
    cases e
    rfl
  | _, _, ns, .cons x y, e => by
    cases x with
    | bl i =>
      rw [boolsD] at e
      obtain ⟨ms, e1, rfl⟩ := Option.map_eq_some_iff.mp e
      rw [y.bools e1]
      rfl
    | _ => cases e
end

/-! ### states -/
def TownOk (Z : Gd) (H Sh : Hp) (s : S) : Prop := match Z.T, s with
  | none, none => True
  | some t, some n => Sh t = none ∧ H t = some (.lst (List.replicate n (V.int 0)))
  | _, _ => False

/-- the heap at the def's entry, its shared part -/
structure Ent where
  H : Hp
  Sh : Hp
def SlOk (Z : Gd) (H Sh : Hp) (H0 : Ent) : Sl → Option V → Prop
  | .un, _ => True
  | .dat d, o => ∃ v, o = some v ∧ Rep Z Sh d v
  | .own ds, o => ∃ a vs, o = some (.ref a) ∧ Sh a = none ∧ some a ≠ Z.T ∧ H0.H a = none ∧ H a = some (.lst vs) ∧ RepL Z Sh ds vs
  | .ownD ds, o => ∃ a vs, o = some (.ref a) ∧ Sh a = none ∧ some a ≠ Z.T ∧ H0.H a = none ∧ H a = some (.dK vs) ∧ RepK Z Sh ds vs
def isOwn : Sl → Bool
  | .own _ => true
  | .ownD _ => true
  | _ => false
structure Ext (Z : Gd) (H Sh H' Sh' : Hp) (s' : S) : Prop where
  frame : ∀ (a : Addr) (o : HO), some a ≠ Z.T → H a = some o → H' a = some o
  shs : Same Sh Sh'
  sub : Same Sh' H'
  town : TownOk Z H' Sh' s'
  new : ∀ (a : Addr) (o : HO), Sh' a = some o → Sh a = some o ∨ H a = none

structure Ok (Z : Gd) (H0 : Ent) (σ : L2.St) (g : G) (H Sh : Hp) (s : S) : Prop where
  ent : Ext Z H0.H H0.Sh H Sh s
  len : σ.length = g.length
  slot : ∀ (i : Nat) (x : Sl) (o : Option V), g[i]? = some x → σ[i]? = some o → SlOk Z H Sh H0 x o
  dist : ∀ (i j : Nat) (x y : Sl) (o : Option V), g[i]? = some x → g[j]? = some y → isOwn x = true → isOwn y = true → σ[i]? = some o → σ[j]? = some o → i = j
theorem Ok.sub {Z : Gd} {H0 : Ent} {σ : L2.St} {g : G} {H Sh : Hp} {s : S} (k : Ok Z H0 σ g H Sh s) : Same Sh H := k.ent.sub
theorem Ok.town {Z : Gd} {H0 : Ent} {σ : L2.St} {g : G} {H Sh : Hp} {s : S} (k : Ok Z H0 σ g H Sh s) : TownOk Z H Sh s := k.ent.town

section
variable {Z : Gd} {H0 : Ent} {H Sh H' Sh' H2 Sh2 : Hp} {σ : L2.St} {g : G} {s s' s2 : S}
theorem TownOk.there (t : TownOk Z H Sh s) {a : Addr} (e : Z.T = some a) : ∃ n, s = some n ∧ Sh a = none ∧ H a = some (.lst (List.replicate n (V.int 0))) := by
  unfold TownOk at t
  rw [e] at t
  cases s with
  | none => exact t.elim
  | some n => exact ⟨n, rfl, t.1, t.2⟩
theorem Ext.refl (sub : Same Sh H) (t : TownOk Z H Sh s) : Ext Z H Sh H Sh s := ⟨fun _ _ _ e => e, Same.refl _, sub, t, fun _ _ e => .inl e⟩
theorem Ext.gone (e : Ext Z H Sh H' Sh' s') {a : Addr} (x : H' a = none) : (H a = none ∨ some a = Z.T) := by
  by_cases h : some a = Z.T
  · exact .inr h
  · cases q : H a with
    | none => exact .inl rfl
    | some o =>
      rw [e.frame a o h q] at x
      cases x
theorem Ext.trans (e : Ext Z H Sh H' Sh' s') (f : Ext Z H' Sh' H2 Sh2 s2) : Ext Z H Sh H2 Sh2 s2 where
  frame := fun a o h q => f.frame a o h (e.frame a o h q)
  shs := e.shs.trans f.shs
  sub := f.sub
  town := f.town
  new := fun a o q => by
    rcases f.new a o q with h | h
    · exact e.new a o h
    · rcases e.gone h with h3 | h3
      · exact .inr h3
      · obtain ⟨n, _, h1, h2⟩ := e.town.there h3.symm
        rw [h2] at h
        cases h
theorem SlOk.ext (x : Ext Z H Sh H' Sh' s') {sl : Sl} {o : Option V} (k : SlOk Z H Sh H0 sl o) : SlOk Z H' Sh' H0 sl o := by
  cases sl with
  | un => trivial
  | dat d =>
    obtain ⟨v, e, r⟩ := k
    exact ⟨v, e, r.mono x.shs⟩
  | own ds =>
    obtain ⟨a, vs, e, h1, h2, h3, h4, r⟩ := k
    refine ⟨a, vs, e, ?_, h2, h3, x.frame a _ h2 h4, r.mono x.shs⟩
    cases q : Sh' a with
    | none => rfl
    | some o =>
      rcases x.new a o q with z | z
      · rw [h1] at z; cases z
      · rw [h4] at z; cases z
  | ownD ds =>
    obtain ⟨a, vs, e, h1, h2, h3, h4, r⟩ := k
    refine ⟨a, vs, e, ?_, h2, h3, x.frame a _ h2 h4, r.mono x.shs⟩
    cases q : Sh' a with
    | none => rfl
    | some o =>
      rcases x.new a o q with z | z
      · rw [h1] at z; cases z
      · rw [h4] at z; cases z
theorem Ok.ext (k : Ok Z H0 σ g H Sh s) (x : Ext Z H Sh H' Sh' s') : Ok Z H0 σ g H' Sh' s' where
  ent := k.ent.trans x
  len := k.len
  slot := fun i sl o e1 e2 => (k.slot i sl o e1 e2).ext x
  dist := k.dist
theorem Ok.exr (k : Ok Z H0 σ g H Sh s) : Ext Z H Sh H Sh s := Ext.refl k.sub k.town
end
end FR
/-! FrSnd1: readings by the evaluator, and the rules for expressions. -/
namespace FR
open PySem PySem.Spec PyProof.Rows L2

/-! ### new objects -/
section
variable {Z : Gd} {H Sh : Hp} {s : S} {p : Addr}
theorem same_none (sub : Same Sh H) (hp : H p = none) : Sh p = none := sub.free hp
theorem same_upd2 (sub : Same Sh H) (o : HO) : Same (upd Sh p o) (upd H p o) := fun b x e => by
  by_cases h : b = p
  · subst h
    rw [upd_same] at e ⊢
    exact e
  · rw [upd_ne h] at e ⊢
    exact sub b x e
theorem same_fresh {o : HO} (hp : H p = none) : Same H (upd H p o) := fun b x e => by
  rw [upd_ne (ne_of_none e hp)]
  exact e
theorem TownOk.put {o : HO} (t : TownOk Z H Sh s) (hp : H p = none) : TownOk Z (upd H p o) (upd Sh p o) s := by
  unfold TownOk at t ⊢
  split at t
  · trivial
  · rename_i x a n e1
    have h : a ≠ p := fun q => by
      subst q
      rw [hp] at t
      cases t.2
    rw [upd_ne h, upd_ne h]
    exact t
  · exact t
theorem TownOk.putH {o : HO} (t : TownOk Z H Sh s) (hp : H p = none) : TownOk Z (upd H p o) Sh s := by
  unfold TownOk at t ⊢
  split at t
  · trivial
  · rename_i x a n e1
    have h : a ≠ p := fun q => by
      subst q
      rw [hp] at t
      cases t.2
    rw [upd_ne h]
    exact t
  · exact t
theorem Ext.alloc (sub : Same Sh H) (t : TownOk Z H Sh s) (hp : H p = none) (o : HO) : Ext Z H Sh (upd H p o) (upd Sh p o) s where
  frame := fun a x _ e => same_fresh hp a x e
  shs := same_fresh (same_none sub hp)
  sub := same_upd2 sub o
  town := t.put hp
  new := fun a x e => by
    by_cases h : a = p
    · subst h
      exact .inr hp
    · rw [upd_ne h] at e
      exact .inl e
theorem Ext.allocH (sub : Same Sh H) (t : TownOk Z H Sh s) (hp : H p = none) (o : HO) : Ext Z H Sh (upd H p o) Sh s where
  frame := fun a x _ e => same_fresh hp a x e
  shs := Same.refl _
  sub := sub.trans (same_fresh hp)
  town := t.putH hp
  new := fun a x e => .inl e
end

/-! ### what is wanted of an answer -/
section
variable (Z : Gd) (W : WX)
def EvX {α β : Type} (rel : Hp → α → β → Prop) (o : EV α) (σ : L2.St) (H Sh : Hp) (Q : β → Hp → Prop) : Prop := match o with
  | some (.ok d, s) => ∀ (v : β) (H' Sh' : Hp), Ext Z H Sh H' Sh' s → rel Sh' d v → Q v H'
  | some (.exn c, s) => ∀ (H' Sh' : Hp), Ext Z H Sh H' Sh' s → W (.ref (Z.cA c)) none σ H'
  | none => False
end
section
variable {Z : Gd} {W : WX} {α β γ δ : Type} {rel : Hp → α → β → Prop} {rel2 : Hp → γ → δ → Prop} {σ : L2.St} {H Sh H' Sh' : Hp} {s : S}
theorem EvX.bind {o : EV α} {f : α → S → EV γ} {Q : δ → Hp → Prop} {Q' : β → Hp → Prop} (h : EvX Z W rel2 (rb o f) σ H Sh Q)
    (k : ∀ a s' v H' Sh', Ext Z H Sh H' Sh' s' → rel Sh' a v → EvX Z W rel2 (f a s') σ H' Sh' Q → Q' v H') : EvX Z W rel o σ H Sh Q' := by
  unfold EvX
  cases o with
  | none => exact h
  | some p =>
    obtain ⟨r, s1⟩ := p
    cases r with
    | exn c => exact h
    | ok a =>
      intro v H' Sh' e r
      refine k a s1 v H' Sh' e r ?_
      rw [rb_ok] at h
      unfold EvX at h ⊢
      cases q : f a s1 with
      | none =>
        rw [q] at h
        exact h
      | some p =>
        obtain ⟨r2, s2⟩ := p
        rw [q] at h
        cases r2 with
        | exn c => exact fun H2 Sh2 e2 => h H2 Sh2 (e.trans e2)
        | ok d => exact fun v2 H2 Sh2 e2 r2 => h v2 H2 Sh2 (e.trans e2) r2
theorem EvX.mv {o : EV α} {Q : β → Hp → Prop} {s0 : S} (h : EvX Z W rel o σ H Sh Q) (e : Ext Z H Sh H' Sh' s0) : EvX Z W rel o σ H' Sh' Q := by
  unfold EvX at h ⊢
  cases o with
  | none => exact h
  | some p =>
    obtain ⟨r, s1⟩ := p
    cases r with
    | exn c => exact fun H2 Sh2 e2 => h H2 Sh2 (e.trans e2)
    | ok d => exact fun v2 H2 Sh2 e2 r2 => h v2 H2 Sh2 (e.trans e2) r2
theorem EvX.imp {o : EV α} {Q Q' : β → Hp → Prop} (h : EvX Z W rel o σ H Sh Q) (w : ∀ v H, Q v H → Q' v H) : EvX Z W rel o σ H Sh Q' := by
  unfold EvX at h ⊢
  split
  · exact fun v H' Sh' e r => w _ _ (h v H' Sh' e r)
  · exact h
  · exact h
/-- the answer stands where we are -/
theorem EvX.here {d : α} {v : β} {Q : β → Hp → Prop} (h : EvX Z W rel (some (.ok d, s)) σ H Sh Q) (sub : Same Sh H) (t : TownOk Z H Sh s) (r : rel Sh d v) : Q v H :=
  h v H Sh (Ext.refl sub t) r
theorem EvX.rp {o : Option α} {Q : β → Hp → Prop} (h : EvX Z W rel (rp o s) σ H Sh Q) : ∃ d, o = some d ∧ EvX Z W rel (some (.ok d, s)) σ H Sh Q := by
  cases o with
  | none => exact h.elim
  | some d => exact ⟨d, rfl, h⟩
end

section
variable (Z : Gd) (W : WX) (H0 : Ent)
def tX {α β : Type} (rel : Hp → α → β → Prop) (ev : G → S → EV α) : L2.St → Hp → (β → Hp → Prop) → Prop := fun σ H Q =>
  ∃ (g : G) (s : S) (Sh : Hp), Ok Z H0 σ g H Sh s ∧ EvX Z W rel (ev g s) σ H Sh Q
abbrev tV (ev : G → S → EV D) : TE := tX Z W H0 (Rep Z) ev
abbrev tA (ev : G → S → EV (List D)) : TA := tX Z W H0 (RepL Z) ev
abbrev tB (ev : G → S → EV Bool) : TT := tX Z W H0 (fun _ a b => a = b) ev
end

theorem peW {X : Cx} {e : Expr} {t t' : TE} (h : PE X e t) (w : ∀ σ H Q, t' σ H Q → t σ H Q) : PE X e t' := ⟨fun pins s σ H Q I q => h.run pins s σ H Q I (w σ H Q q)⟩
theorem ptW {X : Cx} {e : Expr} {t t' : TT} (h : PT X e t) (w : ∀ σ H Q, t' σ H Q → t σ H Q) : PT X e t' := ⟨fun pins s σ H Q I q => h.run pins s σ H Q I (w σ H Q q)⟩
theorem paW {X : Cx} {e : List Expr} {t t' : TA} (h : PA X e t) (w : ∀ σ H Q, t' σ H Q → t σ H Q) : PA X e t' := ⟨fun pos pins s σ H Q I q => h.run pos pins s σ H Q I (w σ H Q q)⟩
theorem psW {X : Cx} {e : Stmt} {t t' : TS} (h : PS X e t) (w : ∀ D σ H, t' D σ H → t D σ H) : PS X e t' := ⟨fun pins s σ H D I q => h.run pins s σ H D I (w D σ H q)⟩
theorem pssW {X : Cx} {e : List Stmt} {t t' : TS} (h : PSs X e t) (w : ∀ D σ H, t' D σ H → t D σ H) : PSs X e t' := ⟨fun pins s σ H D I q => h.run pins s σ H D I (w D σ H q)⟩

section
variable {Z : Gd} {W : WX} {H0 : Ent} {X : Cx} {pos : Pos} {a b c e : Expr} {ea eb ec : G → S → EV D}

/-! ### constants and names -/
theorem sCst {k : Cst} {ev : G → S → EV D} {v : V} (h : PE X e (tC v)) (hv : ∀ Sh, Rep Z Sh k.d v) (he : ∀ g s, ev g s = some (.ok k.d, s)) : PE X e (tV Z W H0 ev) :=
  peW h fun σ H Q ⟨g, s, Sh, ok, h⟩ => by
    rw [he] at h
    exact h.here ok.sub ok.town (hv Sh)
theorem G.rd_some {g : G} {i : Nat} {d : D} (h : g.rd i = some d) : g[i]? = some (.dat d) := by
  unfold G.rd at h
  split at h
  · rename_i d' e
    cases h
    exact e
  · cases h
theorem Ok.get {σ : L2.St} {g : G} {H Sh : Hp} {s : S} (k : Ok Z H0 σ g H Sh s) {i : Nat} {x : Sl} (e : g[i]? = some x) : ∃ o, σ[i]? = some o ∧ SlOk Z H Sh H0 x o := by
  have hl : i < σ.length := by
    rw [k.len]
    exact (List.getElem?_eq_some_iff.mp e).1
  exact ⟨σ[i], List.getElem?_eq_getElem hl, k.slot i x _ e (List.getElem?_eq_getElem hl)⟩
theorem sVar {i : Nat} (h : PE X e (tVar i)) : PE X e (tV Z W H0 fun g s => rp (g.rd i) s) :=
  peW h fun σ H Q ⟨g, s, Sh, ok, h⟩ => by
    obtain ⟨d, e1, h⟩ := h.rp
    obtain ⟨o, e2, k⟩ := ok.get (G.rd_some e1)
    obtain ⟨v, rfl, r⟩ := k
    exact ⟨v, e2, h.here ok.sub ok.town r⟩

/-! ### operators -/
/-- a rule by values does what a function of data says -/
def RD (Z : Gd) (W : WX) (r : R2) (f : D → D → Option D) : Prop := ∀ (x y : V) (d1 d2 : D) (σ : L2.St) (H Sh : Hp) (s : S) (Q : VK), Same Sh H → TownOk Z H Sh s → Rep Z Sh d1 x → Rep Z Sh d2 y →
  EvX Z W (Rep Z) (rp (f d1 d2) s) σ H Sh Q → r x y H Q
theorem sOp {r : R2} {f : D → D → Option D} (hr : RD Z W r f) {t : TE} (ht : ∀ σ H Q, tOp r (tV Z W H0 ea) (tV Z W H0 eb) σ H Q → t σ H Q) (h : PE X e t) :
    PE X e (tV Z W H0 fun g s => rb (ea g s) fun x s => rb (eb g s) fun y s => rp (f x y) s) :=
  peW h fun σ H Q ⟨g, s, Sh, ok, h⟩ => ht σ H Q
    ⟨g, s, Sh, ok, h.bind fun x s1 v H1 Sh1 e1 r1 h1 => ⟨g, s1, Sh1, ok.ext e1, h1.bind fun y s2 u H2 Sh2 e2 r2 h2 =>
      hr v u x y σ H2 Sh2 s2 Q e2.sub e2.town (r1.mono e2.shs) r2 h2⟩⟩
theorem sBin {op : Operator} {r : R2} {f : D → D → Option D} (ho : OpR X (binaryOp op) r) (hr : RD Z W r f) (ha : PE X a (tV Z W H0 ea)) (hb : PE X b (tV Z W H0 eb)) :
    PE X (.BinOp a op b pos) (tV Z W H0 fun g s => rb (ea g s) fun x s => rb (eb g s) fun y s => rp (f x y) s) := sOp hr (fun _ _ _ h => h) (pe_op ho ha hb)
theorem sCmp {op : CmpOp} {r : R2} {f : D → D → Option D} (ho : OpR X (compareOp op) r) (hr : RD Z W r f) (ha : PE X a (tV Z W H0 ea)) (hb : PE X b (tV Z W H0 eb)) (hm : behindInMarks op b = false) :
    PE X (.Compare a [op] [b] pos) (tV Z W H0 fun g s => rb (ea g s) fun x s => rb (eb g s) fun y s => rp (f x y) s) := sOp hr (fun _ _ _ h => h) (pe_cmpR ho ha hb hm)
theorem RD.or {r r' : R2} {f f' : D → D → Option D} (h : RD Z W r f) (h' : RD Z W r' f') {k : D → D → Option D} (hk : ∀ x y d, k x y = some d → f x y = some d ∨ f' x y = some d) :
    RD Z W (fun x y H Q => r x y H Q ∨ r' x y H Q) k := fun x y d1 d2 σ H Sh s Q sub t r1 r2 h0 => by
  obtain ⟨d, e, h0⟩ := h0.rp
  rcases hk _ _ _ e with q | q
  · exact .inl (h x y d1 d2 σ H Sh s Q sub t r1 r2 (by rw [q]; exact h0))
  · exact .inr (h' x y d1 d2 σ H Sh s Q sub t r1 r2 (by rw [q]; exact h0))

/-- two ints -/
def onI (f : Int → Int → Option D) : D → D → Option D
  | .int i, .int j => f i j
  | _, _ => none
theorem rd_int {C : Int → Int → Prop} {k : Int → Int → V} {f : Int → Int → Option D} (h : ∀ i j d, f i j = some d → C i j ∧ ∀ Sh, Rep Z Sh d (k i j)) : RD Z W (rI C k) (onI f) := fun x y d1 d2 σ H Sh s Q sub t r1 r2 h0 => by
  obtain ⟨d, e, h1⟩ := h0.rp
  unfold onI at e
  split at e
  · rename_i i j
    cases r1
    cases r2
    obtain ⟨c, r⟩ := h i j d e
    exact ⟨i, j, rfl, rfl, c, h1.here sub t (r Sh)⟩
  · cases e
theorem rd_int0 {k : Int → Int → V} {f : Int → Int → Option D} (h : ∀ i j d, f i j = some d → ∀ Sh, Rep Z Sh d (k i j)) : RD Z W (rI0 k) (onI f) := fun x y d1 d2 σ H Sh s Q sub t r1 r2 h0 => by
  obtain ⟨d, e, h1⟩ := h0.rp
  unfold onI at e
  split at e
  · rename_i i j
    cases r1
    cases r2
    exact ⟨i, j, rfl, rfl, h1.here sub t (h i j d e Sh)⟩
  · cases e
end
end FR
/-! FrSnd2: operators over data. -/
namespace FR
open PySem PySem.Spec PyProof.Rows L2

theorem szLine {n : Nat} (h : n ≤ SZ) : n ≤ sizeLine := Nat.le_trans h (by decide)
theorem szLt {n : Nat} (h : n < SZ) : n < sizeLine := Nat.lt_of_lt_of_le h (by decide)
theorem hkLine {n : Nat} (h : n ≤ 100000) : n ≤ sizeLine := Nat.le_trans h (by decide)

section
variable {Z : Gd} {W : WX} {H0 : Ent} {X : Cx}

/-- a new list, shared at once -/
theorem EvX.newL {σ : L2.St} {H Sh : Hp} {s : S} {ds : List D} {vs : List V} {Q : VK} {p : Addr} (h : EvX Z W (Rep Z) (some (.ok (.lst ds), s)) σ H Sh Q) (sub : Same Sh H) (t : TownOk Z H Sh s) (r : RepL Z Sh ds vs) (hp : H p = none) :
    Q (.ref p) (upd H p (.lst vs)) :=
  h (.ref p) _ (upd Sh p (.lst vs)) (Ext.alloc sub t hp _) (.lst upd_same (r.mono (same_fresh (same_none sub hp))))
theorem EvX.newT {σ : L2.St} {H Sh : Hp} {s : S} {ds : List D} {vs : List V} {Q : VK} {p : Addr} (h : EvX Z W (Rep Z) (some (.ok (.tup ds), s)) σ H Sh Q) (sub : Same Sh H) (t : TownOk Z H Sh s) (r : RepL Z Sh ds vs) (hp : H p = none) :
    Q (.ref p) (upd H p (.tup vs)) :=
  h (.ref p) _ (upd Sh p (.tup vs)) (Ext.alloc sub t hp _) (.tup (SqT.of upd_same) (r.mono (same_fresh (same_none sub hp))))

/-! ### + -/
def addI : D → D → Option D := onI fun i j => some (.int (i + j))
def addS : D → D → Option D
  | .str x, .str y => if x.length + y.length ≤ 100000 then some (.str (x ++ y)) else none
  | _, _ => none
def addL : D → D → Option D
  | .lst xs, .lst ys => if xs.length + ys.length ≤ SZ then some (.lst (xs ++ ys)) else none
  | _, _ => none
def addT : D → D → Option D
  | .tup xs, .tup ys => if xs.length + ys.length ≤ SZ then some (.tup (xs ++ ys)) else none
  | _, _ => none
theorem rd_addS : RD Z W (fun x y H Q => ∃ i j, x = .str i ∧ y = .str j ∧ i.length + j.length ≤ sizeLine ∧ Q (.str (i ++ j)) H) addS := fun x y d1 d2 σ H Sh s Q sub t r1 r2 h0 => by
  obtain ⟨d, e, h1⟩ := h0.rp
  unfold addS at e
  split at e
  · cases r1
    cases r2
    split at e
    · rename_i hl
      cases e
      exact ⟨_, _, rfl, rfl, hkLine hl, h1.here sub t (.str _)⟩
    · cases e
  · cases e
theorem rd_addL : RD Z W rCat addL := fun x y d1 d2 σ H Sh s Q sub t r1 r2 h0 => by
  obtain ⟨d, e, h1⟩ := h0.rp
  unfold addL at e
  split at e
  · cases r1 with
    | lst x1 y1 =>
      cases r2 with
      | lst x2 y2 =>
        split at e
        · rename_i hl
          cases e
          refine ⟨_, _, _, _, rfl, rfl, sub _ _ x1, sub _ _ x2, ?_, fun p hp => h1.newL sub t (y1.app y2) hp⟩
          rw [← y1.length, ← y2.length]
          exact szLine hl
        · cases e
  · cases e
theorem rd_addT : RD Z W (rCatA Z.K) addT := fun x y d1 d2 σ H Sh s Q sub t r1 r2 h0 => by
  obtain ⟨d, e, h1⟩ := h0.rp
  unfold addT at e
  split at e
  · cases r1 with
    | tup x1 y1 =>
      cases r2 with
      | tup x2 y2 =>
        split at e
        · rename_i hl
          cases e
          refine ⟨_, _, _, _, rfl, rfl, seqT sub x1, seqT sub x2, ?_, fun z => ?_, fun _ z => ?_, fun _ _ p hp => h1.newT sub t (y1.app y2) hp⟩
          · rw [← y1.length, ← y2.length]
            exact szLine hl
          · subst z
            cases y1
            exact h1.here sub t (.tup x2 y2)
          · subst z
            cases y2
            refine h1.here sub t (.tup x1 ?_)
            rw [List.append_nil]
            exact y1
        · cases e
  · cases e
theorem sAdd {pos : Pos} {a b : Expr} {ea eb : G → S → EV D} (hk : X.K = Z.K) (ha : PE X a (tV Z W H0 ea)) (hb : PE X b (tV Z W H0 eb)) :
    PE X (.BinOp a .Add b pos) (tV Z W H0 fun g s => rb (ea g s) fun x s => rb (eb g s) fun y s => rp (binD .add x y) s) := by
  refine sBin (op_add.or (op_add_str.or (op_cat.or op_catA))) ?_ ha hb
  rw [hk]
  refine RD.or (f := addI) (rd_int0 fun i j d e Sh => by cases e; exact .int _) (RD.or rd_addS (RD.or rd_addL rd_addT (k := fun x y => (addL x y).or (addT x y)) fun x y d e => ?_) (k := fun x y => (addS x y).or ((addL x y).or (addT x y))) fun x y d e => ?_) fun x y d e => ?_
  · cases q : addL x y with
    | none => rw [q] at e; exact .inr e
    | some z => rw [q] at e; exact .inl e
  · cases q : addS x y with
    | none => rw [q] at e; exact .inr e
    | some z => rw [q] at e; exact .inl e
  · show addI x y = some d ∨ _
    change addD x y = some d at e
    unfold addD at e
    split at e
    · exact .inl e
    · rename_i x y
      right
      show (addS (.str x) (.str y)).or _ = some d
      have q : addS (.str x) (.str y) = some d := e
      rw [q]
      rfl
    · rename_i x y
      right
      show (addL (.lst x) (.lst y)).or _ = some d
      have q : addL (.lst x) (.lst y) = some d := e
      rw [q]
      rfl
    · rename_i x y
      right
      exact e
    · cases e

/-! ### - * // % ** -/
theorem sSub {pos : Pos} {a b : Expr} {ea eb : G → S → EV D} (ha : PE X a (tV Z W H0 ea)) (hb : PE X b (tV Z W H0 eb)) :
    PE X (.BinOp a .Sub b pos) (tV Z W H0 fun g s => rb (ea g s) fun x s => rb (eb g s) fun y s => rp (binD .sub x y) s) := by
  have e : binD .sub = onI fun i j => some (.int (i - j)) := by
    funext x y
    cases x <;> cases y <;> rfl
  rw [e]
  exact sBin op_sub (rd_int0 fun i j d e Sh => by cases e; exact .int _) ha hb
theorem op_fdivA : OpR X (binaryOp .FloorDiv) (rI (fun _ j => j ≠ 0 ∧ j.natAbs.log2 < 9000) fun i j => .int (i.fdiv j)) :=
  opI fun _ _ _ _ _ _ _ hc q => floordiv_int hc.1 q (.inl (PyProof.noPylong_of_log2 hc.2))
theorem sFdiv {pos : Pos} {a b : Expr} {ea eb : G → S → EV D} (ha : PE X a (tV Z W H0 ea)) (hb : PE X b (tV Z W H0 eb)) :
    PE X (.BinOp a .FloorDiv b pos) (tV Z W H0 fun g s => rb (ea g s) fun x s => rb (eb g s) fun y s => rp (binD .fdiv x y) s) := by
  have e : binD .fdiv = onI fun i j => if divOk j then some (.int (i.fdiv j)) else none := by
    funext x y
    cases x <;> cases y <;> rfl
  rw [e]
  refine sBin op_fdivA (rd_int fun i j d e => ?_) ha hb
  split at e
  · rename_i h
    cases e
    exact ⟨of_decide_eq_true h, fun _ => .int _⟩
  · cases e
theorem sMod {pos : Pos} {a b : Expr} {ea eb : G → S → EV D} (ha : PE X a (tV Z W H0 ea)) (hb : PE X b (tV Z W H0 eb)) :
    PE X (.BinOp a .Mod b pos) (tV Z W H0 fun g s => rb (ea g s) fun x s => rb (eb g s) fun y s => rp (binD .mod x y) s) := by
  have e : binD .mod = onI fun i j => if j = 0 then none else some (.int (i.fmod j)) := by
    funext x y
    cases x <;> cases y <;> rfl
  rw [e]
  refine sBin op_modN (rd_int fun i j d e => ?_) ha hb
  split at e
  · cases e
  · rename_i h
    cases e
    exact ⟨h, fun _ => .int _⟩
theorem sPow {pos : Pos} {a b : Expr} {ea eb : G → S → EV D} (ha : PE X a (tV Z W H0 ea)) (hb : PE X b (tV Z W H0 eb)) :
    PE X (.BinOp a .Pow b pos) (tV Z W H0 fun g s => rb (ea g s) fun x s => rb (eb g s) fun y s => rp (binD .pow x y) s) := by
  have e : binD .pow = onI fun i j => if 0 ≤ j ∧ j ≤ 1000 ∧ i.natAbs < 2 ^ 64 then some (.int (i ^ j.toNat)) else none := by
    funext x y
    cases x <;> cases y <;> rfl
  rw [e]
  refine sBin op_pow (rd_int fun i j d e => ?_) ha hb
  split at e
  · rename_i h
    cases e
    exact ⟨⟨h.1, Int.le_trans h.2.1 (by decide), h.2.2⟩, fun _ => .int _⟩
  · cases e
def mulI : D → D → Option D := onI fun i j => if mulOk i j then some (.int (i * j)) else none
def mulL : D → D → Option D
  | .lst xs, .int k => if xs.length * k.toNat ≤ SZ ∧ k.natAbs ≤ SZ then some (.lst (repD xs k)) else none
  | _, _ => none
theorem rd_mulL : RD Z W rRep mulL := fun x y d1 d2 σ H Sh s Q sub t r1 r2 h0 => by
  obtain ⟨d, e, h1⟩ := h0.rp
  unfold mulL at e
  split at e
  · cases r1 with
    | lst x1 y1 =>
      cases r2
      split at e
      · rename_i hl
        cases e
        have h2 : (SZ : Int) < 2 ^ 63 := by decide
        refine ⟨_, _, _, rfl, rfl, sub _ _ x1, by omega, by omega, ?_, fun p hp => h1.newL sub t (y1.rep _) hp⟩
        rw [← y1.length]
        exact szLine hl.1
      · cases e
  · cases e
theorem sMul {pos : Pos} {a b : Expr} {ea eb : G → S → EV D} (ha : PE X a (tV Z W H0 ea)) (hb : PE X b (tV Z W H0 eb)) :
    PE X (.BinOp a .Mult b pos) (tV Z W H0 fun g s => rb (ea g s) fun x s => rb (eb g s) fun y s => rp (binD .mul x y) s) := by
  refine sBin (op_mulW.or op_rep) (RD.or (f := mulI) (f' := mulL) (rd_int fun i j d e => ?_) rd_mulL fun x y d e => ?_) ha hb
  · split at e
    · rename_i h
      cases e
      refine ⟨?_, fun _ => .int _⟩
      unfold mulOk at h
      show i.natAbs.log2 + j.natAbs.log2 < 1000000
      exact of_decide_eq_true h
    · cases e
  · change mulD x y = some d at e
    unfold mulD at e
    split at e
    · exact .inl e
    · exact .inr e
    · cases e
end
end FR
/-! FrSnd3: comparisons, truth, displays, places, built-ins. -/
namespace FR
open PySem PySem.Spec PyProof.Rows L2

/-! ### data that may be compared -/
mutual
def D.toP : D → PyData
  | .bl b => .bool b
  | .int i => .int i
  | .str x => .str x
  | .tup xs => .tuple (D.toPL xs)
  | .lst xs => .list (D.toPL xs)
  | _ => .none
def D.toPL : List D → List PyData
  | [] => []
  | d :: ds => d.toP :: D.toPL ds
end
theorem D.plS {n : Nat} {x : Str} (h : (D.str x).pl n = true) : x.length ≤ 100000 ∧ PySem.PyData.strOk x = true := by
  have h' : (decide (x.length ≤ 100000) && x.cps.all (· < 0x110000)) = true := by
    cases n <;> simpa [D.pl] using h
  rw [Bool.and_eq_true] at h'
  exact ⟨of_decide_eq_true h'.1, h'.2⟩
theorem D.plT {n : Nat} {xs : List D} (h : (D.tup xs).pl n = true) : ∃ m, n = m + 1 ∧ ∀ x ∈ xs, x.pl m = true := by
  cases n with
  | zero => simp [D.pl] at h
  | succ m => exact ⟨m, rfl, by simpa [D.pl] using h⟩
theorem D.plL {n : Nat} {xs : List D} (h : (D.lst xs).pl n = true) : ∃ m, n = m + 1 ∧ ∀ x ∈ xs, x.pl m = true := by
  cases n with
  | zero => simp [D.pl] at h
  | succ m => exact ⟨m, rfl, by simpa [D.pl] using h⟩
mutual
theorem D.lay : ∀ (d : D) (n : Nat), d.pl n = true → d.toP.canLay0 = true ∧ d.toP.depth ≤ n
  | .non, n, _ => by simp [D.toP, PyData.canLay0, PyData.depth]
  | .bl _, n, _ => by simp [D.toP, PyData.canLay0, PyData.depth]
  | .int _, n, _ => by simp [D.toP, PyData.canLay0, PyData.depth]
  | .str x, n, h => by
    refine ⟨?_, ?_⟩
    · rw [D.toP, PyData.canLay0]
      exact (D.plS h).2
    · simp [D.toP, PyData.depth]
  | .tup xs, n, h => by
    obtain ⟨m, rfl, hx⟩ := D.plT h
    obtain ⟨h1, h2⟩ := D.layL xs m hx
    rw [D.toP, PyData.canLay0, PyData.depth]
    exact ⟨h1, Nat.succ_le_succ h2⟩
  | .lst xs, n, h => by
    obtain ⟨m, rfl, hx⟩ := D.plL h
    obtain ⟨h1, h2⟩ := D.layL xs m hx
    rw [D.toP, PyData.canLay0, PyData.depth]
    exact ⟨h1, Nat.succ_le_succ h2⟩
  | .dct _, n, h => by cases n <;> simp [D.pl] at h
  | .exc _, n, h => by cases n <;> simp [D.pl] at h
  | .fn _, n, h => by cases n <;> simp [D.pl] at h
  | .town, n, h => by cases n <;> simp [D.pl] at h
  | .scr _, n, h => by cases n <;> simp [D.pl] at h
theorem D.layL : ∀ (ds : List D) (n : Nat), (∀ x ∈ ds, x.pl n = true) → PyData.canLayAll0 (D.toPL ds) = true ∧ PyData.depthAll (D.toPL ds) ≤ n
  | [], n, _ => by simp [D.toPL, PyData.canLayAll0, PyData.depthAll]
  | d :: ds, n, h => by
    obtain ⟨h1, h2⟩ := D.lay d n (h d List.mem_cons_self)
    obtain ⟨h3, h4⟩ := D.layL ds n fun x hx => h x (List.mem_cons_of_mem _ hx)
    rw [D.toPL, PyData.canLayAll0, PyData.depthAll, h1, h3]
    exact ⟨rfl, Nat.max_le.mpr ⟨h2, h4⟩⟩
end
theorem D.shaped {d : D} {n : Nat} (h : d.pl n = true) (hn : n ≤ 64) : SeqAt.shaped d.toP = true := by
  obtain ⟨h1, h2⟩ := d.lay n h
  unfold SeqAt.shaped
  rw [h1, decide_eq_true (Nat.le_trans h2 hn)]
  rfl
mutual
theorem D.eqvP : ∀ (d e : D) (n m : Nat), d.pl n = true → e.pl m = true → PyData.eqv d.toP e.toP = D.eqv d e
  | .non, e, n, m, _, h => by cases e <;> first | rfl | (cases m <;> simp [D.pl] at h)
  | .bl _, e, n, m, _, h => by cases e <;> first | rfl | (cases m <;> simp [D.pl] at h)
  | .int _, e, n, m, _, h => by cases e <;> first | rfl | (cases m <;> simp [D.pl] at h)
  | .str _, e, n, m, _, h => by cases e <;> first | rfl | (cases m <;> simp [D.pl] at h)
  | .tup xs, e, n, m, h1, h => by
    cases e with
    | tup ys =>
      obtain ⟨a, rfl, hx⟩ := D.plT h1
      obtain ⟨b, rfl, hy⟩ := D.plT h
      show PyData.eqvAll (D.toPL xs) (D.toPL ys) = D.eqvL xs ys
      exact D.eqvPL xs ys a b hx hy
    | dct _ => cases m <;> simp [D.pl] at h
    | exc _ => cases m <;> simp [D.pl] at h
    | fn _ => cases m <;> simp [D.pl] at h
    | town => cases m <;> simp [D.pl] at h
    | scr _ => cases m <;> simp [D.pl] at h
    | _ => rfl
  | .lst xs, e, n, m, h1, h => by
    cases e with
    | lst ys =>
      obtain ⟨a, rfl, hx⟩ := D.plL h1
      obtain ⟨b, rfl, hy⟩ := D.plL h
      show PyData.eqvAll (D.toPL xs) (D.toPL ys) = D.eqvL xs ys
      exact D.eqvPL xs ys a b hx hy
    | dct _ => cases m <;> simp [D.pl] at h
    | exc _ => cases m <;> simp [D.pl] at h
    | fn _ => cases m <;> simp [D.pl] at h
    | town => cases m <;> simp [D.pl] at h
    | scr _ => cases m <;> simp [D.pl] at h
    | _ => rfl
  | .dct _, _, n, _, h, _ => by cases n <;> simp [D.pl] at h
  | .exc _, _, n, _, h, _ => by cases n <;> simp [D.pl] at h
  | .fn _, _, n, _, h, _ => by cases n <;> simp [D.pl] at h
  | .town, _, n, _, h, _ => by cases n <;> simp [D.pl] at h
  | .scr _, _, n, _, h, _ => by cases n <;> simp [D.pl] at h
theorem D.eqvPL : ∀ (ds es : List D) (n m : Nat), (∀ x ∈ ds, x.pl n = true) → (∀ x ∈ es, x.pl m = true) → PyData.eqvAll (D.toPL ds) (D.toPL es) = D.eqvL ds es
  | [], es, _, _, _, _ => by cases es <;> rfl
  | d :: ds, [], _, _, _, _ => rfl
  | d :: ds, e :: es, n, m, h1, h2 => by
    show (PyData.eqv d.toP e.toP && PyData.eqvAll (D.toPL ds) (D.toPL es)) = (D.eqv d e && D.eqvL ds es)
    rw [D.eqvP d e n m (h1 d List.mem_cons_self) (h2 e List.mem_cons_self), D.eqvPL ds es n m (fun x hx => h1 x (List.mem_cons_of_mem _ hx)) fun x hx => h2 x (List.mem_cons_of_mem _ hx)]
end
section
variable {Z : Gd} {Sh H : Hp}
mutual
theorem Rep.dp (sub : Same Sh H) : ∀ {d : D} {v : V} (n : Nat), Rep Z Sh d v → d.pl n = true → Dp Z.K H v d.toP
  | _, _, _, .non, _ => .non
  | _, _, _, .bl b, _ => .bl b
  | _, _, _, .int b, _ => .int b
  | _, _, _, .str b, _ => .str b
  | _, _, n, .tup x y, h => by
    obtain ⟨m, rfl, hx⟩ := D.plT h
    exact .tup (seqT sub x) (RepL.dp sub m y hx)
  | _, _, n, .lst x y, h => by
    obtain ⟨m, rfl, hx⟩ := D.plL h
    exact .lst (SqL.of (sub _ _ x)) (RepL.dp sub m y hx)
  | _, _, n, .dct x y, h => by cases n <;> simp [D.pl] at h
  | _, _, n, .fn f, h => by cases n <;> simp [D.pl] at h
  | _, _, n, .exc c x, h => by cases n <;> simp [D.pl] at h
  | _, _, n, .town x, h => by cases n <;> simp [D.pl] at h
  | _, _, n, .scr x, h => by cases n <;> simp [D.pl] at h
theorem RepL.dp (sub : Same Sh H) : ∀ {ds : List D} {vs : List V} (n : Nat), RepL Z Sh ds vs → (∀ x ∈ ds, x.pl n = true) → DpAll Z.K H vs (D.toPL ds)
  | _, _, _, .nil, _ => .nil
  | _, _, n, .cons x y, h => .cons (Rep.dp sub n x (h _ List.mem_cons_self)) (RepL.dp sub n y fun z hz => h z (List.mem_cons_of_mem _ hz))
end
end

section
variable {Z : Gd} {W : WX} {H0 : Ent} {X : Cx} {pos : Pos} {a b c : Expr} {ea eb ec : G → S → EV D}

/-! ### comparisons -/
/-- a rule that answers by a truth value -/
abbrev RDb (Z : Gd) (W : WX) (r : R2) (f : D → D → Option Bool) : Prop := RD Z W r fun x y => (f x y).map D.bl
theorem rdb {r : R2} {f : D → D → Option Bool} (h : ∀ (x y : V) (d1 d2 : D) (H Sh : Hp) (Q : VK) (k : Bool), Same Sh H → Rep Z Sh d1 x → Rep Z Sh d2 y → f d1 d2 = some k → Q (.bl k) H → r x y H Q) : RDb Z W r f :=
  fun x y d1 d2 σ H Sh s Q sub t r1 r2 h0 => by
    obtain ⟨d, e, h1⟩ := h0.rp
    obtain ⟨k, e2, e3⟩ := Option.map_eq_some_iff.mp e
    subst e3
    exact h x y d1 d2 H Sh Q k sub r1 r2 e2 (h1.here sub t (.bl _))
theorem RepK.dpk {Sh H : Hp} (sub : Same Sh H) : ∀ {ds : List (Key × D)} {vs : List (Key × V)}, RepK Z Sh ds vs → valsPl ds = true → DpK Z.K H vs (ds.map fun kv => (kv.1, kv.2.toP))
  | _, _, .nil, _ => Paired.nil
  | _, _, .cons x y, h => by
    unfold valsPl at h
    rw [List.all_cons, Bool.and_eq_true] at h
    exact Paired.cons ⟨rfl, x.dp sub 7 h.1, D.shaped h.1 (by decide)⟩ (RepK.dpk sub y h.2)
theorem RepK.len {h : Hp} : ∀ {ds : List (Key × D)} {vs : List (Key × V)}, RepK Z h ds vs → ds.length = vs.length
  | _, _, .nil => rfl
  | _, _, .cons _ y => congrArg (· + 1) y.len
theorem getP_map {ds : List (Key × D)} {k : Key} : getP (ds.map fun kv => (kv.1, kv.2.toP)) k = (getK ds k).map D.toP := by
  induction ds with
  | nil => rfl
  | cons p ds ih =>
    unfold getP getK at ih ⊢
    rw [List.map_cons, List.find?_cons, List.find?_cons]
    cases q : decide (p.1 = k) with
    | true => rfl
    | false => exact ih
theorem getK_mem {ds : List (Key × D)} {k : Key} {d : D} (h : getK ds k = some d) : (k, d) ∈ ds := by
  unfold getK at h
  obtain ⟨p, hp, rfl⟩ := Option.map_eq_some_iff.mp h
  have := List.find?_some hp
  rw [decide_eq_true_eq] at this
  subst this
  exact List.mem_of_find?_eq_some hp
theorem hitB_eq {es : List (Key × D)} (he : valsPl es = true) : ∀ {ds : List (Key × D)}, valsPl ds = true → hitB (ds.map fun kv => (kv.1, kv.2.toP)) (es.map fun kv => (kv.1, kv.2.toP)) = D.eqvK ds es
  | [], _ => rfl
  | (k, d) :: ds, h => by
    unfold valsPl at h
    rw [List.all_cons, Bool.and_eq_true] at h
    have ih := hitB_eq he h.2
    unfold hitB at ih ⊢
    rw [List.map_cons, List.all_cons, ih, D.eqvK]
    dsimp only
    rw [getP_map]
    cases q : getK es k with
    | none => rfl
    | some e =>
      have pe : e.pl 7 = true := List.all_eq_true.mp he (k, e) (getK_mem q)
      show (PyData.eqv d.toP e.toP && _) = _
      rw [D.eqvP d e 7 7 h.1 pe]
theorem eqDct_eq {d1 d2 : D} {k : Bool} (h : eqDct d1 d2 = some k) : ∃ xs ys, d1 = .dct xs ∧ d2 = .dct ys ∧ valsPl xs = true ∧ valsPl ys = true ∧ k = (xs.length == ys.length && D.eqvK xs ys) := by
  unfold eqDct at h
  split at h
  · split at h
    · rename_i q
      rw [Bool.and_eq_true] at q
      cases h
      exact ⟨_, _, rfl, rfl, q.1, q.2, rfl⟩
    · cases h
  · cases h
theorem rd_eq : RDb Z W (fun x y H Q => rEqD Z.K x y H Q ∨ rEqK Z.K false x y H Q) (cmpD .eq) := rdb fun x y d1 d2 H Sh Q k sub r1 r2 e q => by
  change (if d1.pl 8 && d2.pl 8 then some (D.eqv d1 d2) else eqDct d1 d2) = some k at e
  split at e
  · rename_i hp
    rw [Bool.and_eq_true] at hp
    cases e
    refine .inl ⟨_, _, r1.dp sub 8 hp.1, r2.dp sub 8 hp.2, D.shaped hp.1 (by decide), D.shaped hp.2 (by decide), ?_⟩
    rw [D.eqvP d1 d2 8 8 hp.1 hp.2]
    exact q
  · obtain ⟨xs, ys, rfl, rfl, h1, h2, rfl⟩ := eqDct_eq e
    cases r1 with
    | dct x1 y1 =>
      cases r2 with
      | dct x2 y2 =>
        refine .inr ⟨_, _, _, _, _, _, rfl, rfl, .inr ⟨_, sub _ _ x1⟩, .inr ⟨_, sub _ _ x2⟩, y1.dpk sub h1, y2.dpk sub h2, ?_⟩
        rw [hitB_eq h2 h1, ← y1.len, ← y2.len]
        exact q
theorem rd_ne : RDb Z W (fun x y H Q => rNeD Z.K x y H Q ∨ rEqK Z.K true x y H Q) (cmpD .ne) := rdb fun x y d1 d2 H Sh Q k sub r1 r2 e q => by
  change (if d1.pl 8 && d2.pl 8 then some (!D.eqv d1 d2) else (eqDct d1 d2).map (!·)) = some k at e
  split at e
  · rename_i hp
    rw [Bool.and_eq_true] at hp
    cases e
    refine .inl ⟨_, _, r1.dp sub 8 hp.1, r2.dp sub 8 hp.2, D.shaped hp.1 (by decide), D.shaped hp.2 (by decide), ?_⟩
    rw [D.eqvP d1 d2 8 8 hp.1 hp.2]
    exact q
  · obtain ⟨k', e5, rfl⟩ := Option.map_eq_some_iff.mp e
    obtain ⟨xs, ys, rfl, rfl, h1, h2, rfl⟩ := eqDct_eq e5
    cases r1 with
    | dct x1 y1 =>
      cases r2 with
      | dct x2 y2 =>
        refine .inr ⟨_, _, _, _, _, _, rfl, rfl, .inr ⟨_, sub _ _ x1⟩, .inr ⟨_, sub _ _ x2⟩, y1.dpk sub h1, y2.dpk sub h2, ?_⟩
        rw [hitB_eq h2 h1, ← y1.len, ← y2.len]
        exact q
theorem ltD_int {d1 d2 : D} {k : Bool} (h : ltD d1 d2 = some k) : ∃ i j, d1 = .int i ∧ d2 = .int j ∧ k = decide (i < j) := by
  unfold ltD at h
  split at h
  · cases h
    exact ⟨_, _, rfl, rfl, rfl⟩
  · cases h
theorem leD_int {d1 d2 : D} {k : Bool} (h : leD d1 d2 = some k) : ∃ i j, d1 = .int i ∧ d2 = .int j ∧ k = decide (i ≤ j) := by
  unfold leD at h
  split at h
  · cases h
    exact ⟨_, _, rfl, rfl, rfl⟩
  · cases h
theorem rd_lt : RDb Z W (rI0 fun i j => .bl (decide (i < j))) (cmpD .lt) := rdb fun x y d1 d2 H Sh Q k sub r1 r2 e q => by
  obtain ⟨i, j, rfl, rfl, rfl⟩ := ltD_int e
  cases r1
  cases r2
  exact ⟨i, j, rfl, rfl, q⟩
theorem rd_le : RDb Z W (rI0 fun i j => .bl (decide (i ≤ j))) (cmpD .le) := rdb fun x y d1 d2 H Sh Q k sub r1 r2 e q => by
  obtain ⟨i, j, rfl, rfl, rfl⟩ := leD_int e
  cases r1
  cases r2
  exact ⟨i, j, rfl, rfl, q⟩
theorem rd_gt : RDb Z W (rI0 fun i j => .bl (decide (j < i))) (cmpD .gt) := rdb fun x y d1 d2 H Sh Q k sub r1 r2 e q => by
  obtain ⟨i, j, rfl, rfl, rfl⟩ := ltD_int e
  cases r1
  cases r2
  exact ⟨j, i, rfl, rfl, q⟩
theorem rd_ge : RDb Z W (rI0 fun i j => .bl (decide (j ≤ i))) (cmpD .ge) := rdb fun x y d1 d2 H Sh Q k sub r1 r2 e q => by
  obtain ⟨i, j, rfl, rfl, rfl⟩ := leD_int e
  cases r1
  cases r2
  exact ⟨j, i, rfl, rfl, q⟩
theorem Rep.nonIff {Sh : Hp} {d : D} {x : V} (r : Rep Z Sh d x) : decide (x = .non) = isNonD d := by
  cases r <;> simp [isNonD]
theorem rd_isN : RDb Z W (fun x y H Q => y = .non ∧ Q (.bl (decide (x = .non))) H) (cmpD .is_) := rdb fun x y d1 d2 H Sh Q k sub r1 r2 e q => by
  cases d2 with
  | non =>
    have e1 : isNonD d1 = k := Option.some.inj e
    cases r2
    refine ⟨rfl, ?_⟩
    rw [r1.nonIff, e1]
    exact q
  | _ => cases e
theorem rd_notN : RDb Z W (fun x y H Q => y = .non ∧ Q (.bl (!decide (x = .non))) H) (cmpD .isn) := rdb fun x y d1 d2 H Sh Q k sub r1 r2 e q => by
  cases d2 with
  | non =>
    have e1 : (!isNonD d1) = k := Option.some.inj e
    cases r2
    refine ⟨rfl, ?_⟩
    rw [r1.nonIff, e1]
    exact q
  | _ => cases e
/-! ### in -/
theorem Rep.flat {Sh : Hp} {d : D} {x : V} (r : Rep Z Sh d x) (h : flatD d = true) : flatV x = true := by
  cases r <;> first | rfl | cases h
theorem Rep.eqF {Sh : Hp} {d e : D} {x y : V} (r : Rep Z Sh d x) (q : Rep Z Sh e y) (h : flatD d = true) (h2 : flatD e = true) : eqV x y = D.eqv d e := by
  cases r <;> first | (cases h; done) | (cases q <;> first | rfl | cases h2)
theorem RepL.flat {Sh : Hp} : ∀ {ds : List D} {vs : List V}, RepL Z Sh ds vs → ds.all flatD = true → vs.all flatV = true
  | _, _, .nil, _ => rfl
  | _, _, .cons x y, h => by
    rw [List.all_cons, Bool.and_eq_true] at h ⊢
    exact ⟨x.flat h.1, y.flat h.2⟩
theorem RepL.inF {Sh : Hp} {d : D} {x : V} (r : Rep Z Sh d x) (hd : flatD d = true) : ∀ {ds : List D} {vs : List V}, RepL Z Sh ds vs → ds.all flatD = true → inV x vs = ds.any fun y => D.eqv y d
  | _, _, .nil, _ => rfl
  | _, _, .cons u w, h => by
    rw [List.all_cons, Bool.and_eq_true] at h
    have ih := RepL.inF r hd w h.2
    unfold inV at ih ⊢
    rw [List.any_cons, List.any_cons, u.eqF r h.1 hd, ih]
theorem any_toP {d : D} (hd : d.pl 8 = true) : ∀ ys : List D, (∀ y ∈ ys, y.pl 8 = true) → ((D.toPL ys).any fun z => PyData.eqv z d.toP) = ys.any fun y => D.eqv y d
  | [], _ => rfl
  | y :: ys, h => by
    rw [D.toPL, List.any_cons, List.any_cons, any_toP hd ys fun z hz => h z (List.mem_cons_of_mem _ hz), D.eqvP y d 8 8 (h y List.mem_cons_self) hd]
theorem plLst {ys : List D} (h : ys.all (D.pl 8) = true) : (D.lst ys).pl 9 = true := by
  show ys.all (D.pl 8) = true
  exact h
theorem inD_cases {x y : D} {k : Bool} (h : inD x y = some k) : (∃ ys, y = .lst ys ∧ x.pl 8 = true ∧ ys.all (D.pl 8) = true ∧ k = ys.any fun y => D.eqv y x) ∨ (∃ ys, y = .tup ys ∧ flatD x = true ∧ ys.all flatD = true ∧ k = ys.any fun y => D.eqv y x) ∨
    (∃ kvs kk, y = .dct kvs ∧ keyD x = some kk ∧ k = (getK kvs kk).isSome) ∨ ∃ z c, y = .str z ∧ x = .str ⟨#[c]⟩ ∧ k = decide (c ∈ z.cps.toList) := by
  unfold inD at h
  split at h
  · split at h
    · rename_i hp
      rw [Bool.and_eq_true] at hp
      cases h
      exact .inl ⟨_, rfl, hp.1, hp.2, rfl⟩
    · cases h
  · split at h
    · rename_i hp
      rw [Bool.and_eq_true] at hp
      cases h
      exact .inr (.inl ⟨_, rfl, hp.1, hp.2, rfl⟩)
    · cases h
  · obtain ⟨kk, e1, rfl⟩ := Option.map_eq_some_iff.mp h
    exact .inr (.inr (.inl ⟨_, kk, rfl, e1, rfl⟩))
  · split at h
    · rename_i c
      split at h
      · rename_i k' e
        cases h
        refine .inr (.inr (.inr ⟨_, k', rfl, ?_, rfl⟩))
        obtain ⟨⟨l⟩⟩ := c
        have : l = [k'] := e
        rw [this]
      · cases h
    · cases h
  · cases h
theorem RepK.val {h : Hp} : ∀ {ds : List (Key × D)} {vs : List (Key × V)}, RepK Z h ds vs → ∀ k : Key, (getK ds k = none ∧ valV vs k = none) ∨ ∃ d v, getK ds k = some d ∧ valV vs k = some v ∧ Rep Z h d v
  | _, _, .nil, k => .inl ⟨rfl, rfl⟩
  | _, _, .cons (k := j) x y, k => by
    by_cases q : j = k
    · refine .inr ⟨_, _, ?_, valV_pos q, x⟩
      unfold getK
      rw [List.find?_cons, decide_eq_true q]
      rfl
    · rw [valV_neg q]
      have e2 : ∀ d ds, getK ((j, d) :: ds) k = getK ds k := fun d ds => by
        unfold getK
        rw [List.find?_cons, decide_eq_false q]
      rw [e2]
      exact RepK.val y k
theorem RepK.valS {h : Hp} {ds : List (Key × D)} {vs : List (Key × V)} (r : RepK Z h ds vs) (k : Key) : (valV vs k).isSome = (getK ds k).isSome := by
  rcases r.val k with ⟨a, b⟩ | ⟨d, v, a, b, _⟩
  · rw [a, b]
    rfl
  · rw [a, b]
    rfl
theorem Rep.key {h : Hp} {d : D} {v : V} {k : Key} (r : Rep Z h d v) (e : keyD d = some k) : v = kV k := by
  cases r with
  | int i => cases e; rfl
  | str x => cases e; rfl
  | _ => cases e
theorem rd_in : RDb Z W (fun x y H Q => rInD Z.K x y H Q ∨ (rIn Z.K false x y H Q ∨ (rInK false x y H Q ∨ ∃ (c : Nat) (z : Str), x = .str ⟨#[c]⟩ ∧ y = .str z ∧ Q (.bl (decide (c ∈ z.cps.toList))) H))) (cmpD .isin) := rdb fun x y d1 d2 H Sh Q k sub r1 r2 e q => by
  rcases inD_cases e with ⟨ys, rfl, h1, h2, rfl⟩ | ⟨ys, rfl, h1, h2, rfl⟩ | ⟨kvs, kk, rfl, h1, rfl⟩ | ⟨z, c, rfl, rfl, rfl⟩
  · refine .inl ⟨_, _, r1.dp sub 8 h1, r2.dp sub 9 (plLst h2), D.shaped h1 (by decide), D.shaped (plLst h2) (by decide), ?_⟩
    rw [any_toP h1 ys (by simpa using h2)]
    exact q
  · cases r2 with
    | tup x2 y2 =>
      refine .inr (.inl ⟨_, _, rfl, .inr (seqT sub x2), r1.flat h1, y2.flat h2, ?_⟩)
      rw [if_neg Bool.false_ne_true, RepL.inF r1 h1 y2 h2]
      exact q
  · cases r2 with
    | dct x2 y2 =>
      refine .inr (.inr (.inl ⟨_, _, rfl, .inl ⟨_, kk, .inr ⟨_, sub _ _ x2⟩, r1.key h1, rfl⟩, ?_⟩))
      rw [if_neg Bool.false_ne_true, y2.valS]
      exact q
  · cases r1
    cases r2
    exact .inr (.inr (.inr ⟨c, z, rfl, rfl, q⟩))
theorem rd_nin : RDb Z W (fun x y H Q => rNotInD Z.K x y H Q ∨ (rIn Z.K true x y H Q ∨ (rInK true x y H Q ∨ ∃ (c : Nat) (z : Str), x = .str ⟨#[c]⟩ ∧ y = .str z ∧ Q (.bl (!decide (c ∈ z.cps.toList))) H))) (cmpD .nin) := rdb fun x y d1 d2 H Sh Q k sub r1 r2 e q => by
  obtain ⟨k', e1, rfl⟩ := Option.map_eq_some_iff.mp (show (inD d1 d2).map (!·) = some k from e)
  rcases inD_cases e1 with ⟨ys, rfl, h1, h2, rfl⟩ | ⟨ys, rfl, h1, h2, rfl⟩ | ⟨kvs, kk, rfl, h1, rfl⟩ | ⟨z, c, rfl, rfl, rfl⟩
  · refine .inl ⟨_, _, r1.dp sub 8 h1, r2.dp sub 9 (plLst h2), D.shaped h1 (by decide), D.shaped (plLst h2) (by decide), ?_⟩
    rw [any_toP h1 ys (by simpa using h2)]
    exact q
  · cases r2 with
    | tup x2 y2 =>
      refine .inr (.inl ⟨_, _, rfl, .inr (seqT sub x2), r1.flat h1, y2.flat h2, ?_⟩)
      rw [if_pos rfl, RepL.inF r1 h1 y2 h2]
      exact q
  · cases r2 with
    | dct x2 y2 =>
      refine .inr (.inr (.inl ⟨_, _, rfl, .inl ⟨_, kk, .inr ⟨_, sub _ _ x2⟩, r1.key h1, rfl⟩, ?_⟩))
      rw [if_pos rfl, y2.valS]
      exact q
  · cases r1
    cases r2
    exact .inr (.inr (.inr ⟨c, z, rfl, rfl, q⟩))
end

/-- the operator's own rule -/
def cmO : Cm → CmpOp
  | .eq => .Eq | .ne => .NotEq | .lt => .Lt | .le => .LtE | .gt => .Gt | .ge => .GtE | .isin => .In | .nin => .NotIn | .is_ => .Is | .isn => .IsNot
section
variable {Z : Gd} {W : WX} {H0 : Ent} {X : Cx} {pos : Pos} {a b c : Expr} {ea eb ec : G → S → EV D}
theorem cm_rule (hk : X.K = Z.K) (hu : X.A.units + 65 < cLine) (o : Cm) : ∃ r, OpR X (compareOp (cmO o)) r ∧ RDb Z W r (cmpD o) := by
  have hu4 : X.A.units + 64 < cLine := by omega
  cases o with
  | eq => exact ⟨_, (op_eqD hu4).or (op_eqK hu), by rw [hk]; exact rd_eq⟩
  | ne => exact ⟨_, (op_neD hu4).or (op_neK hu), by rw [hk]; exact rd_ne⟩
  | lt => exact ⟨_, op_lt, rd_lt⟩
  | le => exact ⟨_, op_le, rd_le⟩
  | gt => exact ⟨_, op_gt, rd_gt⟩
  | ge => exact ⟨_, op_ge, rd_ge⟩
  | isin => exact ⟨_, (op_inD hu).or (op_in_seq.or ((op_inK (by omega)).or op_in_sign)), by rw [hk]; exact rd_in⟩
  | nin => exact ⟨_, (op_notInD hu).or (op_notIn_seq.or ((op_ninK (by omega)).or op_notIn_sign)), by rw [hk]; exact rd_nin⟩
  | is_ => exact ⟨_, op_isN, rd_isN⟩
  | isn => exact ⟨_, op_notN, rd_notN⟩
def notSet : Expr → Bool
  | .Set _ _ _ => false
  | _ => true
theorem marks0 {op : CmpOp} {b : Expr} (h : notSet b = true) : behindInMarks op b = false := by
  cases b <;> first | rfl | cases h
theorem sCmpO (hk : X.K = Z.K) (hu : X.A.units + 65 < cLine) (o : Cm) (ha : PE X a (tV Z W H0 ea)) (hb : PE X b (tV Z W H0 eb)) (hm : notSet b = true) :
    PE X (.Compare a [cmO o] [b] pos) (tV Z W H0 fun g s => rb (ea g s) fun x s => rb (eb g s) fun y s => rp ((cmpD o x y).map D.bl) s) := by
  obtain ⟨r, h1, h2⟩ := cm_rule (W := W) hk hu o
  exact sCmp h1 h2 ha hb (marks0 hm)
theorem sChn (hk : X.K = Z.K) (hu : X.A.units + 65 < cLine) (o p : Cm) (ha : PE X a (tV Z W H0 ea)) (hb : PE X b (tV Z W H0 eb)) (hc : PE X c (tV Z W H0 ec)) (hm : notSet c = true) :
    PE X (.Compare a [cmO o, cmO p] [b, c] pos) (tV Z W H0 fun g s => rb (ea g s) fun x s => rb (eb g s) fun y s => rb (rp (cmpD o x y) s) fun k s =>
      if k then rb (ec g s) fun z s => rp ((cmpD p y z).map D.bl) s else some (.ok (.bl false), s)) := by
  obtain ⟨r1, h1, k1⟩ := cm_rule (W := W) hk hu o
  obtain ⟨r2, h2, k2⟩ := cm_rule (W := W) hk hu p
  refine peW (pe_chain h1 h2 ha hb hc (marks0 hm)) fun σ H Q ⟨g, s, Sh, ok, h⟩ => ?_
  refine ⟨g, s, Sh, ok, h.bind fun x s1 v H1 Sh1 e1 q1 h => ⟨g, s1, Sh1, ok.ext e1, h.bind fun y s2 u H2 Sh2 e2 q2 h => ?_⟩⟩
  refine k1 v u x y σ H2 Sh2 s2 _ e2.sub e2.town (q1.mono e2.shs) q2 ?_
  cases q : cmpD o x y with
  | none =>
    rw [q] at h
    exact h.elim
  | some k =>
    rw [q] at h
    show EvX Z W (Rep Z) (rp ((cmpD o x y).map D.bl) s2) σ H2 Sh2 _
    rw [q]
    intro w H3 Sh3 e3 q3
    cases q3
    refine ⟨k, rfl, ?_⟩
    cases k with
    | false =>
      rw [if_neg Bool.false_ne_true]
      exact h (.bl false) H3 Sh3 e3 (.bl false)
    | true =>
      rw [if_pos rfl]
      have h : EvX Z W (Rep Z) (rb (ec g s2) fun z s => rp ((cmpD p y z).map D.bl) s) σ H2 Sh2 Q := h
      exact ⟨g, s2, Sh3, ((ok.ext e1).ext e2).ext e3, (h.mv e3).bind fun z s4 w4 H4 Sh4 e4 q4 h4 =>
        k2 u w4 y z σ H4 Sh4 s4 Q e4.sub e4.town ((q2.mono e3.shs).mono e4.shs) q4 h4⟩

/-! ### truth -/
theorem Rep.tru {H Sh : Hp} {d : D} {v : V} {k : Bool} (r : Rep Z Sh d v) (sub : Same Sh H) (h : d.truth = some k) : TruV Z.K v H k := by
  cases r with
  | non => cases h; rfl
  | bl b => cases h; rfl
  | int i => cases h; rfl
  | str x =>
    change (if x.length ≤ 100000 then some (x.length != 0) else none) = some k at h
    split at h
    · rename_i hl
      cases h
      refine ⟨hkLine hl, ?_⟩
      generalize x.length = n
      rw [Bool.eq_iff_iff]
      simp
    · cases h
  | tup x y =>
    cases h
    refine .inr (.inl ⟨_, seqT sub x, ?_⟩)
    cases y <;> rfl
  | lst x y =>
    cases h
    refine .inl ⟨_, SqL.of (sub _ _ x), ?_⟩
    cases y <;> rfl
  | dct x y => cases h
  | fn f => cases h
  | exc c x => cases h
  | town x => cases h
  | scr x =>
    cases h
    refine .inl ⟨_, sub.seq x, ?_⟩
    rename_i ns
    cases ns <;> rfl
theorem sNot (hk : X.K = Z.K) (ha : PE X a (tV Z W H0 ea)) : PE X (.UnaryOp .Not a pos) (tV Z W H0 fun g s => rb (ea g s) fun x s => rb (tru x s) fun b s => some (.ok (.bl (!b)), s)) := by
  refine peW (pe_notT ha) fun σ H Q ⟨g, s, Sh, ok, h⟩ => ⟨g, s, Sh, ok, h.bind fun x s1 v H1 Sh1 e1 q1 h => ?_⟩
  rw [hk]
  cases q : x.truth with
  | none =>
    unfold tru at h
    rw [q] at h
    exact h.elim
  | some k =>
    unfold tru at h
    rw [q] at h
    exact ⟨k, q1.tru e1.sub q, EvX.here h e1.sub e1.town (.bl _)⟩
theorem sAnd {rest : List Expr} (hk : X.K = Z.K) (ha : PE X a (tV Z W H0 ea)) (hb : PE X (.BoolOp .And (b :: rest) pos) (tV Z W H0 eb)) :
    PE X (.BoolOp .And (a :: b :: rest) pos) (tV Z W H0 fun g s => rb (ea g s) fun x s => rb (tru x s) fun t s => if t then eb g s else some (.ok x, s)) := by
  refine peW (pe_andT ha hb) fun σ H Q ⟨g, s, Sh, ok, h⟩ => ⟨g, s, Sh, ok, h.bind fun x s1 v H1 Sh1 e1 q1 h => ?_⟩
  rw [hk]
  unfold tru at h
  cases q : x.truth with
  | none =>
    rw [q] at h
    exact h.elim
  | some k =>
    rw [q] at h
    refine ⟨k, q1.tru e1.sub q, ?_⟩
    cases k with
    | true =>
      rw [if_pos rfl]
      exact ⟨g, s1, Sh1, ok.ext e1, h⟩
    | false =>
      rw [if_neg Bool.false_ne_true]
      exact EvX.here h e1.sub e1.town q1
theorem sOr {rest : List Expr} (hk : X.K = Z.K) (ha : PE X a (tV Z W H0 ea)) (hb : PE X (.BoolOp .Or (b :: rest) pos) (tV Z W H0 eb)) :
    PE X (.BoolOp .Or (a :: b :: rest) pos) (tV Z W H0 fun g s => rb (ea g s) fun x s => rb (tru x s) fun t s => if t then some (.ok x, s) else eb g s) := by
  refine peW (pe_orT ha hb) fun σ H Q ⟨g, s, Sh, ok, h⟩ => ⟨g, s, Sh, ok, h.bind fun x s1 v H1 Sh1 e1 q1 h => ?_⟩
  rw [hk]
  unfold tru at h
  cases q : x.truth with
  | none =>
    rw [q] at h
    exact h.elim
  | some k =>
    rw [q] at h
    refine ⟨k, q1.tru e1.sub q, ?_⟩
    cases k with
    | false =>
      rw [if_neg Bool.false_ne_true]
      exact ⟨g, s1, Sh1, ok.ext e1, h⟩
    | true =>
      rw [if_pos rfl]
      exact EvX.here h e1.sub e1.town q1

/-! ### tests -/
/-- what a test answers -/
def evT (ev : G → S → EV D) : G → S → EV Bool := fun g s => rb (ev g s) fun x s => tru x s
theorem sTru (hk : X.K = Z.K) (ha : PE X a (tV Z W H0 ea)) (he : ∀ whole, isTrue a X.env whole = (do let v ← whole; standAt a.pos; holding [v] (truthy v))) : PT X a (tB Z W H0 (evT ea)) := by
  refine ptW (pt_truth ha he) fun σ H Q ⟨g, s, Sh, ok, h⟩ => ⟨g, s, Sh, ok, EvX.bind h fun x s1 v H1 Sh1 e1 q1 h => ?_⟩
  rw [hk]
  unfold tru at h
  cases q : x.truth with
  | none =>
    rw [q] at h
    exact h.elim
  | some k =>
    rw [q] at h
    exact ⟨k, q1.tru e1.sub q, EvX.here h e1.sub e1.town rfl⟩
theorem sTNot {ta : G → S → EV Bool} (ha : PT X a (tB Z W H0 ta)) : PT X (.UnaryOp .Not a pos) (tB Z W H0 fun g s => rb (ta g s) fun b s => some (.ok (!b), s)) := by
  refine ptW (pt_not ha) fun σ H Q ⟨g, s, Sh, ok, h⟩ => ⟨g, s, Sh, ok, h.bind fun x s1 v H1 Sh1 e1 q1 h => ?_⟩
  subst q1
  exact EvX.here h e1.sub e1.town rfl
theorem sTAnd {rest : List Expr} {ta tb : G → S → EV Bool} (ha : PT X a (tB Z W H0 ta)) (hb : PW X (.BoolOp .And (b :: rest) pos) (tB Z W H0 tb)) :
    PW X (.BoolOp .And (a :: b :: rest) pos) (tB Z W H0 fun g s => rb (ta g s) fun t s => if t then tb g s else some (.ok false, s)) := by
  refine ⟨fun wh pins s σ H Q I h => (pw_and ha hb).run wh pins s σ H Q I ?_⟩
  obtain ⟨g, s, Sh, ok, h⟩ := h
  refine ⟨g, s, Sh, ok, EvX.bind h fun x s1 v H1 Sh1 e1 q1 h => ?_⟩
  subst q1
  cases x with
  | true =>
    rw [if_pos rfl]
    exact ⟨g, s1, Sh1, ok.ext e1, h⟩
  | false =>
    rw [if_neg Bool.false_ne_true]
    exact EvX.here h e1.sub e1.town rfl
theorem sTOr {rest : List Expr} {ta tb : G → S → EV Bool} (ha : PT X a (tB Z W H0 ta)) (hb : PW X (.BoolOp .Or (b :: rest) pos) (tB Z W H0 tb)) :
    PW X (.BoolOp .Or (a :: b :: rest) pos) (tB Z W H0 fun g s => rb (ta g s) fun t s => if t then some (.ok true, s) else tb g s) := by
  refine ⟨fun wh pins s σ H Q I h => (pw_or ha hb).run wh pins s σ H Q I ?_⟩
  obtain ⟨g, s, Sh, ok, h⟩ := h
  refine ⟨g, s, Sh, ok, EvX.bind h fun x s1 v H1 Sh1 e1 q1 h => ?_⟩
  subst q1
  cases x with
  | false =>
    rw [if_neg Bool.false_ne_true]
    exact ⟨g, s1, Sh1, ok.ext e1, h⟩
  | true =>
    rw [if_pos rfl]
    exact EvX.here h e1.sub e1.town rfl
/-- a comparison as a test -/
theorem sTCmp (hk : X.K = Z.K) (hu : X.A.units + 65 < cLine) (o : Cm) (ha : PE X a (tV Z W H0 ea)) (hb : PE X b (tV Z W H0 eb)) (hm : notSet b = true) :
    PT X (.Compare a [cmO o] [b] pos) (tB Z W H0 (evT fun g s => rb (ea g s) fun x s => rb (eb g s) fun y s => rp ((cmpD o x y).map D.bl) s)) := by
  obtain ⟨r, h1, h2⟩ := cm_rule (W := W) hk hu o
  refine ptW (pt_cmpR h1 ha hb (marks0 hm)) fun σ H Q ⟨g, s, Sh, ok, h⟩ => ?_
  have h : EvX Z W (fun _ a b => a = b) (rb (rb (ea g s) fun x s => rb (eb g s) fun y s => rp ((cmpD o x y).map D.bl) s) fun x s => tru x s) σ H Sh Q := h
  rw [rb_rb] at h
  refine ⟨g, s, Sh, ok, h.bind fun x s1 v H1 Sh1 e1 q1 h => ⟨g, s1, Sh1, ok.ext e1, ?_⟩⟩
  rw [rb_rb] at h
  refine h.bind fun y s2 u H2 Sh2 e2 q2 h => h2 v u x y σ H2 Sh2 s2 _ e2.sub e2.town (q1.mono e2.shs) q2 ?_
  cases q : cmpD o x y with
  | none =>
    rw [q] at h
    exact h.elim
  | some k =>
    rw [q] at h
    show EvX Z W (Rep Z) (rp ((cmpD o x y).map D.bl) s2) σ H2 Sh2 _
    rw [q]
    intro w H3 Sh3 e3 q3
    cases q3
    exact ⟨k, rfl, h k H3 Sh3 e3 rfl⟩
theorem sTChn (hk : X.K = Z.K) (hu : X.A.units + 65 < cLine) (o p : Cm) (ha : PE X a (tV Z W H0 ea)) (hb : PE X b (tV Z W H0 eb)) (hc : PE X c (tV Z W H0 ec)) (hm : notSet c = true) :
    PT X (.Compare a [cmO o, cmO p] [b, c] pos) (tB Z W H0 (evT fun g s => rb (ea g s) fun x s => rb (eb g s) fun y s => rb (rp (cmpD o x y) s) fun k s =>
      if k then rb (ec g s) fun z s => rp ((cmpD p y z).map D.bl) s else some (.ok (.bl false), s))) := by
  obtain ⟨r1, h1, k1⟩ := cm_rule (W := W) hk hu o
  obtain ⟨r2, h2, k2⟩ := cm_rule (W := W) hk hu p
  refine ptW (pt_chain h1 h2 ha hb hc (marks0 hm)) fun σ H Q ⟨g, s, Sh, ok, h⟩ => ?_
  have h : EvX Z W (fun _ a b => a = b) (rb (rb (ea g s) fun x s => rb (eb g s) fun y s => rb (rp (cmpD o x y) s) fun k s =>
      if k then rb (ec g s) fun z s => rp ((cmpD p y z).map D.bl) s else some (.ok (.bl false), s)) fun x s => tru x s) σ H Sh Q := h
  rw [rb_rb] at h
  refine ⟨g, s, Sh, ok, h.bind fun x s1 v H1 Sh1 e1 q1 h => ⟨g, s1, Sh1, ok.ext e1, ?_⟩⟩
  rw [rb_rb] at h
  refine h.bind fun y s2 u H2 Sh2 e2 q2 h => ?_
  refine k1 v u x y σ H2 Sh2 s2 _ e2.sub e2.town (q1.mono e2.shs) q2 ?_
  cases q : cmpD o x y with
  | none =>
    rw [q] at h
    exact h.elim
  | some k =>
    rw [q] at h
    show EvX Z W (Rep Z) (rp ((cmpD o x y).map D.bl) s2) σ H2 Sh2 _
    rw [q]
    intro w H3 Sh3 e3 q3
    cases q3
    refine ⟨k, rfl, ?_⟩
    cases k with
    | false =>
      rw [if_neg Bool.false_ne_true]
      exact ⟨false, rfl, h false H3 Sh3 e3 rfl⟩
    | true =>
      rw [if_pos rfl]
      have h : EvX Z W (fun _ a b => a = b) (rb (rb (ec g s2) fun z s => rp ((cmpD p y z).map D.bl) s) fun x s => tru x s) σ H2 Sh2 Q := h
      rw [rb_rb] at h
      refine ⟨g, s2, Sh3, ((ok.ext e1).ext e2).ext e3, (h.mv e3).bind fun z s4 w4 H4 Sh4 e4 q4 h4 => ?_⟩
      refine k2 u w4 y z σ H4 Sh4 s4 _ e4.sub e4.town ((q2.mono e3.shs).mono e4.shs) q4 ?_
      cases q5 : cmpD p y z with
      | none =>
        rw [q5] at h4
        exact h4.elim
      | some k =>
        rw [q5] at h4
        show EvX Z W (Rep Z) (rp ((cmpD p y z).map D.bl) s4) σ H4 Sh4 _
        rw [q5]
        intro w H5 Sh5 e5 q6
        cases q6
        exact ⟨k, rfl, h4 k H5 Sh5 e5 rfl⟩
/-- a if t else b -/
theorem sIte {ta : G → S → EV Bool} (hc : PT X c (tB Z W H0 ta)) (ha : PE X a (tV Z W H0 ea)) (hb : PE X b (tV Z W H0 eb)) :
    PE X (.IfExp c a b pos) (tV Z W H0 fun g s => rb (ta g s) fun t s => if t then ea g s else eb g s) := by
  refine peW (pe_ifExp hc ha hb) fun σ H Q ⟨g, s, Sh, ok, h⟩ => ⟨g, s, Sh, ok, h.bind fun x s1 v H1 Sh1 e1 q1 h => ?_⟩
  subst q1
  cases x with
  | true =>
    rw [if_pos rfl]
    exact ⟨g, s1, Sh1, ok.ext e1, h⟩
  | false =>
    rw [if_neg Bool.false_ne_true]
    exact ⟨g, s1, Sh1, ok.ext e1, h⟩
end
end FR
/-! FrSnd4: displays, places, slices, built-ins, isinstance. -/
namespace FR
open PySem PySem.Spec PyProof.Rows L2
section
variable {Z : Gd} {W : WX} {H0 : Ent} {X : Cx} {pos : Pos} {a b c e : Expr} {es : List Expr} {ea eb ec : G → S → EV D} {el : G → S → EV (List D)}

/-! ### lists of expressions, displays -/
def notStar : Expr → Bool
  | .Starred _ _ => false
  | _ => true
theorem star1 (h : notStar e = true) (env : Env) : starEach (e :: es) env = (false, eval e env) :: starEach es env := by
  cases e <;> first | rfl | cases h
theorem sNil : PA X [] (tA Z W H0 fun _ s => some (.ok [], s)) := paW pa_nil fun σ H Q ⟨g, s, Sh, ok, h⟩ => EvX.here h ok.sub ok.town .nil
theorem sCons (hs : notStar e = true) (ha : PE X e (tV Z W H0 ea)) (hb : PA X es (tA Z W H0 el)) : PA X (e :: es) (tA Z W H0 fun g s => rb (ea g s) fun d s => rb (el g s) fun ds s => some (.ok (d :: ds), s)) :=
  paW (pa_cons ha hb (star1 hs _)) fun σ H Q ⟨g, s, Sh, ok, h⟩ => ⟨g, s, Sh, ok, EvX.bind h fun x s1 v H1 Sh1 e1 q1 h => ⟨g, s1, Sh1, ok.ext e1, EvX.bind h fun ys s2 u H2 Sh2 e2 q2 h =>
    EvX.here h e2.sub e2.town (.cons (q1.mono e2.shs) q2)⟩⟩
theorem sTup {k : Nat} (h : PA X es (tA Z W H0 el)) : PE X (.Tuple es k pos) (tV Z W H0 fun g s => rb (el g s) fun ds s => if ds.length ≤ SZ then some (.ok (.tup ds), s) else none) :=
  peW (pe_tup h) fun σ H Q ⟨g, s, Sh, ok, h⟩ => ⟨g, s, Sh, ok, EvX.bind h fun ds s1 vs H1 Sh1 e1 q1 h => by
    split at h
    · rename_i hl
      exact ⟨by rw [← q1.length]; exact szLine hl, fun p hp => EvX.newT h e1.sub e1.town q1 hp⟩
    · exact h.elim⟩

/-! ### a list that is new -/
section
variable (Z : Gd) (W : WX) (H0 : Ent)
/-- the answer is a new list, not yet shared -/
def EvF (o : EV D) (σ : L2.St) (H Sh : Hp) (Q : VK) : Prop := match o with
  | some (.ok (.lst ds), s) => ∀ (p : Addr) (vs : List V) (H' Sh' : Hp), Ext Z H Sh H' Sh' s → H p = none → H' p = some (.lst vs) → Sh' p = none → RepL Z Sh' ds vs → Q (.ref p) H'
  | some (.exn c, s) => ∀ (H' Sh' : Hp), Ext Z H Sh H' Sh' s → W (.ref (Z.cA c)) none σ H'
  | _ => False
def tF (ev : G → S → EV D) : TE := fun σ H Q => ∃ (g : G) (s : S) (Sh : Hp), Ok Z H0 σ g H Sh s ∧ EvF Z W (ev g s) σ H Sh Q
end
/-- the answers are lists -/
def isL (ev : G → S → EV D) : Prop := ∀ g s d s', ev g s = some (.ok d, s') → ∃ ds, d = .lst ds
theorem tF_of {ev : G → S → EV D} (hl : isL ev) {σ : L2.St} {H : Hp} {Q : VK} (h : tV Z W H0 ev σ H Q) : tF Z W H0 ev σ H Q := by
  obtain ⟨g, s, Sh, ok, h⟩ := h
  exact ⟨g, s, Sh, ok, by
    unfold EvF
    cases q : ev g s with
    | none =>
      rw [q] at h
      exact h
    | some p =>
      rw [q] at h
      obtain ⟨r, s1⟩ := p
      cases r with
      | exn c => exact h
      | ok d =>
        obtain ⟨ds, rfl⟩ := hl g s d s1 q
        intro p vs H' Sh' e hp hv hs r
        refine h (.ref p) H' (upd Sh' p (.lst vs)) ⟨e.frame, e.shs.trans (same_fresh hs), fun b x y => ?_, ?_, fun b x y => ?_⟩ (.lst upd_same (r.mono (same_fresh hs)))
        · by_cases hb : b = p
          · subst hb
            rw [upd_same] at y
            cases y
            exact hv
          · rw [upd_ne hb] at y
            exact e.sub b x y
        · have t := e.town
          unfold TownOk at t ⊢
          split at t
          · trivial
          · rename_i x a n e1
            have hne : a ≠ p := fun z => by
              subst z
              obtain ⟨_, _, _, h1⟩ := ok.town.there e1
              rw [hp] at h1
              cases h1
            rw [upd_ne hne]
            exact t
          · exact t
        · by_cases hb : b = p
          · subst hb
            exact .inr hp
          · rw [upd_ne hb] at y
            exact e.new b x y⟩
theorem sOwn {ev : G → S → EV D} (hl : isL ev) (h : PE X e (tF Z W H0 ev)) : PE X e (tV Z W H0 ev) := peW h fun σ H Q h => tF_of hl h
theorem EvF.new {σ : L2.St} {H Sh H1 Sh1 : Hp} {s : S} {ds : List D} {vs : List V} {Q : VK} {p : Addr} (h : EvF Z W (some (.ok (.lst ds), s)) σ H Sh Q) (e : Ext Z H Sh H1 Sh1 s) (nT : H p = none) (r : RepL Z Sh1 ds vs) (hp : H1 p = none) : Q (.ref p) (upd H1 p (.lst vs)) :=
  h p vs _ Sh1 (e.trans (Ext.allocH e.sub e.town hp _)) nT upd_same (same_none e.sub hp) r
theorem Ext.nofree {H Sh H1 Sh1 : Hp} {s s0 : S} (e : Ext Z H Sh H1 Sh1 s) (t : TownOk Z H Sh s0) {p : Addr} (hp : H1 p = none) : H p = none := by
  rcases e.gone hp with h | h
  · exact h
  · obtain ⟨n, _, _, h2⟩ := e.town.there h.symm
    rw [hp] at h2
    cases h2
theorem EvF.bind {α β : Type} {rel : Hp → α → β → Prop} {o : EV α} {f : α → S → EV D} {σ : L2.St} {H Sh : Hp} {Q : VK} {Q' : β → Hp → Prop} (h : EvF Z W (rb o f) σ H Sh Q)
    (k : ∀ a s' v H' Sh', Ext Z H Sh H' Sh' s' → rel Sh' a v → EvF Z W (f a s') σ H Sh Q → Q' v H') : EvX Z W rel o σ H Sh Q' := by
  unfold EvX
  cases o with
  | none => exact h
  | some p =>
    obtain ⟨r, s1⟩ := p
    cases r with
    | exn c => exact h
    | ok a => exact fun v H' Sh' e r => k a s1 v H' Sh' e r h
theorem fLst (h : PA X es (tA Z W H0 el)) : PE X (.List es pos) (tF Z W H0 fun g s => rb (el g s) fun ds s => if ds.length ≤ SZ then some (.ok (.lst ds), s) else none) :=
  peW (pe_lst h) fun σ H Q ⟨g, s, Sh, ok, h⟩ => ⟨g, s, Sh, ok, EvF.bind h fun ds s1 vs H1 Sh1 e1 q1 h => by
    split at h
    · rename_i hl
      exact ⟨by rw [← q1.length]; exact szLine hl, fun p hp => EvF.new h e1 (e1.nofree ok.town hp) q1 hp⟩
    · exact h.elim⟩
theorem isL_bind {α : Type} {o : G → S → EV α} {f : G → α → S → EV D} (h : ∀ g a s d s', f g a s = some (.ok d, s') → ∃ ds, d = .lst ds) : isL fun g s => rb (o g s) (f g) := fun g s d s' e => by
  change rb (o g s) (f g) = _ at e
  cases q : o g s with
  | none =>
    rw [q] at e
    cases e
  | some p =>
    rw [q] at e
    obtain ⟨r, s1⟩ := p
    cases r with
    | exn c => cases e
    | ok a => exact h g a s1 d s' e
theorem sLst (h : PA X es (tA Z W H0 el)) : PE X (.List es pos) (tV Z W H0 fun g s => rb (el g s) fun ds s => if ds.length ≤ SZ then some (.ok (.lst ds), s) else none) :=
  sOwn (isL_bind (f := fun _ ds s => if ds.length ≤ SZ then some (.ok (.lst ds), s) else none) fun g ds s d s' e => by
    split at e
    · cases e
      exact ⟨_, rfl⟩
    · cases e) (fLst h)

/-! ### places -/
theorem atL_eq {α : Type} (xs : List α) (i : Int) : atL xs i = L2.atI xs i := by
  unfold atL L2.atI L2.ixN
  split
  · split
    · rfl
    · rename_i h1 h2
      rw [List.getElem?_eq_none_iff.mpr (by omega)]
      rfl
  · split <;> rfl
theorem RepL.at {h : Hp} {ds : List D} {vs : List V} {i : Int} {d : D} (r : RepL Z h ds vs) (e : atL ds i = some d) : ∃ v, L2.atI vs i = some v ∧ Rep Z h d v := by
  rw [atL_eq] at e
  unfold L2.atI at e ⊢
  rw [← r.length]
  obtain ⟨j, e1, e2⟩ := Option.bind_eq_some_iff.mp e
  obtain ⟨v, e3, q⟩ := r.get e2
  exact ⟨v, by rw [e1]; exact e3, q⟩
def notSlice : Expr → Bool
  | .Slice _ _ _ _ => false
  | _ => true
theorem plainIx (h : notSlice b = true) : PlainIx b := fun o i => by
  cases b <;> first | rfl | cases h
theorem rd_idx : RD Z W (fun x y H Q => rIx Z.K x y H Q ∨ rIxK x y H Q) idxD := fun x y d1 d2 σ H Sh s Q sub t r1 r2 h0 => by
  obtain ⟨d, e, h1⟩ := h0.rp
  unfold idxD at e
  split at e
  · cases r1 with
    | lst x1 y1 =>
      cases r2
      obtain ⟨v, e1, q⟩ := y1.at e
      exact .inl (.inl ⟨_, _, _, _, rfl, rfl, SqL.of (sub _ _ x1), e1, h1.here sub t q⟩)
  · cases r1 with
    | tup x1 y1 =>
      cases r2
      obtain ⟨v, e1, q⟩ := y1.at e
      exact .inl (.inr (.inl ⟨_, _, _, _, rfl, rfl, seqT sub x1, e1, h1.here sub t q⟩))
  · cases r1 with
    | scr x1 =>
      cases r2
      obtain ⟨j, e1, rfl⟩ := Option.map_eq_some_iff.mp e
      rename_i ns i _
      refine .inl (.inl ⟨_, _, _, .int j, rfl, rfl, sub.seq x1, ?_, h1.here sub t (.int j)⟩)
      rw [atL_eq] at e1
      unfold L2.atI at e1 ⊢
      obtain ⟨k, e2, e3⟩ := Option.bind_eq_some_iff.mp e1
      rw [List.length_map, e2]
      show (ns.map V.int)[k]? = some (V.int j)
      rw [List.getElem?_map, e3]
      rfl
  · cases r1 with
    | dct x1 y1 =>
      cases r2
      rcases y1.val (.inl _) with ⟨n1, _⟩ | ⟨d', v, n1, n2, r⟩
      · rw [n1] at e
        cases e
      · rw [n1] at e
        cases e
        exact .inr ⟨_, v, rfl, .inl ⟨_, .inl _, .inr ⟨_, sub _ _ x1⟩, rfl, n2.symm⟩, h1.here sub t r⟩
  · cases r1 with
    | dct x1 y1 =>
      cases r2
      rcases y1.val (.inr _) with ⟨n1, _⟩ | ⟨d', v, n1, n2, r⟩
      · rw [n1] at e
        cases e
      · rw [n1] at e
        cases e
        exact .inr ⟨_, v, rfl, .inl ⟨_, .inr _, .inr ⟨_, sub _ _ x1⟩, rfl, n2.symm⟩, h1.here sub t r⟩
  · cases e
theorem sIdx (hk : X.K = Z.K) (hu : X.A.units + 65 < cLine) (hs : notSlice b = true) (ha : PE X a (tV Z W H0 ea)) (hb : PE X b (tV Z W H0 eb)) :
    PE X (.Subscript a b pos) (tV Z W H0 fun g s => rb (ea g s) fun x s => rb (eb g s) fun y s => rp (idxD x y) s) :=
  sOp (by rw [hk]; exact rd_idx) (fun _ _ _ h => h) (pe_ix (ix_seq.or (ix_dictK (by omega))) ha hb (plainIx hs))

/-! ### slices -/
theorem clip_eq (n d : Nat) (o : Option Int) : clip n d o = HT.sIx n d o := by
  cases o <;> rfl
theorem RepL.cut {h : Hp} {ds : List D} {vs : List V} (lo hi : Option Int) (r : RepL Z h ds vs) : RepL Z h (cutL ds lo hi) (cutV vs lo hi) := by
  unfold cutL cutV
  rw [clip_eq, clip_eq, r.length]
  exact (r.drop _).take _
abbrev tO (Z : Gd) (W : WX) (H0 : Ent) (ev : G → S → EV (Option Int)) : TO := tX Z W H0 (fun _ a b => a = b) ev
theorem poW {X : Cx} {e : Option Expr} {t t' : TO} (h : PO X e t) (w : ∀ σ H Q, t' σ H Q → t σ H Q) : PO X e t' := ⟨fun pins s σ H Q I q => h.run pins s σ H Q I (w σ H Q q)⟩
theorem sP0 : PO X none (tO Z W H0 fun _ s => some (.ok none, s)) := poW po_none fun σ H Q ⟨g, s, Sh, ok, h⟩ => EvX.here h ok.sub ok.town rfl
theorem sP1 (h : PE X e (tV Z W H0 ea)) : PO X (some e) (tO Z W H0 fun g s => rb (ea g s) fun d s => rp (partD d) s) := poW (po_some h) fun σ H Q ⟨g, s, Sh, ok, h⟩ => ⟨g, s, Sh, ok, EvX.bind h fun d s1 v H1 Sh1 e1 q1 h => by
  cases q1 with
  | int i => exact ⟨i, rfl, EvX.here h e1.sub e1.town rfl⟩
  | _ => exact h.elim⟩
theorem rd_slcT {x : V} {d1 d : D} {lo hi : Option Int} {σ : L2.St} {H Sh : Hp} {s : S} {Q : VK} (sub : Same Sh H) (t : TownOk Z H Sh s) (r1 : Rep Z Sh d1 x) (h0 : EvX Z W (Rep Z) (rp (slcD d1 lo hi) s) σ H Sh Q) :
    rSlL Z.K x lo hi H Q ∨ rSlA Z.K x lo hi H Q := by
  obtain ⟨d, e, h1⟩ := h0.rp
  unfold slcD at e
  split at e
  · cases r1 with
    | lst x1 y1 =>
      cases e
      exact .inl ⟨_, _, rfl, SqL.of (sub _ _ x1), fun p hp => h1.newL sub t (y1.cut lo hi) hp⟩
  · cases r1 with
    | tup x1 y1 =>
      cases e
      refine .inr ⟨_, _, rfl, seqT sub x1, fun hz => ?_, fun _ p hp => h1.newT sub t (y1.cut lo hi) hp⟩
      refine h1.here sub t (.tup x1 ?_)
      have y2 := y1.cut lo hi
      unfold cutV at y2
      rw [hz.1, hz.2, List.drop_zero, Nat.sub_zero, List.take_length] at y2
      exact y2
  · cases e
theorem sSlc {lo hi : Option Expr} {el eh : G → S → EV (Option Int)} {p2 : Pos} (hk : X.K = Z.K) (ha : PE X a (tV Z W H0 ea)) (hl : PO X lo (tO Z W H0 el)) (hh : PO X hi (tO Z W H0 eh)) :
    PE X (.Subscript a (.Slice lo hi none p2) pos) (tV Z W H0 fun g s => rb (ea g s) fun x s => rb (el g s) fun l s => rb (eh g s) fun h s => rp (slcD x l h) s) := by
  refine peW (pe_slice (sl_list.or sl_tupA) ha hl hh) fun σ H Q ⟨g, s, Sh, ok, h⟩ => ⟨g, s, Sh, ok, EvX.bind h fun x s1 v H1 Sh1 e1 q1 h => ⟨g, s1, Sh1, ok.ext e1, EvX.bind h fun l s2 l' H2 Sh2 e2 q2 h =>
    ⟨g, s2, Sh2, (ok.ext e1).ext e2, EvX.bind h fun u s3 u' H3 Sh3 e3 q3 h => ?_⟩⟩⟩
  subst q2 q3
  rw [hk]
  exact rd_slcT (d := x) e3.sub e3.town ((q1.mono e2.shs).mono e3.shs) h
theorem sRev {k : Nat} {p1 p2 p3 : Pos} (hk : X.K = Z.K) (ha : PE X a (tV Z W H0 ea)) :
    PE X (.Subscript a (.Slice none none (some (.UnaryOp .USub (.Constant (.int 1) k p1) p2)) p3) pos) (tV Z W H0 fun g s => rb (ea g s) fun x s => rp (revD x) s) := by
  refine peW (pe_revL ha) fun σ H Q ⟨g, s, Sh, ok, h⟩ => ⟨g, s, Sh, ok, EvX.bind h fun x s1 v H1 Sh1 e1 q1 h => ?_⟩
  rw [hk]
  obtain ⟨d, e, h1⟩ := h.rp
  cases q1 with
  | lst x1 y1 =>
    cases e
    exact ⟨_, _, rfl, SqL.of (e1.sub _ _ x1), fun p hp => h1.newL e1.sub e1.town y1.rev hp⟩
  | _ => cases e
theorem sNeg (ha : PE X a (tV Z W H0 ea)) : PE X (.UnaryOp .USub a pos) (tV Z W H0 fun g s => rb (ea g s) fun x s => rp (match x with | .int i => some (.int (-i)) | _ => none) s) := by
  refine peW (pe_un un_neg ha) fun σ H Q ⟨g, s, Sh, ok, h⟩ => ⟨g, s, Sh, ok, EvX.bind h fun x s1 v H1 Sh1 e1 q1 h => ?_⟩
  obtain ⟨d, e, h1⟩ := h.rp
  cases q1 with
  | int i =>
    cases e
    exact ⟨i, rfl, h1.here e1.sub e1.town (.int _)⟩
  | _ => cases e

/-! ### built-ins -/
/-- a rule of a call does what a function of data says -/
def RC (Z : Gd) (W : WX) (r : List V → Hp → VK → Prop) (f : List D → S → Option D) : Prop := ∀ (vs : List V) (ds : List D) (σ : L2.St) (H Sh : Hp) (s : S) (Q : VK), Same Sh H → TownOk Z H Sh s → RepL Z Sh ds vs →
  EvX Z W (Rep Z) (rp (f ds s) s) σ H Sh Q → r vs H Q
theorem sCB {r : List V → Hp → VK → Prop} {f : List D → S → Option D} (hr : RC Z W r f) (h : PE X e (tCB r (tA Z W H0 el))) : PE X e (tV Z W H0 fun g s => rb (el g s) fun ds s => rp (f ds s) s) :=
  peW h fun σ H Q ⟨g, s, Sh, ok, h⟩ => ⟨g, s, Sh, ok, EvX.bind h fun ds s1 vs H1 Sh1 e1 q1 h => hr vs ds σ H1 Sh1 s1 Q e1.sub e1.town q1 h⟩
theorem rep1 {Sh : Hp} {ds : List D} {d : D} {vs : List V} (e : ds = [d]) (r : RepL Z Sh ds vs) : ∃ v, vs = [v] ∧ Rep Z Sh d v := by
  subst e
  cases r with
  | cons x y =>
    cases y
    exact ⟨_, rfl, x⟩
theorem CallR.or {f : Value} {r r' : List V → Hp → VK → Prop} (h : CallR X f r) (h' : CallR X f r') : CallR X f (fun x H Q => r x H Q ∨ r' x H Q) := by
  intro pins s σ H xs us Q I rr q
  rcases q with q | q
  · exact h pins s σ H xs us Q I rr q
  · exact h' pins s σ H xs us Q I rr q
theorem rc1 {r : List V → Hp → VK → Prop} {f : D → S → Option D} (h : ∀ (v : V) (d1 d : D) (σ : L2.St) (H Sh : Hp) (s : S) (Q : VK), Same Sh H → TownOk Z H Sh s → Rep Z Sh d1 v → f d1 s = some d → EvX Z W (Rep Z) (some (.ok d, s)) σ H Sh Q → r [v] H Q) : RC Z W r (one1 f) :=
  fun vs ds σ H Sh s Q sub t r0 h0 => by
    obtain ⟨d, e, h1⟩ := h0.rp
    unfold one1 at e
    split at e
    · cases r0 with
      | cons x y =>
        cases y
        exact h _ _ d σ H Sh s Q sub t x e h1
    · cases e
theorem rc2 {r : List V → Hp → VK → Prop} {f : D → D → S → Option D} (h : ∀ (v u : V) (d1 d2 d : D) (σ : L2.St) (H Sh : Hp) (s : S) (Q : VK), Same Sh H → TownOk Z H Sh s → Rep Z Sh d1 v → Rep Z Sh d2 u → f d1 d2 s = some d → EvX Z W (Rep Z) (some (.ok d, s)) σ H Sh Q → r [v, u] H Q) : RC Z W r (two2 f) :=
  fun vs ds σ H Sh s Q sub t r0 h0 => by
    obtain ⟨d, e, h1⟩ := h0.rp
    unfold two2 at e
    split at e
    · cases r0 with
      | cons x y =>
        cases y with
        | cons x2 y2 =>
          cases y2
          exact h _ _ _ _ d σ H Sh s Q sub t x x2 e h1
    · cases e
abbrev rLen1 (K : PySem.W.Frag) : List V → Hp → VK → Prop := fun xs H Q => ∃ x n, xs = [x] ∧ LenV K x H n ∧ Q (.int n) H
abbrev rLenD1 : List V → Hp → VK → Prop := rLenK
theorem RepK.length {h : Hp} : ∀ {ds : List (Key × D)} {vs : List (Key × V)}, RepK Z h ds vs → ds.length = vs.length
  | _, _, .nil => rfl
  | _, _, .cons _ y => congrArg (· + 1) y.length
theorem rc_len : RC Z W (fun xs H Q => rLen1 Z.K xs H Q ∨ rLenD1 xs H Q) (bifD .len) := rc1 fun v d1 d σ H Sh s Q sub t r e h => by
  cases r with
  | str x =>
    change (if x.length ≤ 100000 then some (D.int x.length) else none) = some d at e
    split at e
    · rename_i hl
      cases e
      exact .inl ⟨_, _, rfl, ⟨hkLine hl, rfl⟩, h.here sub t (.int _)⟩
    · cases e
  | tup x y =>
    cases e
    refine .inl ⟨_, _, rfl, .inr ⟨_, seqT sub x, y.length⟩, h.here sub t (.int _)⟩
  | lst x y =>
    cases e
    exact .inl ⟨_, _, rfl, .inl ⟨_, SqL.of (sub _ _ x), y.length⟩, h.here sub t (.int _)⟩
  | dct x y =>
    cases e
    refine .inr ⟨_, _, rfl, .inr ⟨_, sub _ _ x⟩, ?_⟩
    rw [← y.length]
    exact h.here sub t (.int _)
  | scr x =>
    cases e
    refine .inl ⟨_, _, rfl, .inl ⟨_, sub.seq x, (List.length_map _).symm⟩, h.here sub t (.int _)⟩
  | town x =>
    obtain ⟨n, rfl, h1, h2⟩ := t.there x
    cases e
    exact .inl ⟨_, _, rfl, .inl ⟨_, SqL.of h2, List.length_replicate.symm⟩, h.here sub t (.int _)⟩
  | _ => cases s <;> cases e
theorem rc_abs : RC Z W (fun xs H Q => ∃ i, xs = [.int i] ∧ Q (.int (if i < 0 then -i else i)) H) (bifD .abs) := rc1 fun v d1 d σ H Sh s Q sub t r e h => by
  cases r with
  | int i =>
    cases e
    exact ⟨i, rfl, h.here sub t (.int _)⟩
  | _ => cases e
theorem rc_sum : RC Z W (rSum Z.K) (bifD .sum) := rc1 fun v d1 d σ H Sh s Q sub t r e h => by
  cases r with
  | lst x y =>
    obtain ⟨ns, e1, rfl⟩ := Option.map_eq_some_iff.mp e
    refine ⟨_, ns, rfl, ?_, h.here sub t (.int _)⟩
    rw [← y.ints e1]
    exact SqL.of (sub _ _ x)
  | _ => cases e
theorem rc_all : RC Z W (rAll Z.K) (bifD .all) := rc1 fun v d1 d σ H Sh s Q sub t r e h => by
  cases r with
  | lst x y =>
    obtain ⟨ns, e1, rfl⟩ := Option.map_eq_some_iff.mp e
    refine ⟨_, ns, rfl, ?_, h.here sub t (.bl _)⟩
    rw [← y.bools e1]
    exact SqL.of (sub _ _ x)
  | _ => cases e
theorem rc_any : RC Z W (rAny Z.K) (bifD .any) := rc1 fun v d1 d σ H Sh s Q sub t r e h => by
  cases r with
  | lst x y =>
    obtain ⟨ns, e1, rfl⟩ := Option.map_eq_some_iff.mp e
    refine ⟨_, ns, rfl, ?_, h.here sub t (.bl _)⟩
    rw [← y.bools e1]
    exact SqL.of (sub _ _ x)
  | _ => cases e
theorem rc_int : RC Z W (fun xs H Q => (∃ i, xs = [.int i] ∧ Q (.int i) H) ∨ ∃ k, xs = [.bl k] ∧ Q (.int (if k then 1 else 0)) H) (bifD .int) := rc1 fun v d1 d σ H Sh s Q sub t r e h => by
  cases r with
  | int i =>
    cases e
    exact .inl ⟨i, rfl, h.here sub t (.int _)⟩
  | bl k =>
    cases e
    exact .inr ⟨k, rfl, h.here sub t (.int _)⟩
  | _ => cases e
abbrev rTupleOf (K : PySem.W.Frag) : List V → Hp → VK → Prop := fun xs H Q => ∃ p ys, xs = [.ref p] ∧ ((SqL K H p ys ∧ ∀ l, H l = none → Q (.ref l) (upd H l (.tup ys))) ∨ (SqT K H p ys ∧ Q (.ref p) H))
theorem rc_tuple : RC Z W (rTupleOf Z.K) (bifD .tuple) := rc1 fun v d1 d σ H Sh s Q sub t r e h => by
  cases r with
  | lst x y =>
    cases e
    exact ⟨_, _, rfl, .inl ⟨SqL.of (sub _ _ x), fun p hp => h.newT sub t y hp⟩⟩
  | tup x y =>
    cases e
    exact ⟨_, _, rfl, .inr ⟨seqT sub x, h.here sub t (.tup x y)⟩⟩
  | _ => cases e
abbrev rListOf (K : PySem.W.Frag) : List V → Hp → VK → Prop := fun xs H Q => ∃ p ys, xs = [.ref p] ∧ (SqL K H p ys ∨ SqT K H p ys) ∧ ∀ l, H l = none → Q (.ref l) (upd H l (.lst ys))
theorem rc_list : RC Z W (rListOf Z.K) (bifD .list) := rc1 fun v d1 d σ H Sh s Q sub t r e h => by
  cases r with
  | lst x y =>
    cases e
    exact ⟨_, _, rfl, .inl (SqL.of (sub _ _ x)), fun p hp => h.newL sub t y hp⟩
  | tup x y =>
    cases e
    exact ⟨_, _, rfl, .inr (seqT sub x), fun p hp => h.newL sub t y hp⟩
  | _ => cases e
theorem RepL.strs : ∀ {ds : List D} {vs : List V} {ks : List Str} {h : Hp}, RepL Z h ds vs → strsD ds = some ks → vs = ks.map V.str
  | _, _, _, _, .nil, e => by
    rw [strsD] at e
    cases e
    rfl
  | _, _, ks, _, .cons x y, e => by
    cases x with
    | str i =>
      rw [strsD] at e
      obtain ⟨ms, e1, rfl⟩ := Option.map_eq_some_iff.mp e
      rw [y.strs e1]
      rfl
    | _ => cases e
theorem repL_strs {h : Hp} : ∀ ks : List Str, RepL Z h (ks.map D.str) (ks.map V.str)
  | [] => .nil
  | k :: ks => .cons (.str k) (repL_strs ks)
theorem repL_ints {h : Hp} : ∀ ks : List Int, RepL Z h (ks.map D.int) (ks.map V.int)
  | [] => .nil
  | k :: ks => .cons (.int k) (repL_ints ks)
theorem leS_cps {x p : Str} (h : (!ltCps x.cps.toList p.cps.toList) = true) : leS p x = true := by
  unfold leS
  rw [gt_meets]
  exact h
theorem rising_srt : ∀ {l : List Str} {p : Str}, risingS p l = true → SrtS (p :: l)
  | [], p, _ => List.pairwise_singleton _ _
  | x :: r, p, h => by
    rw [risingS, Bool.and_eq_true] at h
    have k := rising_srt h.2
    refine List.pairwise_cons.mpr ⟨fun z hz => ?_, k⟩
    rcases List.mem_cons.mp hz with rfl | hz
    · exact leS_cps h.1
    · exact leS_trans (leS_cps h.1) ((List.pairwise_cons.mp k).1 z hz)
theorem sortedS_srt {l : List Str} (h : sortedS l = true) : SrtS l := by
  cases l with
  | nil => exact List.Pairwise.nil
  | cons x r => exact rising_srt h
theorem sortS_uniq {ys ks : List Str} (p : ys.Perm ks) (h : sortedS ys = true) : ys = sortS ks := sort_of p (sortedS_srt h)
theorem sortI_uniq {ys ks : List Int} (p : ys.Perm ks) (h : ys.Pairwise (· ≤ ·)) : ys = sortI ks := sortI_of p h
abbrev rSortedKD : List V → Hp → VK → Prop := fun xs H Q => ∃ (a : Addr) (kvs : List (Key × V)) (ks : List Str), xs = [.ref a] ∧ Rd H a (.dK kvs) ∧ kvs.map (·.1) = ks.map Sum.inr ∧ ks.length < 64 ∧ ∀ ys p, ys.Perm ks → sortedS ys = true → H p = none → Q (.ref p) (upd H p (.lst (ys.map V.str)))
theorem RepK.keyS {h : Hp} : ∀ {ds : List (Key × D)} {vs : List (Key × V)} {ks : List Str}, RepK Z h ds vs → strsD (ds.map fun kv => Ky.d kv.1) = some ks → vs.map (·.1) = ks.map Sum.inr
  | _, _, _, .nil, e => by
    cases e
    rfl
  | _, _, _, .cons (k := k) x y, e => by
    cases k with
    | inl i => cases e
    | inr z =>
      rw [List.map_cons] at e
      obtain ⟨ms, e1, rfl⟩ := Option.map_eq_some_iff.mp (show (strsD _).map _ = some _ from e)
      rw [List.map_cons, List.map_cons, RepK.keyS y e1]
theorem keySort_eq {kvs : List (Ky × D)} {d : D} (h : keySortD (.dct kvs) = some d) : ∃ ks, strsD (kvs.map fun kv => Ky.d kv.1) = some ks ∧ ks.length < 64 ∧ d = .lst ((sortS ks).map D.str) := by
  obtain ⟨ks, e1, e2⟩ := Option.bind_eq_some_iff.mp (show (strsD _).bind _ = some d from h)
  split at e2
  · rename_i h64
    cases e2
    exact ⟨ks, e1, h64, rfl⟩
  · cases e2
theorem rc_sorted : RC Z W (fun xs H Q => rSortedS Z.K xs H Q ∨ (rSorted Z.K xs H Q ∨ rSortedKD xs H Q)) (bifD .sorted) := rc1 fun v d1 d σ H Sh s Q sub t r e h => by
  cases r with
  | lst x y =>
    change sortedL _ = some d at e
    unfold sortedL at e
    split at e
    · rename_i ks q
      split at e
      · rename_i h64
        cases e
        have hv := y.strs q
        subst hv
        refine .inl ⟨_, ks, rfl, SqL.of (sub _ _ x), h64, fun ys p hp hs np => ?_⟩
        rw [sortS_uniq hp hs]
        exact h.newL sub t (repL_strs _) np
      · cases e
    · split at e
      · rename_i ns q
        split at e
        · rename_i h64
          cases e
          have hv := y.ints q
          subst hv
          refine .inr (.inl ⟨_, ns, rfl, SqL.of (sub _ _ x), h64, fun ys p hp hs np => ?_⟩)
          rw [sortI_uniq hp hs]
          exact h.newL sub t (repL_ints _) np
        · cases e
      · cases e
  | dct x y =>
    obtain ⟨ks, e1, h64, rfl⟩ := keySort_eq (show keySortD _ = some d from e)
    refine .inr (.inr ⟨_, _, ks, rfl, .inr ⟨_, sub _ _ x⟩, y.keyS e1, h64, fun ys p hp hs np => ?_⟩)
    rw [sortS_uniq hp hs]
    exact h.newL sub t (repL_strs _) np
  | _ => cases e
/-! ### dict(..) -/
theorem pairD_eq {d : D} {p : Ky × D} (h : pairD d = some p) : ∃ k v, d = .tup [k, v] ∧ keyD k = some p.1 ∧ v = p.2 := by
  unfold pairD at h
  split at h
  · obtain ⟨k, e, rfl⟩ := Option.map_eq_some_iff.mp h
    exact ⟨_, _, rfl, e, rfl⟩
  · cases h
theorem RepL.pairs {Sh H : Hp} (sub : Same Sh H) : ∀ {ds : List D} {vs : List V} {ps : List (Ky × D)}, RepL Z Sh ds vs → pairsD ds = some ps → ∃ (as : List Addr) (kvs : List (Key × V)), vs = as.map V.ref ∧ Paired (fun p kv => SqT Z.K H p [kV kv.1, kv.2]) as kvs ∧ RepK Z Sh ps kvs
  | _, _, _, .nil, e => by
    rw [pairsD] at e
    cases e
    exact ⟨[], [], rfl, Paired.nil, .nil⟩
  | _, _, _, .cons x y, e => by
    rw [pairsD] at e
    obtain ⟨p, e1, e2⟩ := Option.bind_eq_some_iff.mp e
    obtain ⟨qs, e3, rfl⟩ := Option.map_eq_some_iff.mp e2
    obtain ⟨as, kvs, rfl, pr, rk⟩ := y.pairs sub e3
    obtain ⟨k, v, rfl, kk, rfl⟩ := pairD_eq e1
    cases x with
    | tup x1 y1 =>
      cases y1 with
      | cons a1 b1 =>
        cases b1 with
        | cons a2 b2 =>
          cases b2
          have hk := a1.key kk
          subst hk
          obtain ⟨pk, pv⟩ := p
          exact ⟨_ :: as, (pk, _) :: kvs, rfl, Paired.cons (seqT sub x1) pr, .cons a2 rk⟩
theorem RepK.any {h : Hp} {k : Key} : ∀ {ds : List (Key × D)} {vs : List (Key × V)}, RepK Z h ds vs → (ds.any fun kv => decide (kv.1 = k)) = vs.any fun kv => decide (kv.1 = k)
  | _, _, .nil => rfl
  | _, _, .cons x y => by
    rw [List.any_cons, List.any_cons, RepK.any y]
theorem RepK.app {h : Hp} : ∀ {ds es : List (Key × D)} {vs us : List (Key × V)}, RepK Z h ds vs → RepK Z h es us → RepK Z h (ds ++ es) (vs ++ us)
  | _, _, _, _, .nil, y => y
  | _, _, _, _, .cons a b, y => .cons a (b.app y)
theorem RepK.upd {h : Hp} {k : Key} {d : D} {v : V} (r : Rep Z h d v) : ∀ {ds : List (Key × D)} {vs : List (Key × V)}, RepK Z h ds vs → RepK Z h (ds.map fun kv => if kv.1 = k then (kv.1, d) else kv) (vs.map fun kv => if kv.1 = k then (kv.1, v) else kv)
  | _, _, .nil => .nil
  | _, _, .cons (k := j) x y => by
    rw [List.map_cons, List.map_cons]
    by_cases q : j = k
    · rw [if_pos q, if_pos q]
      exact .cons r (RepK.upd r y)
    · rw [if_neg q, if_neg q]
      exact .cons x (RepK.upd r y)
theorem RepK.put {h : Hp} {k : Key} {d : D} {v : V} {ds : List (Key × D)} {vs : List (Key × V)} (x : RepK Z h ds vs) (r : Rep Z h d v) : RepK Z h (FR.putK ds k d) (L2.putK vs k v) := by
  unfold FR.putK L2.putK
  rw [x.any]
  split
  · exact RepK.upd r x
  · exact x.app (.cons r .nil)
theorem RepK.merge {h : Hp} : ∀ {ps : List (Key × D)} {qs : List (Key × V)} {ds : List (Key × D)} {vs : List (Key × V)}, RepK Z h ds vs → RepK Z h ps qs → RepK Z h (FR.mergeK ds ps) (L2.mergeK vs qs)
  | _, _, _, _, x, .nil => x
  | _, _, ds, vs, x, .cons (k := k) (d := d) (v := v) (ds := ps) (vs := qs) r y => by
    show RepK Z h (FR.mergeK (FR.putK ds k d) ps) (L2.mergeK (L2.putK vs k v) qs)
    exact RepK.merge (x.put r) y
theorem RepK.drop {h : Hp} {k : Key} : ∀ {ds : List (Key × D)} {vs : List (Key × V)}, RepK Z h ds vs → RepK Z h (FR.dropK ds k) (L2.dropK vs k)
  | _, _, .nil => .nil
  | _, _, .cons (k := j) x y => by
    unfold FR.dropK L2.dropK
    rw [List.filter_cons, List.filter_cons]
    by_cases q : j = k
    · have e : decide (j ≠ k) = false := by simp [q]
      rw [if_neg (by rw [e]; exact Bool.false_ne_true), if_neg (by rw [e]; exact Bool.false_ne_true)]
      exact RepK.drop y
    · have e : decide (j ≠ k) = true := by simp [q]
      rw [if_pos e, if_pos e]
      exact .cons x (RepK.drop y)
/-- a new dict, locked at once -/
theorem EvX.newD {σ : L2.St} {H Sh : Hp} {s : S} {ds : List (Key × D)} {vs : List (Key × V)} {Q : VK} {p : Addr} (h : EvX Z W (Rep Z) (some (.ok (.dct ds), s)) σ H Sh Q) (sub : Same Sh H) (t : TownOk Z H Sh s) (r : RepK Z Sh ds vs) (hp : H p = none) :
    lkP Q (.ref p) (upd H p (.dK vs)) := .inr ⟨p, _, upd_same, trivial, fun od => by
  have e : L2.upd (L2.upd H p (.dK vs)) p (.frz od (.dK vs)) = L2.upd H p (.frz od (.dK vs)) := by
    funext b
    by_cases q : b = p
    · subst q
      rw [upd_same, upd_same]
    · rw [upd_ne q, upd_ne q, upd_ne q]
  rw [e]
  exact h (.ref p) _ (L2.upd Sh p (.frz od (.dK vs))) (Ext.alloc sub t hp _) (.dct upd_same (r.mono (same_fresh (same_none sub hp))))⟩
abbrev rDictP (K : PySem.W.Frag) : List V → Hp → VK → Prop := fun xs H Q => ∃ (a : Addr) (ps : List Addr) (kvs : List (Key × V)), xs = [.ref a] ∧ SqL K H a (ps.map V.ref) ∧ Paired (fun p kv => SqT K H p [kV kv.1, kv.2]) ps kvs ∧ ∀ p, H p = none → Q (.ref p) (upd H p (.dK (L2.mergeK [] kvs)))
abbrev rDictD : List V → Hp → VK → Prop := fun xs H Q => ∃ (a : Addr) (kvs : List (Key × V)), xs = [.ref a] ∧ Rd H a (.dK kvs) ∧ ∀ p, H p = none → Q (.ref p) (upd H p (.dK kvs))
theorem rc_dict : RC Z W (fun xs H Q => rDictP Z.K xs H (lkP Q) ∨ rDictD xs H (lkP Q)) (bifD .dict) := rc1 fun v d1 d σ H Sh s Q sub t r e h => by
  cases r with
  | lst x y =>
    obtain ⟨ps, e1, e2⟩ := Option.bind_eq_some_iff.mp (show (pairsD _).bind _ = some d from e)
    split at e2
    · cases e2
      obtain ⟨as, kvs, rfl, pr, rk⟩ := y.pairs sub e1
      exact .inl ⟨_, as, kvs, rfl, SqL.of (sub _ _ x), pr, fun p hp => h.newD sub t (RepK.merge .nil rk) hp⟩
    · cases e2
  | dct x y =>
    cases e
    exact .inr ⟨_, _, rfl, .inr ⟨_, sub _ _ x⟩, fun p hp => h.newD sub t y hp⟩
  | _ => cases e
theorem rc_max2 : RC Z W (fun xs H Q => ∃ i j, xs = [.int i, .int j] ∧ Q (.int (if j > i then j else i)) H) (bifD .max2) := rc2 fun v u d1 d2 d σ H Sh s Q sub t r1 r2 e h => by
  cases r1 with
  | int i =>
    cases r2 with
    | int j =>
      cases e
      exact ⟨i, j, rfl, h.here sub t (.int _)⟩
    | _ => cases e
  | _ => cases e
theorem rc_min2 : RC Z W (fun xs H Q => ∃ i j, xs = [.int i, .int j] ∧ Q (.int (if j < i then j else i)) H) (bifD .min2) := rc2 fun v u d1 d2 d σ H Sh s Q sub t r1 r2 e h => by
  cases r1 with
  | int i =>
    cases r2 with
    | int j =>
      cases e
      exact ⟨i, j, rfl, h.here sub t (.int _)⟩
    | _ => cases e
  | _ => cases e

/-! ### isinstance -/
def tyN : Ty → String
  | .int => "int" | .bool => "bool" | .tuple => "tuple" | .list => "list" | .str => "str" | .dict => "dict" | _ => "ValueError"
def tyD : D → Option String
  | .non => some "NoneType" | .bl _ => some "bool" | .int _ => some "int" | .str _ => some "str" | .tup _ => some "tuple" | .lst _ => some "list" | .dct _ => some "dict" | _ => none
theorem Rep.tyX {H Sh : Hp} {d : D} {v : V} {n : String} (r : Rep Z Sh d v) (sub : Same Sh H) (h : tyD d = some n) : TyX Z.K H v (.type n) := by
  cases r with
  | non => cases h; exact .base .non
  | bl b => cases h; exact .base (.bl b)
  | int b => cases h; exact .base (.int b)
  | str b => cases h; exact .base (.str b)
  | tup x y =>
    cases h
    rcases x with (x | ⟨o, x⟩) | ⟨o, its, n, x, c, _⟩
    · exact .base (.tup (sub _ _ x))
    · exact .fTuple (sub _ _ x)
    · exact .kTuple x c
  | lst x y => cases h; exact .base (.lst (sub _ _ x))
  | dct x y => cases h; exact .fDict (sub _ _ x)
  | _ => cases h
theorem kit_all : ∀ n ∈ ["NoneType", "bool", "int", "str", "tuple", "list", "dict"], ∀ m ∈ ["int", "bool", "tuple", "list", "str", "dict", "ValueError"], kitB n m = some (n == m || (n == "bool" && m == "int")) := by decide +kernel
end
end FR
/-! FrSnd5: slots stored, what is walked, comprehensions. -/
namespace FR
open PySem PySem.Spec PyProof.Rows L2

/-! ### storing -/
def setV : L2.St → List Nat → List V → L2.St
  | σ, i :: is, v :: vs => setV (σ.set i (some v)) is vs
  | σ, _, _ => σ
theorem setV_len : ∀ (is : List Nat) (vs : List V) (σ : L2.St), (setV σ is vs).length = σ.length
  | [], _, _ => rfl
  | _ :: _, [], _ => rfl
  | i :: is, v :: vs, σ => by
    rw [setV, setV_len is vs, List.length_set]
theorem setV_out : ∀ (is : List Nat) (vs : List V) (σ : L2.St) (j : Nat), j ∉ is → (setV σ is vs)[j]? = σ[j]?
  | [], _, _, _, _ => rfl
  | _ :: _, [], _, _, _ => rfl
  | i :: is, v :: vs, σ, j, h => by
    rw [setV, setV_out is vs _ j fun z => h (List.mem_cons_of_mem _ z), List.getElem?_set_ne]
    intro z
    exact h (z ▸ List.mem_cons_self)
theorem setV_ext : ∀ (is : List Nat) (vs : List V) (σ τ : L2.St), is.length = vs.length → σ.length = τ.length → (∀ j, j ∉ is → σ[j]? = τ[j]?) → setV σ is vs = setV τ is vs
  | [], [], σ, τ, _, hl, h => by
    show σ = τ
    exact List.ext_getElem? fun j => h j (by simp)
  | i :: is, v :: vs, σ, τ, hn, hl, h => by
    rw [setV, setV]
    refine setV_ext is vs _ _ (Nat.succ.inj hn) (by rw [List.length_set, List.length_set, hl]) fun j hj => ?_
    by_cases e : j = i
    · subst e
      rw [List.getElem?_set, List.getElem?_set, if_pos rfl, if_pos rfl, hl]
    · rw [List.getElem?_set_ne (Ne.symm e), List.getElem?_set_ne (Ne.symm e)]
      refine h j fun z => ?_
      rcases List.mem_cons.mp z with z | z
      · exact e z
      · exact hj z
  | [], _ :: _, _, _, hn, _, _ => by cases hn
  | _ :: _, [], _, _, hn, _, _ => by cases hn
theorem wipe_out (σ : L2.St) : ∀ (vs : List Nat) (j : Nat), j ∉ vs → (wipe σ vs)[j]? = σ[j]?
  | [], _, _ => rfl
  | v :: vs, j, h => by
    rw [wipe, List.getElem?_set_ne, wipe_out σ vs j fun z => h (List.mem_cons_of_mem _ z)]
    intro z
    exact h (z ▸ List.mem_cons_self)
theorem wipe_in {σ : L2.St} : ∀ (vs : List Nat) (j : Nat), j ∈ vs → j < σ.length → (wipe σ vs)[j]? = some none
  | v :: vs, j, h, hl => by
    rw [wipe]
    by_cases e : v = j
    · subst e
      rw [List.getElem?_set_self (by rw [wipe_length]; exact hl)]
    · rw [List.getElem?_set_ne e]
      rcases List.mem_cons.mp h with z | z
      · exact absurd z.symm e
      · exact wipe_in vs j z hl
theorem wipe_ext {σ τ : L2.St} (vs : List Nat) (hl : σ.length = τ.length) (h : ∀ j, j ∉ vs → σ[j]? = τ[j]?) : wipe σ vs = wipe τ vs := List.ext_getElem? fun j => by
  by_cases hj : j ∈ vs
  · by_cases hlt : j < σ.length
    · rw [wipe_in vs j hj hlt, wipe_in vs j hj (hl ▸ hlt)]
    · rw [List.getElem?_eq_none_iff.mpr (by rw [wipe_length]; omega), List.getElem?_eq_none_iff.mpr (by rw [wipe_length]; omega)]
  · rw [wipe_out σ vs j hj, wipe_out τ vs j hj, h j hj]
theorem setV_wipe {σ : L2.St} {is : List Nat} {vs : List V} (h : is.length = vs.length) : setV (wipe σ is) is vs = setV σ is vs :=
  setV_ext is vs _ _ h (wipe_length _ _) fun j hj => wipe_out σ is j hj
theorem wipe_setV {σ : L2.St} {is : List Nat} {vs : List V} : wipe (setV σ is vs) is = wipe σ is := wipe_ext is (setV_len is vs σ) fun j hj => setV_out is vs σ j hj

section
variable {Z : Gd} {H0 : Ent} {H Sh : Hp} {σ : L2.St} {g : G} {s : S}
theorem Ok.set (k : Ok Z H0 σ g H Sh s) {d : D} {v : V} (r : Rep Z Sh d v) (i : Nat) : Ok Z H0 (σ.set i (some v)) (g.set i (.dat d)) H Sh s where
  ent := k.ent
  len := by rw [List.length_set, List.length_set, k.len]
  slot := fun j x o e1 e2 => by
    by_cases e : j = i
    · subst e
      have hl : j < g.length := by
        have := (List.getElem?_eq_some_iff.mp e1).1
        rwa [List.length_set] at this
      rw [List.getElem?_set_self hl] at e1
      rw [List.getElem?_set_self (by rw [k.len]; exact hl)] at e2
      cases e1
      cases e2
      exact ⟨v, rfl, r⟩
    · rw [List.getElem?_set_ne (Ne.symm e)] at e1 e2
      exact k.slot j x o e1 e2
  dist := fun a b x y o e1 e2 h1 h2 e3 e4 => by
    have na : ∀ {a : Nat} {x : Sl}, (g.set i (Sl.dat d))[a]? = some x → isOwn x = true → a ≠ i := fun {a x} e h z => by
      subst z
      have hl : a < g.length := by
        have := (List.getElem?_eq_some_iff.mp e).1
        rwa [List.length_set] at this
      rw [List.getElem?_set_self hl] at e
      cases e
      cases h
    have n1 := na e1 h1
    have n2 := na e2 h2
    rw [List.getElem?_set_ne (Ne.symm n1)] at e1 e3
    rw [List.getElem?_set_ne (Ne.symm n2)] at e2 e4
    exact k.dist a b x y o e1 e2 h1 h2 e3 e4
theorem Ok.setAll : ∀ (is : List Nat) {ds : List D} {vs : List V} {σ : L2.St} {g g' : G}, Ok Z H0 σ g H Sh s → RepL Z Sh ds vs → setAll g is ds = some g' → is.length = vs.length ∧ Ok Z H0 (setV σ is vs) g' H Sh s
  | [], _, _, σ, g, g', k, .nil, e => by
    cases e
    exact ⟨rfl, k⟩
  | [], _, _, σ, g, g', k, .cons _ _, e => by cases e
  | i :: is, _, _, σ, g, g', k, .nil, e => by cases e
  | i :: is, _, _, σ, g, g', k, .cons x y, e => by
    obtain ⟨h1, h2⟩ := Ok.setAll is (k.set x i) y e
    exact ⟨by rw [List.length_cons, List.length_cons, h1], h2⟩
end

/-! ### targets -/
def tsl : Tgt → List Nat
  | .nm i => [i]
  | .tp is => is
def gSet (K : PySem.W.Frag) : Tgt → TG
  | .nm i => gName i
  | .tp is => fun v σ H Q => ∃ a xs, v = .ref a ∧ (SqT K H a xs ∨ SqL K H a xs) ∧ xs.length = is.length ∧ Q (setV σ is xs) H
section
variable {Z : Gd} {H0 : Ent} {H Sh : Hp} {σ : L2.St} {g : G} {s : S}
/-- what storing into a target asks, from the evaluator's own storing -/
theorem gSet_of {tg : Tgt} {d : D} {v : V} {g' : G} {Q : L2.St → Hp → Prop} (k : Ok Z H0 σ g H Sh s) (r : Rep Z Sh d v) (e : setT g d tg = some g')
    (q : ∀ vs, (tsl tg).length = vs.length → Ok Z H0 (setV σ (tsl tg) vs) g' H Sh s → Q (setV σ (tsl tg) vs) H) : gSet Z.K tg v σ H Q := by
  cases tg with
  | nm i =>
    cases e
    exact q [v] rfl (k.set r i)
  | tp is =>
    cases r with
    | tup x y =>
      obtain ⟨h1, h2⟩ := k.setAll is y e
      exact ⟨_, _, rfl, .inl (seqT k.sub x), h1.symm, q _ h1 h2⟩
    | lst x y =>
      obtain ⟨h1, h2⟩ := k.setAll is y e
      exact ⟨_, _, rfl, .inr (SqL.of (k.sub _ _ x)), h1.symm, q _ h1 h2⟩
    | _ => cases e
/-- .. where the slots were wiped ahead -/
theorem gSet_wiped {tg : Tgt} {d : D} {v : V} {g' : G} {Q : L2.St → Hp → Prop} (k : Ok Z H0 σ g H Sh s) (r : Rep Z Sh d v) (e : setT g d tg = some g')
    (q : ∀ vs, (tsl tg).length = vs.length → Ok Z H0 (setV σ (tsl tg) vs) g' H Sh s → Q (setV σ (tsl tg) vs) H) : gSet Z.K tg v (wipe σ (tsl tg)) H Q := by
  cases tg with
  | nm i =>
    cases e
    have := q [v] rfl (k.set r i)
    show Q ((wipe σ [i]).set i (some v)) H
    have e2 : (wipe σ [i]).set i (some v) = σ.set i (some v) := by
      show (σ.set i none).set i (some v) = _
      rw [List.set_set]
    rw [e2]
    exact this
  | tp is =>
    cases r with
    | tup x y =>
      obtain ⟨h1, h2⟩ := k.setAll is y e
      refine ⟨_, _, rfl, .inl (seqT k.sub x), h1.symm, ?_⟩
      have q2 : Q (setV σ is _) H := q _ h1 h2
      rw [← setV_wipe (σ := σ) h1] at q2
      exact q2
    | lst x y =>
      obtain ⟨h1, h2⟩ := k.setAll is y e
      refine ⟨_, _, rfl, .inr (SqL.of (k.sub _ _ x)), h1.symm, ?_⟩
      have q2 : Q (setV σ is _) H := q _ h1 h2
      rw [← setV_wipe (σ := σ) h1] at q2
      exact q2
    | _ => cases e
end

/-! ### what is walked -/
def Walks (Z : Gd) (J : It) (ds : List D) (Sh : Hp) : Prop := ∀ H : Hp, Same Sh H →
  (∀ (i : Nat) (d : D), ds[i]? = some d → J.go i H ∧ ∀ x H3, J.yld i H x H3 → H3 = H ∧ Rep Z Sh d x) ∧ ∀ i, ds.length ≤ i → J.stop i H
section
variable {Z : Gd} {Sh : Hp}
theorem walks_list {a : Addr} {vs : List V} {ds : List D} (h : Sh a = some (.lst vs)) (r : RepL Z Sh ds vs) : Walks Z (Itl Z.K a) ds Sh := fun H sub => by
  have hq : SqL Z.K H a vs := SqL.of (sub _ _ h)
  refine ⟨fun i d e => ?_, fun i hi => ⟨vs, hq, by rw [← r.length]; exact hi⟩⟩
  obtain ⟨v, e1, q⟩ := r.get e
  refine ⟨⟨vs, v, hq, e1⟩, fun x H3 y => ⟨y.1, ?_⟩⟩
  have e2 := y.2 vs hq
  rw [e1] at e2
  cases e2
  exact q
theorem walks_tup {a : Addr} {vs : List V} {ds : List D} (h : SqT Z.K Sh a vs) (r : RepL Z Sh ds vs) : Walks Z (Itt Z.K a) ds Sh := fun H sub => by
  have hq : SqT Z.K H a vs := seqT sub h
  refine ⟨fun i d e => ?_, fun i hi => ⟨vs, hq, by rw [← r.length]; exact hi⟩⟩
  obtain ⟨v, e1, q⟩ := r.get e
  refine ⟨⟨vs, v, hq, e1⟩, fun x H3 y => ⟨y.1, ?_⟩⟩
  have e2 := y.2 vs hq
  rw [e1] at e2
  cases e2
  exact q
theorem walks_str {x : Str} : Walks Z (Its x) (signsD x) Sh := fun H sub => by
  refine ⟨fun i d e => ?_, fun i hi => ?_⟩
  · unfold signsD at e
    rw [List.getElem?_map] at e
    obtain ⟨c, e1, rfl⟩ := Option.map_eq_some_iff.mp e
    have e2 : x.cps[i]? = some c := by rw [← Array.getElem?_toList]; exact e1
    refine ⟨(Array.getElem?_eq_some_iff.mp e2).1, fun v H3 y => ⟨y.1, ?_⟩⟩
    obtain ⟨c', e3, rfl⟩ := y.2
    rw [e2] at e3
    cases e3
    exact .str _
  · unfold signsD at hi
    rw [List.length_map, Array.length_toList] at hi
    exact hi
theorem RepK.at {h : Hp} : ∀ {ds : List (Key × D)} {vs : List (Key × V)} {i : Nat} {p : Key × D}, RepK Z h ds vs → ds[i]? = some p → ∃ v, vs[i]? = some (p.1, v)
  | _, _, _, _, .nil, e => by simp at e
  | _, _, 0, _, .cons x y, e => by
    cases e
    exact ⟨_, rfl⟩
  | _, _, i + 1, _, .cons x y, e => RepK.at y (i := i) (by simpa using e)
theorem rep_ky {h : Hp} : ∀ k : Key, Rep Z h (Ky.d k) (kV k)
  | .inl i => .int i
  | .inr x => .str x
theorem walks_keys {a : Addr} {o : Obj} {vs : List (Key × V)} {ds : List (Key × D)} (h : Sh a = some (.frz o (.dK vs))) (r : RepK Z Sh ds vs) : Walks Z (Itk a o vs) (ds.map fun kv => Ky.d kv.1) Sh := fun H sub => by
  refine ⟨fun i d e => ?_, fun i hi => ?_⟩
  · rw [List.getElem?_map] at e
    obtain ⟨p, e1, rfl⟩ := Option.map_eq_some_iff.mp e
    obtain ⟨v, e2⟩ := r.at e1
    refine ⟨⟨sub _ _ h, (List.getElem?_eq_some_iff.mp e2).1⟩, fun x H3 y => ⟨y.1, ?_⟩⟩
    obtain ⟨k, v', e3, rfl⟩ := y.2
    rw [e2] at e3
    cases e3
    exact rep_ky _
  · rw [List.length_map] at hi
    refine ⟨sub _ _ h, ?_⟩
    rw [← r.length]
    exact hi
theorem walks_range {lo hi : Int} : Walks Z (Itr lo (hi - lo).toNat) (rangeD lo hi) Sh := fun H sub => by
  refine ⟨fun i d e => ?_, fun i hi => ?_⟩
  · unfold rangeD at e
    rw [List.getElem?_map] at e
    obtain ⟨j, e1, rfl⟩ := Option.map_eq_some_iff.mp e
    obtain ⟨h1, h2⟩ := List.getElem?_eq_some_iff.mp e1
    rw [List.getElem_range] at h2
    subst h2
    rw [List.length_range] at h1
    refine ⟨h1, fun x H3 y => ⟨y.1, ?_⟩⟩
    rw [y.2]
    exact .int _
  · unfold rangeD at hi
    rw [List.length_map, List.length_range] at hi
    exact hi
end

section
variable (Z : Gd) (W : WX) (H0 : Ent)
def EvI (o : EV D) (σ : L2.St) (H Sh : Hp) (R : It → Hp → Prop) : Prop := match o with
  | some (.ok d, s) => ∃ ds, itemsD d = some ds ∧ ∀ (J : It) (H' Sh' : Hp), Ext Z H Sh H' Sh' s → Walks Z J ds Sh' → R J H'
  | some (.exn c, s) => ∀ (H' Sh' : Hp), Ext Z H Sh H' Sh' s → W (.ref (Z.cA c)) none σ H'
  | none => False
def tI (ev : G → S → EV D) : TI := fun σ H R => ∃ (g : G) (s : S) (Sh : Hp), Ok Z H0 σ g H Sh s ∧ EvI Z W (ev g s) σ H Sh R
end
section
variable {Z : Gd} {W : WX} {H0 : Ent} {X : Cx} {pos : Pos} {tg a b c e iter : Expr} {es : List Expr} {ea eb ec : G → S → EV D}
theorem sIter (hk : X.K = Z.K) (h : PE X iter (tV Z W H0 ea)) : PI X tg iter (tI Z W H0 ea) := by
  refine ⟨fun pins s σ H R I q => ?_⟩
  obtain ⟨g, s0, Sh, ok, q⟩ := q
  cases e0 : ea g s0 with
  | none =>
    unfold EvI at q
    rw [e0] at q
    exact q.elim
  | some p =>
    obtain ⟨r, s1⟩ := p
    unfold EvI at q
    rw [e0] at q
    cases r with
    | exn x =>
      refine (pi_list (tg := tg) h).run pins s σ H R I ⟨g, s0, Sh, ok, ?_⟩
      unfold EvX
      rw [e0]
      exact q
    | ok d =>
      obtain ⟨ds, e1, q⟩ := q
      cases d with
      | lst xs =>
        cases e1
        refine (pi_list (tg := tg) h).run pins s σ H R I ⟨g, s0, Sh, ok, ?_⟩
        unfold EvX
        rw [e0]
        intro v H' Sh' x r
        cases r with
        | lst x1 y1 =>
          rw [hk]
          exact ⟨_, rfl, ⟨_, SqL.of (x.sub _ _ x1)⟩, q _ H' Sh' x (walks_list x1 y1)⟩
      | tup xs =>
        cases e1
        refine (pi_tup (tg := tg) h).run pins s σ H R I ⟨g, s0, Sh, ok, ?_⟩
        unfold EvX
        rw [e0]
        intro v H' Sh' x r
        cases r with
        | tup x1 y1 =>
          rw [hk]
          exact ⟨_, rfl, ⟨_, seqT x.sub x1⟩, q _ H' Sh' x (walks_tup x1 y1)⟩
      | str z =>
        change (if z.length ≤ 1000 then some (signsD z) else none) = some ds at e1
        split at e1
        · cases e1
          refine (pi_str (tg := tg) h).run pins s σ H R I ⟨g, s0, Sh, ok, ?_⟩
          unfold EvX
          rw [e0]
          intro v H' Sh' x r
          cases r
          exact ⟨_, rfl, q _ H' Sh' x walks_str⟩
        · cases e1
      | _ => cases e1
def evRng (ea eb : G → S → EV D) : G → S → EV D := fun g s => rb (ea g s) fun x s => rb (eb g s) fun y s => rp ((rngD x y).map D.lst) s
theorem EvI.bind {o : EV D} {f : D → S → EV D} {σ : L2.St} {H Sh : Hp} {R : It → Hp → Prop} {Q : VK} (h : EvI Z W (rb o f) σ H Sh R) (k : ∀ d s' v H' Sh', Ext Z H Sh H' Sh' s' → Rep Z Sh' d v → EvI Z W (f d s') σ H' Sh' R → Q v H') : EvX Z W (Rep Z) o σ H Sh Q := by
  unfold EvX
  cases o with
  | none => exact h
  | some p =>
    obtain ⟨r, s1⟩ := p
    cases r with
    | exn c => exact h
    | ok a =>
      intro v H' Sh' e r
      refine k a s1 v H' Sh' e r ?_
      rw [rb_ok] at h
      unfold EvI at h ⊢
      cases q : f a s1 with
      | none =>
        rw [q] at h
        exact h
      | some p =>
        obtain ⟨r2, s2⟩ := p
        rw [q] at h
        cases r2 with
        | exn c => exact fun H2 Sh2 e2 => h H2 Sh2 (e.trans e2)
        | ok d =>
          obtain ⟨ds, e1, h⟩ := h
          exact ⟨ds, e1, fun J H2 Sh2 e2 r2 => h J H2 Sh2 (e.trans e2) r2⟩
theorem EvI.rp {x y : D} {s : S} {σ : L2.St} {H Sh : Hp} {R : It → Hp → Prop} (h : EvI Z W (rp ((rngD x y).map D.lst) s) σ H Sh R) : ∃ i j : Int, x = .int i ∧ y = .int j ∧ i.natAbs ≤ SZ ∧ j.natAbs ≤ SZ ∧ ∀ (J : It) (H' Sh' : Hp), Ext Z H Sh H' Sh' s → Walks Z J (rangeD i j) Sh' → R J H' := by
  cases q : rngD x y with
  | none =>
    rw [q] at h
    exact h.elim
  | some ds =>
    rw [q] at h
    obtain ⟨ds', e1, h⟩ := h
    cases e1
    unfold rngD at q
    split at q
    · split at q
      · rename_i hl
        cases q
        exact ⟨_, _, rfl, rfl, hl.1, hl.2, h⟩
      · cases q
    · cases q
theorem sz62 {i : Int} (h : i.natAbs ≤ SZ) : -(2 ^ 62) ≤ i ∧ i < 2 ^ 62 := by
  have h2 : (SZ : Int) < 2 ^ 62 := by decide
  omega
theorem sRng2 {p : Pos} (hg : Gl X "range") (hm : X.mg "range" = none) (na : notStar a = true) (nb : notStar b = true) (ha : PE X a (tV Z W H0 ea)) (hb : PE X b (tV Z W H0 eb)) :
    PI X tg (.Call (.Name "range" p) [a, b] [] pos) (tI Z W H0 (evRng ea eb)) := by
  refine ⟨fun pins s σ H R I q => ?_⟩
  refine (pi_range2 (tg := tg) hg hm (pa_cons ha (pa_cons hb pa_nil (star1 nb _)) (star1 na _)) (by rw [star1 na, star1 nb]; rfl) (by rw [star1 nb]; rfl)).run pins s σ H R I ?_
  obtain ⟨g, s0, Sh, ok, q⟩ := q
  refine ⟨g, s0, Sh, ok, EvI.bind q fun x s1 v H1 Sh1 e1 q1 h => ⟨g, s1, Sh1, ok.ext e1, EvI.bind h fun y s2 u H2 Sh2 e2 q2 h => ?_⟩⟩
  obtain ⟨i, j, rfl, rfl, h1, h2, q3⟩ := h.rp
  cases q1
  cases q2
  exact ⟨i, j, rfl, ⟨(sz62 h1).1, (sz62 h1).2, (sz62 h2).1, (sz62 h2).2⟩, q3 _ H2 Sh2 (Ext.refl e2.sub e2.town) walks_range⟩
theorem sRng1 {p : Pos} (hg : Gl X "range") (hm : X.mg "range" = none) (na : notStar a = true) (ha : PE X a (tV Z W H0 ea)) :
    PI X tg (.Call (.Name "range" p) [a] [] pos) (tI Z W H0 (evRng (fun _ s => some (.ok (.int 0), s)) ea)) := by
  refine ⟨fun pins s σ H R I q => ?_⟩
  refine (pi_range1 (tg := tg) hg hm (pa_cons ha pa_nil (star1 na _)) (by rw [star1 na]; rfl)).run pins s σ H R I ?_
  obtain ⟨g, s0, Sh, ok, q⟩ := q
  refine ⟨g, s0, Sh, ok, EvI.bind (o := ea g s0) q fun y s2 u H2 Sh2 e2 q2 h => ?_⟩
  obtain ⟨i, j, h0, rfl, h1, h2, q3⟩ := h.rp
  cases h0
  cases q2
  refine ⟨j, rfl, (sz62 h2).1, (sz62 h2).2, ?_⟩
  have w := q3 (Itr 0 (j - 0).toNat) H2 Sh2 (Ext.refl e2.sub e2.town) walks_range
  rw [Int.sub_zero] at w
  exact w

/-! ### comprehensions -/
/-- what d.keys() holds, walked -/
def evKeys (ea : G → S → EV D) : G → S → EV D := fun g s => rb (ea g s) fun x s => rp ((keysD x).map D.lst) s
theorem sKeys {ap cp : Pos} (he : PE X e (tV Z W H0 ea)) (hb : attributeBase e "keys" X.env (eval e X.env) = eval e X.env) (hl : (ap.endLine == cp.line) = true) : PI X tg (.Call (.Attribute e "keys" ap) [] [] cp) (tI Z W H0 (evKeys ea)) :=
  ⟨fun pins s σ H R I q => by
    obtain ⟨g, s0, Sh, ok, q⟩ := q
    refine (pi_keysM (tg := tg) he hb hl).run pins s σ H R I ⟨g, s0, Sh, ok, EvI.bind q fun d s1 v H' Sh' x r k => ?_⟩
    cases r with
    | dct x1 y1 =>
      obtain ⟨ds, e1, k⟩ := k
      cases e1
      exact ⟨_, _, _, rfl, x.sub _ _ x1, k _ H' Sh' (Ext.refl x.sub x.town) (walks_keys x1 y1)⟩
    | _ => exact k.elim⟩
abbrev W0 : WX := fun _ _ _ _ => False
def evTurn (tg : Tgt) (ti : G → S → EV Bool) (ee : G → S → EV D) (g : G) (d : D) (s : S) : EV (Option D) := match setT g d tg with
  | none => none
  | some g1 => rb (ti g1 s) fun t s => if t then rb (ee g1 s) fun e s => some (.ok (some e), s) else some (.ok none, s)
def evComp (ei : G → S → EV D) (tg : Tgt) (ti : G → S → EV Bool) (ee : G → S → EV D) : G → S → EV D := fun g s =>
  rb (ei g s) fun x s => rb (rp (itemsD x) s) fun ds s => rb (compL (evTurn tg ti ee g) ds s) fun es s => if es.length ≤ SZ then some (.ok (.lst es), s) else none
theorem compL_ok {f : D → S → EV (Option D)} : ∀ {ds : List D} {s : S} {r : R (List D) × S}, compL f ds s = some r → ∃ es s', r = (.ok es, s')
  | [], s, r, h => by
    cases h
    exact ⟨_, _, rfl⟩
  | d :: ds, s, r, h => by
    rw [compL] at h
    split at h
    · exact compL_ok h
    · rename_i e s1 q
      cases q2 : compL f ds s1 with
      | none =>
        rw [q2] at h
        cases h
      | some r2 =>
        obtain ⟨es, s2, rfl⟩ := compL_ok q2
        rw [q2] at h
        cases h
        exact ⟨_, _, rfl⟩
    · cases h
theorem Ext.putD {H1 Sh1 H Sh : Hp} {s s1 : S} {p : Addr} {o : HO} (e : Ext Z H1 Sh1 H Sh s) (t : TownOk Z H1 Sh1 s1) (hp : H1 p = none) (hs : Sh p = none) : Ext Z H1 Sh1 (upd H p o) Sh s where
  frame := fun a x h q => by
    rw [upd_ne (ne_of_none q hp)]
    exact e.frame a x h q
  shs := e.shs
  sub := fun a x q => by
    rw [upd_ne (ne_of_none q hs)]
    exact e.sub a x q
  town := by
    have t2 := e.town
    unfold TownOk at t2 ⊢
    split at t2
    · trivial
    · rename_i x a n e1
      have h : a ≠ p := fun z => by
        subst z
        obtain ⟨_, _, _, h3⟩ := t.there e1
        rw [hp] at h3
        cases h3
      rw [upd_ne h]
      exact t2
    · exact t2
  new := e.new
theorem EvX.of_ok {α β : Type} {W : WX} {rel : Hp → α → β → Prop} {o : EV α} {a : α} {s : S} {σ : L2.St} {H Sh : Hp} {Q : β → Hp → Prop} (e : o = some (.ok a, s)) (h : ∀ v H' Sh', Ext Z H Sh H' Sh' s → rel Sh' a v → Q v H') : EvX Z W rel o σ H Sh Q := by
  rw [e]
  exact h
theorem fComp {tge elt : Expr} {ifs : List Expr} {scope : Scope} {own : List (Str × Nat)} {tgt : Tgt} {ei ee : G → S → EV D} {ti : G → S → EV Bool} (hk : X.K = Z.K) (hi : PI X tge iter (tI Z W H0 ei)) (ho : own.map (·.2) = tsl tgt) :
    ∀ σ H Q, tF Z W H0 (evComp ei tgt ti ee) σ H Q → tLc (tI Z W H0 ei) (gSet Z.K tgt) (tB Z W0 H0 ti) (tV Z W0 H0 ee) (own.map (·.2)) σ H Q := by
  intro σ H Q ⟨g, s, Sh, ok, h⟩
  refine ⟨g, s, Sh, ok, ?_⟩
  unfold evComp at h
  cases q0 : ei g s with
  | none =>
    rw [q0] at h
    exact h.elim
  | some p =>
    obtain ⟨r, s1⟩ := p
    rw [q0] at h
    cases r with
    | exn c => exact h
    | ok x =>
      rw [rb_ok] at h
      cases q1 : itemsD x with
      | none =>
        rw [q1] at h
        exact h.elim
      | some ds =>
        rw [q1, rp_some, rb_ok] at h
        refine ⟨ds, q1, fun J H1 Sh1 e1 wk p hp => ?_⟩
        cases q2 : compL (evTurn tgt ti ee g) ds s1 with
        | none =>
          rw [q2] at h
          exact h.elim
        | some r =>
          obtain ⟨es, sE, rfl⟩ := compL_ok q2
          rw [q2, rb_ok] at h
          split at h
          case isFalse => exact h.elim
          rename_i hsz
          have okT := (ok.ext e1).town
          refine ⟨fun i m H2 => m = ds.length - i ∧ i ≤ ds.length ∧ ∃ (Sh2 : Hp) (s2 : S) (acc : List V) (accd rest : List D), Ext Z H1 Sh1 H2 Sh2 s2 ∧ H2 p = some (.lst acc) ∧ Sh2 p = none ∧ RepL Z Sh2 accd acc ∧
              es = accd ++ rest ∧ compL (evTurn tgt ti ee g) (ds.drop i) s2 = some (.ok rest, sE), ⟨ds.length, by simp, Nat.zero_le _, Sh1, s1, [], [], es, (Ext.refl e1.sub e1.town).putD okT hp (same_none e1.sub hp), upd_same, same_none e1.sub hp, .nil, rfl, q2⟩, ?_⟩
          rintro i m H2 ⟨rfl, hi', Sh2, s2, acc, accd, rest, x2, hD, hSD, rA, eE, cL⟩
          obtain ⟨w1, w2⟩ := wk H2 (x2.shs.trans x2.sub)
          by_cases hlt : i < ds.length
          · obtain ⟨go, yl⟩ := w1 i ds[i] (List.getElem?_eq_getElem hlt)
            refine .inr ⟨go, fun H3 => i + 1 ≤ ds.length ∧ ∃ (Sh2 : Hp) (s2 : S) (acc : List V) (accd rest : List D), Ext Z H1 Sh1 H3 Sh2 s2 ∧ H3 p = some (.lst acc) ∧ Sh2 p = none ∧ RepL Z Sh2 accd acc ∧
              es = accd ++ rest ∧ compL (evTurn tgt ti ee g) (ds.drop (i + 1)) s2 = some (.ok rest, sE), fun H3 h3 => ⟨ds.length - (i + 1), by omega, rfl, h3⟩, fun v H3 hy => ?_⟩
            obtain ⟨rfl, rv⟩ := yl v H3 hy
            rw [List.drop_eq_getElem_cons hlt, compL] at cL
            have ok2 : Ok Z H0 σ g H3 Sh2 s2 := (ok.ext e1).ext x2
            cases q3 : setT g ds[i] tgt with
            | none =>
              rw [evTurn, q3] at cL
              cases cL
            | some g1 =>
              rw [evTurn, q3] at cL
              dsimp only at cL
              rw [ho]
              refine gSet_wiped ok2 (rv.mono x2.shs) q3 fun vs hvs ok3 => ⟨wipe_setV, g1, s2, Sh2, ok3, ?_⟩
              cases q4 : ti g1 s2 with
              | none =>
                rw [q4] at cL
                cases cL
              | some p4 =>
                obtain ⟨r4, s4⟩ := p4
                rw [q4] at cL
                cases r4 with
                | exn c => cases cL
                | ok t =>
                  rw [rb_ok] at cL
                  intro t' H4 Sh4 x4 et
                  subst et
                  have hD4 : H4 p = some (.lst acc) := x4.frame p _ (fun z => by
                    obtain ⟨_, _, _, h3⟩ := okT.there z.symm
                    rw [hp] at h3
                    cases h3) hD
                  have hS4 : Sh4 p = none := by
                    cases q : Sh4 p with
                    | none => rfl
                    | some o =>
                      rcases x4.new p o q with z | z
                      · rw [hSD] at z
                        cases z
                      · rw [hD] at z
                        cases z
                  cases t with
                  | false =>
                    rw [if_neg Bool.false_ne_true]
                    exact ⟨hlt, Sh4, s4, acc, accd, rest, x2.trans x4, hD4, hS4, rA.mono x4.shs, eE, cL⟩
                  | true =>
                    rw [if_pos rfl]
                    refine ⟨g1, s4, Sh4, ok3.ext x4, ?_⟩
                    rw [if_pos rfl] at cL
                    cases q5 : ee g1 s4 with
                    | none =>
                      rw [q5] at cL
                      cases cL
                    | some p5 =>
                      obtain ⟨r5, s5⟩ := p5
                      rw [q5] at cL
                      cases r5 with
                      | exn c => cases cL
                      | ok d5 =>
                        rw [rb_ok] at cL
                        dsimp only at cL
                        intro y H5 Sh5 x5 r5
                        cases q6 : compL (evTurn tgt ti ee g) (ds.drop (i + 1)) s5 with
                        | none =>
                          rw [q6] at cL
                          cases cL
                        | some p6 =>
                          obtain ⟨es6, s6, rfl⟩ := compL_ok q6
                          rw [q6, rb_ok] at cL
                          cases cL
                          have hD5 : H5 p = some (.lst acc) := x5.frame p _ (fun z => by
                            obtain ⟨_, _, _, h3⟩ := okT.there z.symm
                            rw [hp] at h3
                            cases h3) hD4
                          have hS5 : Sh5 p = none := by
                            cases q : Sh5 p with
                            | none => rfl
                            | some o =>
                              rcases x5.new p o q with z | z
                              · rw [hS4] at z
                                cases z
                              · rw [hD4] at z
                                cases z
                          refine ⟨acc, hD5, ?_, hlt, Sh5, s5, acc ++ [y], accd ++ [d5], es6, ((x2.trans x4).trans x5).putD okT hp hS5, upd_same, hS5, ((rA.mono x4.shs).mono x5.shs).snoc r5, ?_, q6⟩
                          · have hl : es.length = accd.length + (es6.length + 1) := by
                              rw [eE, List.length_append, List.length_cons]
                            rw [← rA.length]
                            refine szLt ?_
                            omega
                          · rw [eE, List.append_assoc]
                            rfl
          · have ei : i = ds.length := by omega
            subst ei
            rw [List.drop_length] at cL
            cases cL
            rw [List.append_nil] at eE
            subst eE
            exact .inl ⟨w2 _ (Nat.le_refl _), h p acc H2 Sh2 (e1.trans x2) (e1.nofree ok.town hp) hD hSD rA⟩
end
end FR
/-! FrSnd6: the row's text against the core syntax; the theorem for expressions. -/
namespace FR
open PySem PySem.Spec PyProof.Rows L2

/-! ### the look -/
def Cst.k : Cst → Const
  | .non => .none
  | .bl b => .bool b
  | .int i => .int i
  | .str x => .str x
def visB (sc : Scope) (x : Str) : Bool := match sc.names.lookup x with
  | some .local => true | some .cell => true | some .free => true | _ => false
def locB (sc : Scope) (x : Str) : Bool := match sc.names.lookup x with
  | some .local => true | some .cell => true | _ => false
def gloB (sc : Scope) (x : Str) : Bool := match sc.names.lookup x with
  | some .globalImplicit => true | _ => false
def okN (x : Str) : Bool := !(x == ("__debug__" : Str)) && !(x == ("__classdict__" : Str)) && decide (x ≠ ("__name__" : Str))
def opO : Op → Operator
  | .add => .Add | .sub => .Sub | .mul => .Mult | .fdiv => .FloorDiv | .mod => .Mod | .pow => .Pow
def bfN : Bf → Option Str
  | .len => some "len" | .abs => some "abs" | .sum => some "sum" | .all => some "all" | .any => some "any" | .max2 => some "max" | .min2 => some "min" | .int => some "int" | .tuple => some "tuple" | .list => some "list" | .sorted => some "sorted" | .dict => some "dict"
  | _ => none
def bltNames : List Str := ["len", "abs", "sum", "all", "any", "max", "min", "int", "tuple", "list", "isinstance", "range", "bool", "str", "dict", "ValueError", "set", "sorted"]
def nameIs (N : List Str) (sc : Scope) (i : Nat) : Expr → Bool
  | .Name x _ => decide (N[i]? = some x) && locB sc x
  | _ => false
def namesAre (N : List Str) (sc : Scope) : List Nat → List Expr → Bool
  | [], [] => true
  | i :: is, e :: es => nameIs N sc i e && namesAre N sc is es
  | _, _ => false
def mtG (N : List Str) (sc : Scope) : Tgt → Expr → Bool
  | .nm i, e => nameIs N sc i e
  | .tp is, .Tuple es _ _ => namesAre N sc is es
  | _, _ => false
def ownOf (N : List Str) (tg : Tgt) : List (Str × Nat) := (tsl tg).map fun i => (N.getD i "", i)
def isRngCall : Expr → Bool
  | .Call (.Name x _) _ _ _ => x == ("range" : Str)
  | _ => false
def tyS : Ty → Option Str
  | .int => some "int" | .bool => some "bool" | .tuple => some "tuple" | .list => some "list" | .str => some "str" | .dict => some "dict" | _ => none
def asConst : Expr → Option Const
  | .Constant k _ _ => some k
  | _ => none
def asName : Expr → Option Str
  | .Name x _ => some x
  | _ => none
def asBin : Expr → Option (Expr × Operator × Expr)
  | .BinOp l o r _ => some (l, o, r)
  | _ => none
def asUn : Expr → Option (UnaryOp × Expr)
  | .UnaryOp o x _ => some (o, x)
  | _ => none
def asCmp1 : Expr → Option (Expr × CmpOp × Expr)
  | .Compare l [o] [r] _ => some (l, o, r)
  | _ => none
def asCmp2 : Expr → Option (Expr × CmpOp × CmpOp × Expr × Expr)
  | .Compare l [o, p] [r, t] _ => some (l, o, p, r, t)
  | _ => none
def asBoolOp : Expr → Option (BoolOp × Expr × Expr × Bool)
  | .BoolOp o [x, y] _ => some (o, x, y, false)
  | .BoolOp o (x :: y :: z :: r) p => some (o, x, .BoolOp o (y :: z :: r) p, true)
  | _ => none
def asIf : Expr → Option (Expr × Expr × Expr)
  | .IfExp c x y _ => some (c, x, y)
  | _ => none
def asTup : Expr → Option (List Expr)
  | .Tuple es _ _ => some es
  | _ => none
def asLst : Expr → Option (List Expr)
  | .List es _ => some es
  | _ => none
def asIdx : Expr → Option (Expr × Expr)
  | .Subscript x y _ => some (x, y)
  | _ => none
def asSlc : Expr → Option (Expr × Option Expr × Option Expr)
  | .Subscript x (.Slice l h none _) _ => some (x, l, h)
  | _ => none
def asRev : Expr → Option Expr
  | .Subscript x (.Slice none none (some (.UnaryOp .USub (.Constant (.int 1) _ _) _)) _) _ => some x
  | _ => none
def asCall : Expr → Option (Str × Expr × List Expr)
  | .Call (.Name x _) (y :: ys) [] _ => some (x, y, ys)
  | _ => none
def asComp : Expr → Option (Expr × Expr × Expr × List Expr × Scope)
  | .ListComp el [⟨t, i, fs, 0⟩] scope _ => some (el, t, i, fs, scope)
  | _ => none
/-- what stands behind isinstance's comma -/
def isiB (tb : Tb) (t : Ty) (z : Str) : Bool := match t with
  | .cls c => decide (tb.cn c = some z) && okN z
  | .ve => decide (z = ("ValueError" : Str))
  | t => decide (tyS t = some z)
/-- o.x(y), on one line -/
def asMth : Expr → Option (Expr × Str × Expr)
  | .Call (.Attribute o x a) [y] [] c => if a.endLine == c.line then some (o, x, y) else none
  | _ => none
def mtN : Mt → Option Str
  | .index => some "index" | .count => some "count"
  | _ => none
/-- e.keys(), on one line -/
def plainB : Expr → Bool
  | .Call _ (_ :: _) _ _ => true
  | .Name _ _ => true
  | .Subscript _ _ _ => true
  | .Constant _ _ _ => true
  | _ => false
def asKeys : Expr → Option Expr
  | .Call (.Attribute o x a) [] [] c => if x == ("keys" : Str) && (a.endLine == c.line && plainB o) then some o else none
  | _ => none
/-- x(y(z..)) -/
def asCall2 : Expr → Option (Str × Str × Expr × List Expr)
  | .Call (.Name x _) [.Call (.Name y _) (z :: zs) [] _] [] _ => some (x, y, z, zs)
  | _ => none
def asDict1 : Expr → Option (Const × Expr)
  | .Dict [some (.Constant k _ _)] [v] _ => some (k, v)
  | _ => none
section
variable (tb : Tb) (N : List Str)
mutual
def mtE : CE → Scope → Expr → Bool
  | .cst c, _, e => decide (asConst e = some c.k)
  | .var i, sc, e => (match asName e with | some x => decide (N[i]? = some x) && visB sc x && okN x | none => false)
  | .glo i, sc, e => (match asName e with | some x => decide (tb.gn i = some x) && gloB sc x && okN x | none => false)
  | .bin o a b, sc, e => (match asBin e with | some (l, p, r) => decide (p = opO o) && mtE a sc l && mtE b sc r | none => false)
  | .neg a, sc, e => (match asUn e with | some (o, x) => decide (o = .USub) && mtE a sc x | none => false)
  | .not a, sc, e => (match asUn e with | some (o, x) => decide (o = .Not) && !a.isIte && mtE a sc x | none => false)
  | .cmp o a b, sc, e => (match asCmp1 e with | some (l, p, r) => decide (p = cmO o) && notSet r && mtE a sc l && mtE b sc r | none => false)
  | .chn o q a b c, sc, e => (match asCmp2 e with | some (l, p, p', r, t) => decide (p = cmO o) && decide (p' = cmO q) && notSet t && mtE a sc l && mtE b sc r && mtE c sc t | none => false)
  | .and a b, sc, e => (match asBoolOp e with | some (o, x, y, syn) => decide (o = .And) && !a.isIte && !b.isIte && (!syn || b.isAnd) && mtE a sc x && mtE b sc y | none => false)
  | .or a b, sc, e => (match asBoolOp e with | some (o, x, y, syn) => decide (o = .Or) && !a.isIte && !b.isIte && (!syn || b.isOr) && mtE a sc x && mtE b sc y | none => false)
  | .ite t a b, sc, e => (match asIf e with | some (c, x, y) => !t.isIte && mtE t sc c && mtE a sc x && mtE b sc y | none => false)
  | .tup es, sc, e => (match asTup e with | some xs => mtEs es sc xs | none => false)
  | .lst es, sc, e => (match asLst e with | some xs => mtEs es sc xs | none => false)
  | .idx a i, sc, e => (match asIdx e with | some (x, y) => notSlice y && mtE a sc x && mtE i sc y | none => false)
  | .slc a lo hi, sc, e => (match asSlc e with
      | some (x, l, h) => mtE a sc x && (match l with | none => lo.isNon | some l => !lo.isNon && mtE lo sc l) && (match h with | none => hi.isNon | some h => !hi.isNon && mtE hi sc h)
      | none => false)
  | .rev a, sc, e => (match asRev e with | some x => mtE a sc x | none => false)
  | .call f es, sc, e => (match asCall e with
      | some (x, y, ys) => decide ((tb.fs f).map Fd.name = some x) && gloB sc x && okN x && mtEs es sc (y :: ys)
      | none => false)
  | .bif f es, sc, e => (match asCall e with
      | some (x, y, ys) => decide (bfN f = some x) && gloB sc x && mtEs es sc (y :: ys)
      | none => false)
  | .isi a t, sc, e => (match asCall e with
      | some (x, y, [z]) => decide (x = ("isinstance" : Str)) && gloB sc x && notStar y && mtE a sc y && (match asName z with | some z => gloB sc z && isiB tb t z | none => false)
      | _ => false)
  | .comp tg it ifs elt, sc, e => (match asComp e with
      | some (el, t, i, fs, scope) => mtG N scope tg t && mtE it sc i && notSet i && blkC N sc scope (ownOf N tg) && mtE elt scope el && (match fs with | [] => ifs.isTrue | [c] => mtE ifs scope c && !ifs.isIte | _ => false)
      | none => false)
  | .compR tg lo hi ifs elt, sc, e => (match asComp e with
      | some (el, t, i, fs, scope) => mtG N scope tg t && blkC N sc scope (ownOf N tg) && mtE elt scope el && (match fs with | [] => ifs.isTrue | [c] => mtE ifs scope c && !ifs.isIte | _ => false) &&
          (match asCall i with
            | some (x, y, ys) => decide (x = ("range" : Str)) && gloB sc x && notStar y && (match ys with | [] => lo.isZero && mtE hi sc y | [z] => notStar z && mtE lo sc y && mtE hi sc z | _ => false)
            | none => false)
      | none => false)
  | .mth m a es, sc, e => (match asMth e with
      | some (o, x, y) => decide (mtN m = some x) && plainB o && notStar y && mtE a sc o && mtEs es sc [y]
      | none => false)
  | .oidx i x, sc, e => (match asIdx e with | some (a, z) => notSlice z && (match asName a with | some y => decide (N[i]? = some y) && visB sc y && okN y | none => false) && mtE x sc z | none => false)
  | .olen i, sc, e => (match asCall e with
      | some (x, y, []) => decide (x = ("len" : Str)) && gloB sc x && (match asName y with | some y => decide (N[i]? = some y) && visB sc y && okN y | none => false)
      | _ => false)
  | .dct0, _, e => (match e with | .Dict [] [] _ => true | _ => false)
  | .odix i x, sc, e => (match asIdx e with | some (a, z) => notSlice z && (match asName a with | some y => decide (N[i]? = some y) && visB sc y && okN y | none => false) && mtE x sc z | none => false)
  | .ssort a, sc, e => (match asCall2 e with | some (x, y, z, []) => decide (x = ("sorted" : Str)) && decide (y = ("set" : Str)) && gloB sc x && gloB sc y && notStar z && mtE a sc z | _ => false)
  | .slen a, sc, e => (match asCall2 e with | some (x, y, z, []) => decide (x = ("len" : Str)) && decide (y = ("set" : Str)) && gloB sc x && gloB sc y && notStar z && mtE a sc z | _ => false)
  | .ksort a, sc, e => (match asCall e with | some (x, y, []) => decide (x = ("sorted" : Str)) && gloB sc x && (match asKeys y with | some o => mtE a sc o | none => false) | _ => false)
  | .klist a, sc, e => (match asCall e with | some (x, y, []) => decide (x = ("list" : Str)) && gloB sc x && (match asKeys y with | some o => mtE a sc o | none => false) | _ => false)
  | .compK tg it ifs elt, sc, e => (match asComp e with
      | some (el, t, i, fs, scope) => mtG N scope tg t && blkC N sc scope (ownOf N tg) && mtE elt scope el && (match fs with | [] => ifs.isTrue | [c] => mtE ifs scope c && !ifs.isIte | _ => false) &&
          (match asKeys i with | some o => mtE it sc o | none => false)
      | none => false)
  | .rngl lo hi, sc, e => (match asCall2 e with
      | some (x, r, y, ys) => decide (x = ("list" : Str)) && decide (r = ("range" : Str)) && gloB sc x && gloB sc r && notStar y && (match ys with | [] => lo.isZero && mtE hi sc y | [z] => notStar z && mtE lo sc y && mtE hi sc z | _ => false)
      | none => false)
  | .dctd k a, sc, e => (match asDict1 e with | some (c, v) => decide (c = k.k) && (cstK k).isSome && mtE a sc v | none => false)
  | .callO f h es, sc, e => (match asCall2 e with
      | some (x, y, z, zs) => (match tb.fs f with | some fd => decide (fd.name = x) && decide (fd.ps.length = 1) | none => false) && (match tb.fs h with | some hd => decide (hd.name = y) && (unret hd.body).isSome | none => false) && gloB sc x && gloB sc y && okN x && okN y && mtEs es sc (z :: zs)
      | none => false)
def mtEs : CEs → Scope → List Expr → Bool
  | .nil, _, es => es.isEmpty
  | .cons c cs, sc, es => (match es with | [] => false | e :: r => notStar e && mtE c sc e && mtEs cs sc r)
end
end
section
theorem asConst_eq {e : Expr} {k : Const} (h : asConst e = some k) : ∃ i p, e = .Constant k i p := by
  unfold asConst at h
  split at h
  · cases h
    exact ⟨_, _, rfl⟩
  · cases h
theorem asName_eq {e : Expr} {x : Str} (h : asName e = some x) : ∃ p, e = .Name x p := by
  unfold asName at h
  split at h
  · cases h
    exact ⟨_, rfl⟩
  · cases h
theorem asBin_eq {e l r : Expr} {o : Operator} (h : asBin e = some (l, o, r)) : ∃ p, e = .BinOp l o r p := by
  unfold asBin at h
  split at h
  · cases h
    exact ⟨_, rfl⟩
  · cases h
theorem asUn_eq {e x : Expr} {o : UnaryOp} (h : asUn e = some (o, x)) : ∃ p, e = .UnaryOp o x p := by
  unfold asUn at h
  split at h
  · cases h
    exact ⟨_, rfl⟩
  · cases h
theorem asCmp1_eq {e l r : Expr} {o : CmpOp} (h : asCmp1 e = some (l, o, r)) : ∃ p, e = .Compare l [o] [r] p := by
  unfold asCmp1 at h
  split at h
  · cases h
    exact ⟨_, rfl⟩
  · cases h
theorem asCmp2_eq {e l r t : Expr} {o q : CmpOp} (h : asCmp2 e = some (l, o, q, r, t)) : ∃ p, e = .Compare l [o, q] [r, t] p := by
  unfold asCmp2 at h
  split at h
  · cases h
    exact ⟨_, rfl⟩
  · cases h
theorem asBoolOp_eq {e x y : Expr} {o : BoolOp} {b : Bool} (h : asBoolOp e = some (o, x, y, b)) : ∃ p, (b = false ∧ e = .BoolOp o [x, y] p) ∨ (b = true ∧ ∃ u z r, y = .BoolOp o (u :: z :: r) p ∧ e = .BoolOp o (x :: u :: z :: r) p) := by
  unfold asBoolOp at h
  split at h
  · cases h
    exact ⟨_, .inl ⟨rfl, rfl⟩⟩
  · cases h
    exact ⟨_, .inr ⟨rfl, _, _, _, rfl, rfl⟩⟩
  · cases h
theorem asIf_eq {e c x y : Expr} (h : asIf e = some (c, x, y)) : ∃ p, e = .IfExp c x y p := by
  unfold asIf at h
  split at h
  · cases h
    exact ⟨_, rfl⟩
  · cases h
theorem asTup_eq {e : Expr} {xs : List Expr} (h : asTup e = some xs) : ∃ k p, e = .Tuple xs k p := by
  unfold asTup at h
  split at h
  · cases h
    exact ⟨_, _, rfl⟩
  · cases h
theorem asLst_eq {e : Expr} {xs : List Expr} (h : asLst e = some xs) : ∃ p, e = .List xs p := by
  unfold asLst at h
  split at h
  · cases h
    exact ⟨_, rfl⟩
  · cases h
theorem asIdx_eq {e x y : Expr} (h : asIdx e = some (x, y)) : ∃ p, e = .Subscript x y p := by
  unfold asIdx at h
  split at h
  · cases h
    exact ⟨_, rfl⟩
  · cases h
theorem asSlc_eq {e x : Expr} {l u : Option Expr} (h : asSlc e = some (x, l, u)) : ∃ p q, e = .Subscript x (.Slice l u none p) q := by
  unfold asSlc at h
  split at h
  · cases h
    exact ⟨_, _, rfl⟩
  · cases h
theorem asRev_eq {e x : Expr} (h : asRev e = some x) : ∃ k p1 p2 p3 p4, e = .Subscript x (.Slice none none (some (.UnaryOp .USub (.Constant (.int 1) k p1) p2)) p3) p4 := by
  unfold asRev at h
  split at h
  · cases h
    exact ⟨_, _, _, _, _, rfl⟩
  · cases h
theorem asCall_eq {e y : Expr} {x : Str} {ys : List Expr} (h : asCall e = some (x, y, ys)) : ∃ p q, e = .Call (.Name x p) (y :: ys) [] q := by
  unfold asCall at h
  split at h
  · cases h
    exact ⟨_, _, rfl⟩
  · cases h
theorem asMth_eq {e o y : Expr} {x : Str} (h : asMth e = some (o, x, y)) : ∃ a c, e = .Call (.Attribute o x a) [y] [] c ∧ (a.endLine == c.line) = true := by
  unfold asMth at h
  split at h
  · split at h
    · rename_i hl
      cases h
      exact ⟨_, _, rfl, hl⟩
    · cases h
  · cases h
theorem asKeys_eq {e o : Expr} (h : asKeys e = some o) : ∃ a c, e = .Call (.Attribute o "keys" a) [] [] c ∧ (a.endLine == c.line) = true ∧ plainB o = true := by
  unfold asKeys at h
  split at h
  · split at h
    · rename_i q
      simp only [Bool.and_eq_true, beq_iff_eq] at q
      obtain ⟨rfl, q1, q2⟩ := q
      cases h
      exact ⟨_, _, rfl, beq_iff_eq.mpr q1, q2⟩
    · cases h
  · cases h
theorem asCall2_eq {e z : Expr} {x y : Str} {zs : List Expr} (h : asCall2 e = some (x, y, z, zs)) : ∃ p1 p2 p3 p4, e = .Call (.Name x p1) [.Call (.Name y p2) (z :: zs) [] p3] [] p4 := by
  unfold asCall2 at h
  split at h
  · cases h
    exact ⟨_, _, _, _, rfl⟩
  · cases h
theorem asDict1_eq {e v : Expr} {k : Const} (h : asDict1 e = some (k, v)) : ∃ i p1 p2, e = .Dict [some (.Constant k i p1)] [v] p2 := by
  unfold asDict1 at h
  split at h
  · cases h
    exact ⟨_, _, _, rfl⟩
  · cases h
theorem asComp_eq {e el t i : Expr} {fs : List Expr} {sc : Scope} (h : asComp e = some (el, t, i, fs, sc)) : ∃ p, e = .ListComp el [⟨t, i, fs, 0⟩] sc p := by
  unfold asComp at h
  split at h
  · cases h
    exact ⟨_, rfl⟩
  · cases h
end
end FR
/-! FrSnd7: the theorem for expressions. -/
namespace FR
open PySem PySem.Spec PyProof.Rows L2

/-- a def's promise: what the evaluator says -/
def spF (Z : Gd) (Φ : Fs) (f n : Nat) : Sp := fun vs H Q E => vs.length = n ∧ ∃ (ds : List D) (s : S) (Sh : Hp), Same Sh H ∧ TownOk Z H Sh s ∧ RepL Z Sh ds vs ∧ EvX Z (fun c d _ H' => E c d H') (Rep Z) (Φ f ds s) [] H Sh Q
/-- the answer is a new list, handed out -/
def spFr (Z : Gd) (Φ : Fs) (f n : Nat) : Sp := fun vs H Q E => vs.length = n ∧ ∃ (ds : List D) (s : S) (Sh : Hp), Same Sh H ∧ TownOk Z H Sh s ∧ RepL Z Sh ds vs ∧ EvF Z (fun c d _ H' => E c d H') (Φ f ds s) [] H Sh Q
/-- a heap without an object -/
def hide (a : Addr) (H : Hp) : Hp := fun b => if b = a then none else H b
/-- the argument is a list of its own from now on -/
def spOw (Z : Gd) (Φ : Fs) (f : Nat) : Sp := fun vs H Q E => ∃ (a : Addr) (us : List V) (xs : List D) (s : S) (Sh : Hp), vs = [.ref a] ∧ Same Sh H ∧ TownOk Z H Sh s ∧ H a = some (.lst us) ∧ Sh a = none ∧ some a ≠ Z.T ∧ RepL Z Sh xs us ∧
  EvX Z (fun c d _ H' => E c d H') (Rep Z) (Φ f [.lst xs] s) [] (hide a H) Sh Q
structure Gr (tb : Tb) (k : Nat) (Z : Gd) (X : Cx) : Prop where
  hk : X.K = Z.K
  room : Room k X.A
  hu : X.A.units + 65 < cLine
  blt : ∀ x ∈ bltNames, X.mg x = none
  glo : ∀ i x, tb.gn i = some x → ∃ u v, X.mg x = some u ∧ RelV v u ∧ ∀ Sh, Rep Z Sh (tb.gl i) v
  fn : ∀ f fd, tb.fs f = some fd → X.mg fd.name = some (.ref (Z.fA f)) ∧ PySem.W.keepIn X.K (.ref (Z.fA f)) = true ∧ ∃ fdt : FuncData, Binds X.K fdt fd.ps [] ∧
    FnOk X.prog X.w X.K X.mg X.base (L2.CX X.prog X.w) k (Z.fA f) fdt fd.ps (spF Z (sem tb k) f fd.ps.length)
  exc : ∀ c x, tb.cn c = some x → X.mg x = some (.ref (Z.cA c)) ∧ PySem.W.excIn X.K (Z.cA c) He.veBase "ValueError.__new__" = true ∧ PySem.W.keepIn X.K (.ref (Z.cA c)) = true ∧ PySem.W.subIn X.K (.ref (Z.cA c)) (.type "BaseException") = some true ∧ PySem.W.typeIn X.K (.ref (Z.cA c)) = some (.type "type")
  exm : ∀ c c' b, tb.sub c' c = some b → PySem.W.exmOne X.K (.ref (Z.cA c')) (.ref (Z.cA c)) = some b
  exi : ∀ c c' b, tb.sub c' c = some b → ExcC X.K (Z.cA c') ∧ PySem.W.kitOne X.K (.ref (Z.cA c')) (.ref (Z.cA c)) = some b ∧ PySem.W.kitOne X.K (.ref (Z.cA c')) (.type "ValueError") = some true
  calm : X.calm = true
  nd : X.N.Nodup
  fnF : ∀ f fd p, tb.fs f = some fd → unret fd.body = some p → ∃ fdt : FuncData, Binds X.K fdt fd.ps [] ∧ FnOk X.prog X.w X.K X.mg X.base (L2.CX X.prog X.w) k (Z.fA f) fdt fd.ps (spFr Z (semF tb k) f fd.ps.length)
  fnO : ∀ f fd, tb.fs f = some fd → fd.ps.length = 1 → ∃ fdt : FuncData, Binds X.K fdt fd.ps [] ∧ FnOk X.prog X.w X.K X.mg X.base (L2.CX X.prog X.w) k (Z.fA f) fdt fd.ps (spOw Z (semO tb k) f)
structure ScOk (sc : Scope) (X : Cx) : Prop where
  loc : ∀ x, sc.names.lookup x = some .local → X.env.scope.names.lookup x = some .local
  cell : ∀ x, sc.names.lookup x = some .cell → X.env.scope.names.lookup x = some .cell ∧ X.fn x = true
  free : ∀ x, sc.names.lookup x = some .free → X.env.scope.names.lookup x = some .free ∨ X.env.scope.names.lookup x = some .cell
  glob : ∀ x, sc.names.lookup x = some .globalImplicit → X.env.scope.names.lookup x = some .globalImplicit
section
variable {sc : Scope} {X : Cx} {x : Str}
theorem ScOk.vis (s : ScOk sc X) (h : visB sc x = true) : Vis X.env.scope x := by
  unfold visB at h
  split at h
  · rename_i q
    exact .inl (s.loc x q)
  · rename_i q
    exact .inr (.inl (s.cell x q).1)
  · rename_i q
    rcases s.free x q with z | z
    · exact .inr (.inr z)
    · exact .inr (.inl z)
  · cases h
theorem ScOk.gl (s : ScOk sc X) (h : gloB sc x = true) : Gl X x := by
  unfold gloB at h
  split at h
  · rename_i q
    exact s.glob x q
  · cases h
theorem ScOk.lc (s : ScOk sc X) (h : locB sc x = true) : Loc X.env.scope x ∧ (X.fn x = true ∨ X.env.scope.names.lookup x = some .local) := by
  unfold locB at h
  split at h
  · rename_i q
    exact ⟨.inl (s.loc x q), .inr (s.loc x q)⟩
  · rename_i q
    exact ⟨.inr (s.cell x q).1, .inl (s.cell x q).2⟩
  · cases h
theorem okN_of (h : okN x = true) : (x == ("__debug__" : Str)) = false ∧ (x == ("__classdict__" : Str)) = false ∧ x ≠ ("__name__" : Str) := by
  unfold okN at h
  simp only [Bool.and_eq_true, Bool.not_eq_true', decide_eq_true_eq] at h
  exact ⟨h.1.1, h.1.2, h.2⟩
end
theorem lookup_relab {p : Str → NameKind → Bool} {x : Str} : ∀ names : List (Str × NameKind), (names.map fun (n, k) => if p n k then (n, NameKind.cell) else (n, k)).lookup x = (names.lookup x).map fun k => if p x k then .cell else k
  | [] => rfl
  | (n, k) :: r => by
    rw [List.map_cons]
    by_cases e : x = n
    · subst e
      by_cases q : p x k = true
      · simp [q, List.lookup_cons]
      · simp [q, List.lookup_cons]
    · have e1 : (x == n) = false := beq_eq_false_iff_ne.mpr e
      have ih := lookup_relab (p := p) (x := x) r
      by_cases q : p n k = true
      · simp only [q, if_true, List.lookup_cons, e1]
        exact ih
      · show List.lookup x ((if p n k = true then (n, NameKind.cell) else (n, k)) :: _) = _
        rw [if_neg q]
        simp only [List.lookup_cons, e1]
        exact ih
theorem scOk_blk {X : Cx} {s : Shared} {H : Hp} {C : Addr} {cl : List (Str × Addr)} {fp : List Addr} (scope : Scope) : ScOk scope (X.blk s H scope (compEnvC scope cl C X.env) fp) := by
  have key : ∀ x k, scope.names.lookup x = some k → (compEnvC scope cl C X.env).scope.names.lookup x = some (if (k == .free && X.env.scope.kind == .function && X.env.kindOf x == some .cell) then .cell else k) := fun x k e => by
    have h := lookup_relab (p := fun n k => (k == .free && X.env.scope.kind == .function && X.env.kindOf n == some .cell)) (x := x) scope.names
    rw [e] at h
    exact h
  refine ⟨fun x e => ?_, fun x e => ⟨?_, ?_⟩, fun x e => ?_, fun x e => ?_⟩
  · rw [key x _ e]
    rfl
  · rw [key x _ e]
    rfl
  · show (scope.names.lookup x == some .cell) = true
    rw [e]
    rfl
  · rw [key x _ e]
    split
    · exact .inr rfl
    · exact .inl rfl
  · rw [key x _ e]
    rfl
theorem blkOk_sc {N : List Str} {sc scope : Scope} {own : List (Str × Nat)} {X : Cx} (so : ScOk sc X) (h : BlkOk N sc scope own) : BlkOk N X.env.scope scope own where
  kind := h.kind
  uniq := h.uniq
  ix := h.ix
  free := fun y hy e => by
    rcases h.free y hy e with z | z
    · exact .inl (so.cell _ z).1
    · rcases so.free _ z with z | z
      · exact .inr z
      · exact .inl z
  own := h.own

section
variable {tb : Tb} {k : Nat} {Z : Gd} {X : Cx}
theorem Gr.blk (g : Gr tb k Z X) {s : Shared} {H : Hp} {C : Addr} {cl : List (Str × Addr)} {fp : List Addr} {scope : Scope} : Gr tb k Z (X.blk s H scope (compEnvC scope cl C X.env) fp) :=
  ⟨g.hk, g.room, g.hu, g.blt, g.glo, g.fn, g.exc, g.exm, g.exi, g.calm, g.nd, g.fnF, g.fnO⟩
end

/-! ### targets of names -/
section
variable {N : List Str} {sc : Scope} {X : Cx}
theorem sName (gn : X.N.Nodup) (so : ScOk sc X) (hN : X.N = N) {i : Nat} {e : Expr} (h : nameIs N sc i e = true) : PG X e (gName i) := by
  unfold nameIs at h
  split at h
  · rename_i x p
    rw [Bool.and_eq_true, decide_eq_true_eq] at h
    obtain ⟨h1, h2⟩ := so.lc h.2
    exact pg_name gn (by rw [hN]; exact h.1) h1 h2
  · cases h
theorem names_star {is : List Nat} {es : List Expr} (h : namesAre N sc is es = true) (env : Env) : ∃ xs : List (Value → Sem Unit), assignEach es env = xs.map fun f => (false, f) := by
  induction es generalizing is with
  | nil => exact ⟨[], rfl⟩
  | cons e es ih =>
    cases is with
    | nil => cases h
    | cons i is =>
      unfold namesAre at h
      rw [Bool.and_eq_true] at h
      obtain ⟨xs, e1⟩ := ih h.2
      have h1 := h.1
      unfold nameIs at h1
      split at h1
      · rename_i x p
        refine ⟨assign (.Name x p) env :: xs, ?_⟩
        rw [List.map_cons, ← e1]
        rfl
      · cases h1
theorem names_len {is : List Nat} {es : List Expr} (h : namesAre N sc is es = true) : is.length = es.length := by
  induction es generalizing is with
  | nil =>
    cases is with
    | nil => rfl
    | cons _ _ => cases h
  | cons e es ih =>
    cases is with
    | nil => cases h
    | cons i is =>
      unfold namesAre at h
      rw [Bool.and_eq_true] at h
      rw [List.length_cons, List.length_cons, ih h.2]
def gNames : List Nat → TGs
  | [] => gNil
  | i :: is => gCons (gName i) (gNames is)
theorem gNames_of : ∀ {is : List Nat} {vs : List V} {σ : L2.St} {H : Hp} {Q : L2.St → Hp → Prop}, vs.length = is.length → Q (setV σ is vs) H → gNames is vs σ H Q
  | [], [], _, _, _, _, q => ⟨rfl, q⟩
  | i :: is, v :: vs, σ, H, Q, h, q => ⟨v, vs, rfl, gNames_of (Nat.succ.inj h) q⟩
theorem sNames (gn : X.N.Nodup) (so : ScOk sc X) (hN : X.N = N) : ∀ {is : List Nat} {es : List Expr}, namesAre N sc is es = true → PGs X es (gNames is)
  | [], [], _ => pgs_nil
  | i :: is, e :: es, h => by
    have h0 := h
    unfold namesAre at h
    rw [Bool.and_eq_true] at h
    refine pgs_cons (sName gn so hN h.1) (sNames gn so hN h.2) ?_
    have h1 := h.1
    unfold nameIs at h1
    split at h1
    · rfl
    · cases h1
theorem pgW {X : Cx} {e : Expr} {t t' : TG} (h : PG X e t) (w : ∀ v σ H Q, t' v σ H Q → t v σ H Q) : PG X e t' := ⟨fun pins s σ H v u Q I r q => h.run pins s σ H v u Q I r (w v σ H Q q)⟩
theorem sTgt {K : PySem.W.Frag} (hk : X.K = K) (hc : X.calm = true) (gn : X.N.Nodup) (so : ScOk sc X) (hN : X.N = N) {tg : Tgt} {e : Expr} (h : mtG N sc tg e = true) : PG X e (gSet K tg) := by
  cases tg with
  | nm i => exact sName gn so hN h
  | tp is =>
    cases e with
    | Tuple es n p =>
      change namesAre N sc is es = true at h
      obtain ⟨xs, e1⟩ := names_star h X.env
      have hl : (assignEach es X.env).length = es.length := by
        clear e1 h
        induction es with
        | nil => rfl
        | cons e es ih => cases e <;> exact congrArg (· + 1) ih
      have st : (assignEach es X.env).findIdx? (·.1) = none := by
        rw [e1, List.findIdx?_eq_none_iff]
        intro y hy
        obtain ⟨z, _, rfl⟩ := List.mem_map.mp hy
        rfl
      have hn : (assignEach es X.env).length = is.length := by rw [hl, names_len h]
      have g1 := pg_tup (n := is.length) (k := n) (pos := p) hc (sNames gn so hN h) hn st
      have g2 := pg_unl (n := is.length) (k := n) (pos := p) hc (sNames gn so hN h) hn st
      exact ⟨fun pins s σ H v u Q I r ⟨a, vs, e2, sq, hv, q⟩ => sq.elim (fun sq => g1.run pins s σ H v u Q I r ⟨a, vs, e2, by rw [hk]; exact sq, hv, gNames_of hv q⟩) fun sq => g2.run pins s σ H v u Q I r ⟨a, vs, e2, by rw [hk]; exact sq, hv, gNames_of hv q⟩⟩
    | _ => cases h
end

/-! ### expressions -/
theorem evT_and {ea eb : G → S → EV D} (g : G) (s : S) : evT (fun g s => rb (ea g s) fun x s => rb (tru x s) fun t s => if t then eb g s else some (.ok x, s)) g s = rb (evT ea g s) fun t s => if t then evT eb g s else some (.ok false, s) := by
  unfold evT
  rw [rb_rb, rb_rb]
  congr 1
  funext x s
  unfold tru
  cases q : x.truth with
  | none => rfl
  | some t =>
    cases t with
    | true => rfl
    | false =>
      show rp x.truth s = _
      rw [q]
      rfl
theorem evT_or {ea eb : G → S → EV D} (g : G) (s : S) : evT (fun g s => rb (ea g s) fun x s => rb (tru x s) fun t s => if t then some (.ok x, s) else eb g s) g s = rb (evT ea g s) fun t s => if t then some (.ok true, s) else evT eb g s := by
  unfold evT
  rw [rb_rb, rb_rb]
  congr 1
  funext x s
  unfold tru
  cases q : x.truth with
  | none => rfl
  | some t =>
    cases t with
    | false => rfl
    | true =>
      show rp x.truth s = _
      rw [q]
      rfl
theorem evT_not {ea : G → S → EV D} (g : G) (s : S) : evT (fun g s => rb (ea g s) fun x s => rb (tru x s) fun b s => some (.ok (.bl (!b)), s)) g s = rb (evT ea g s) fun b s => some (.ok (!b), s) := by
  unfold evT
  rw [rb_rb, rb_rb]
  congr 1
  funext x s
  unfold tru
  cases q : x.truth with
  | none => rfl
  | some t => rfl
theorem ptE {X : Cx} {Z : Gd} {W : WX} {H0 : Ent} {e : Expr} {t t' : G → S → EV Bool} (h : PT X e (tB Z W H0 t)) (w : ∀ g s, t' g s = t g s) : PT X e (tB Z W H0 t') := by
  have e2 : t' = t := by
    funext g s
    exact w g s
  rw [e2]
  exact h
theorem peE {X : Cx} {Z : Gd} {W : WX} {H0 : Ent} {e : Expr} {t t' : G → S → EV D} (h : PE X e (tV Z W H0 t)) (w : ∀ g s, t' g s = t g s) : PE X e (tV Z W H0 t') := by
  have e2 : t' = t := by
    funext g s
    exact w g s
  rw [e2]
  exact h
def plainT : Expr → Bool
  | .UnaryOp .Not _ _ => false
  | .BoolOp _ _ _ => false
  | .IfExp _ _ _ _ => false
  | .Compare _ _ _ _ => false
  | _ => true
theorem plainT_eq {e : Expr} (h : plainT e = true) (env : Env) (whole : Sem Value) : isTrue e env whole = (do let v ← whole; standAt e.pos; holding [v] (truthy v)) := by
  cases e with
  | UnaryOp o x p => cases o <;> first | rfl | cases h
  | BoolOp _ _ _ => cases h
  | IfExp _ _ _ _ => cases h
  | Compare _ _ _ _ => cases h
  | _ => rfl
theorem stars {es : List Expr} (h : ∀ e ∈ es, notStar e = true) (pos : Pos) (env : Env) : (backTo pos (starEach es env)).any (·.1) = false := by
  induction es with
  | nil => rfl
  | cons e es ih =>
    rw [star1 (h e List.mem_cons_self)]
    exact ih fun x hx => h x (List.mem_cons_of_mem _ hx)

section
variable {tb : Tb} {k : Nat} {Z : Gd} {H0 : Ent} {N : List Str}
theorem mtEs_star : ∀ {cs : CEs} {sc : Scope} {es : List Expr}, mtEs tb N cs sc es = true → ∀ e ∈ es, notStar e = true
  | .nil, sc, [], h => fun e he => nomatch he
  | .cons c cs, sc, e :: es, h => fun x hx => by
    simp only [mtEs, Bool.and_eq_true] at h
    rcases List.mem_cons.mp hx with z | z
    · rw [z]
      exact h.1.1
    · exact mtEs_star h.2 x z
  | .nil, _, _ :: _, h => by simp [mtEs] at h
  | .cons _ _, _, [], h => by simp [mtEs] at h
theorem sBif {X : Cx} {W : WX} {f : Bf} {x : Str} {p pos : Pos} {y : Expr} {ys : List Expr} {el : G → S → EV (List D)} (gr : Gr tb k Z X) (hx : bfN f = some x) (hg : Gl X x) (hs : ∀ e ∈ y :: ys, notStar e = true) (ha : PA X (y :: ys) (tA Z W H0 el)) :
    PE X (.Call (.Name x p) (y :: ys) [] pos) (tV Z W H0 fun g s => rb (el g s) fun ds s => rp (bifD f ds s) s) := by
  have b := gr.blt
  have s1 := star1 (es := ys) (hs y List.mem_cons_self) X.env
  have s2 := stars (fun e he => hs e (List.mem_cons_of_mem _ he)) pos X.env
  have hk := gr.hk
  cases f with
  | len =>
    cases hx
    refine sCB ?_ (pe_callB (CallR.or call_len cr_lenK) hg (b _ (by decide)) boot_len ha (by decide) (by decide) s1 s2)
    rw [hk]
    exact rc_len
  | abs =>
    cases hx
    exact sCB rc_abs (pe_callB call_abs hg (b _ (by decide)) (by decide +kernel) ha (by decide) (by decide) s1 s2)
  | sum =>
    cases hx
    refine sCB ?_ (pe_callB (cr_sum gr.calm) hg (b _ (by decide)) (by decide +kernel) ha (by decide) (by decide) s1 s2)
    rw [hk]
    exact rc_sum
  | all =>
    cases hx
    refine sCB ?_ (pe_callB (cr_all gr.calm) hg (b _ (by decide)) (by decide +kernel) ha (by decide) (by decide) s1 s2)
    rw [hk]
    exact rc_all
  | any =>
    cases hx
    refine sCB ?_ (pe_callB (cr_any gr.calm) hg (b _ (by decide)) (by decide +kernel) ha (by decide) (by decide) s1 s2)
    rw [hk]
    exact rc_any
  | max2 =>
    cases hx
    exact sCB rc_max2 (pe_callB (call_max2 gr.calm) hg (b _ (by decide)) (by decide +kernel) ha (by decide) (by decide) s1 s2)
  | min2 =>
    cases hx
    exact sCB rc_min2 (pe_callB (call_min2 gr.calm) hg (b _ (by decide)) (by decide +kernel) ha (by decide) (by decide) s1 s2)
  | int =>
    cases hx
    exact sCB rc_int (pe_callTy call_int1 hg (b _ (by decide)) (by decide +kernel) ha (by decide) (by decide) s1 s2)
  | tuple =>
    cases hx
    refine sCB ?_ (pe_callTy call_tuple_of hg (b _ (by decide)) (by decide +kernel) ha (by decide) (by decide) s1 s2)
    rw [hk]
    exact rc_tuple
  | list =>
    cases hx
    refine sCB ?_ (pe_callTy call_list_of hg (b _ (by decide)) (by decide +kernel) ha (by decide) (by decide) s1 s2)
    rw [hk]
    exact rc_list
  | sorted =>
    cases hx
    refine sCB ?_ (pe_callB (CallR.or cr_sortedS (CallR.or cr_sorted (call_sortedD gr.calm))) hg (b _ (by decide)) (by decide +kernel) ha (by decide) (by decide) s1 s2)
    rw [hk]
    exact rc_sorted
  | dict =>
    cases hx
    have h0 := pe_lkP (pe_callTy (p := p) (CallR.or (call_dictP gr.calm) call_dictD) hg (b _ (by decide)) (by decide +kernel) ha (by decide) (by decide) s1 s2)
    rw [hk] at h0
    exact sCB rc_dict h0
  | _ => cases hx
theorem isi_kit {d : D} {t : Ty} {b : Bool} {z : Str} (ht : tyS t = some z) (h : isiD d t = some b) : ∃ n, tyD d = some n ∧ kitB n (tyN t) = some b := by
  cases t <;> first | (cases ht; done) | skip
  all_goals (cases d <;> first | (cases h; done) | (cases h; exact ⟨_, rfl, by decide +kernel⟩))
theorem boot_ty {t : Ty} {z : Str} (ht : tyS t = some z) : bootBuiltins z = some (.type (tyN t)) ∧ z ∈ bltNames ∧ z ≠ "__name__" ∧ (z == ("__debug__" : Str)) = false := by
  cases t <;> first | (cases ht; done) | (cases ht; exact ⟨by decide +kernel, by decide, by decide, by decide⟩)
/-- isinstance of an error that is kept -/
def rIsX (K : PySem.W.Frag) : List V → Hp → VK → Prop := fun xs H Q => ∃ (a D : Addr) (c : V) (u : Value) (b : Bool), xs = [.ref a, c] ∧ ClsV c u ∧ H a = some (ExV (.ref D) a) ∧ ExcC K D ∧ PySem.W.kitOne K (.ref D) u = some b ∧ Q (.bl b) H
theorem call_isX {X : Cx} : CallR X (.builtin "isinstance") (rIsX X.K) := fun pins t σ H xs us Q I r ⟨a, D, c, u, b, e1, k, hH, C, e, q⟩ => by
  subst e1
  obtain ⟨w1, w2, e2, r1, r2⟩ := vals2 r
  subst e2
  cases k.eq r2
  cases (show w1 = Value.ref a from r1)
  obtain ⟨ob, fl, g1, ⟨g2, g3⟩, g4⟩ := (I.hok a _ hH).1
  have at_ : PySem.W.InstAt t.heap a ob D none := by
    cases ob
    cases g2
    cases g3
    cases g4
    exact ⟨g1, rfl, rfl, trivial⟩
  exact PySem.W.kia_one (PySem.W.handS_kitx_exc C.hg C.hk C.hs C.hd C.ha C.hn C.ht C.hm) I.kIn at_ e (fun z => nomatch z) fun tk => ⟨.bl b, H, I.tok tk, rfl, q⟩
theorem isiE_ty {f : Nat → Nat → Option Bool} {d : D} {t : Ty} {z : Str} (h : tyS t = some z) : isiE f d t = isiD d t := by
  cases t <;> first | (cases h; done) | (cases d <;> rfl)
theorem sIsi {X : Cx} {W : WX} {t : Ty} {z : Str} {p p2 pos : Pos} {y : Expr} {ea : G → S → EV D} (gr : Gr tb k Z X) (hg : Gl X "isinstance") (hy : notStar y = true) (ha : PE X y (tV Z W H0 ea)) (ht : tyS t = some z) (hz : Gl X z) :
    PE X (.Call (.Name "isinstance" p) [y, .Name z p2] [] pos) (tV Z W H0 fun g s => rb (ea g s) fun x s => rp ((isiE tb.sub x t).map D.bl) s) := by
  have ei : ∀ d, isiE tb.sub d t = isiD d t := fun d => isiE_ty ht
  simp only [ei]
  obtain ⟨b1, b2, b3, b4⟩ := boot_ty ht
  refine peW (pe_callB call_isi hg (gr.blt _ (by decide)) boot_isinstance (pa_cons ha (pa_cons (pe_bltn (v := .ty (tyN t)) hz (gr.blt z b2) b1 rfl b3 b4) pa_nil (by rfl)) (star1 hy _)) (by decide) (by decide) (star1 hy _) (by rfl)) fun σ H Q ⟨g, s, Sh, ok, h⟩ => ⟨g, s, Sh, ok, EvX.bind h fun x s1 v H1 Sh1 e1 q1 h => ?_⟩
  obtain ⟨d, e, h1⟩ := h.rp
  obtain ⟨b, e2, rfl⟩ := Option.map_eq_some_iff.mp e
  obtain ⟨n, e3, e4⟩ := isi_kit ht e2
  rw [gr.hk]
  exact ⟨v, .ty (tyN t), .type n, .type (tyN t), b, rfl, .ty _, q1.tyX e1.sub e3, kit_ty e4, h1.here e1.sub e1.town (.bl b)⟩
theorem sIsC {X : Cx} {W : WX} {c : Nat} {z : Str} {p p2 pos : Pos} {y : Expr} {ea : G → S → EV D} (gr : Gr tb k Z X) (hg : Gl X "isinstance") (hy : notStar y = true) (ha : PE X y (tV Z W H0 ea)) (ht : tb.cn c = some z) (ho : okN z = true) (hz : Gl X z) :
    PE X (.Call (.Name "isinstance" p) [y, .Name z p2] [] pos) (tV Z W H0 fun g s => rb (ea g s) fun x s => rp ((isiE tb.sub x (.cls c)).map D.bl) s) := by
  refine peW (pe_callB call_isX hg (gr.blt _ (by decide)) boot_isinstance (pa_cons ha (pa_cons (pe_glob (v := .ref (Z.cA c)) hz (gr.exc c z ht).1 rfl (okN_of ho).1) pa_nil (by rfl)) (star1 hy _)) (by decide) (by decide) (star1 hy _) (by rfl)) fun σ H Q ⟨g, s, Sh, ok, h⟩ => ⟨g, s, Sh, ok, EvX.bind h fun x s1 v H1 Sh1 e1 q1 h => ?_⟩
  obtain ⟨d, e, h1⟩ := h.rp
  obtain ⟨b, e2, rfl⟩ := Option.map_eq_some_iff.mp e
  cases x with
  | exc c' =>
    cases q1 with
    | exc _ hH =>
      obtain ⟨i1, i2, _⟩ := gr.exi c c' b e2
      exact ⟨_, _, _, _, b, rfl, .own _, e1.sub _ _ hH, i1, i2, h1.here e1.sub e1.town (.bl b)⟩
  | _ => cases e2
theorem sIsV {X : Cx} {W : WX} {p p2 pos : Pos} {y : Expr} {ea : G → S → EV D} (gr : Gr tb k Z X) (hg : Gl X "isinstance") (hy : notStar y = true) (ha : PE X y (tV Z W H0 ea)) (hz : Gl X "ValueError") :
    PE X (.Call (.Name "isinstance" p) [y, .Name "ValueError" p2] [] pos) (tV Z W H0 fun g s => rb (ea g s) fun x s => rp ((isiE tb.sub x .ve).map D.bl) s) := by
  refine peW (pe_callB (CallR.or call_isi call_isX) hg (gr.blt _ (by decide)) boot_isinstance (pa_cons ha (pa_cons (pe_bltn (v := .ty "ValueError") hz (gr.blt _ (by decide)) (by decide +kernel) rfl (by decide) (by decide)) pa_nil (by rfl)) (star1 hy _)) (by decide) (by decide) (star1 hy _) (by rfl)) fun σ H Q ⟨g, s, Sh, ok, h⟩ => ⟨g, s, Sh, ok, EvX.bind h fun x s1 v H1 Sh1 e1 q1 h => ?_⟩
  obtain ⟨d, e, h1⟩ := h.rp
  obtain ⟨b, e2, rfl⟩ := Option.map_eq_some_iff.mp e
  have plain : ∀ n, tyD x = some n → kitB n "ValueError" = some b → rIsi X.K [v, .ty "ValueError"] H1 Q := fun n a1 a2 => by
    rw [gr.hk]
    exact ⟨v, .ty "ValueError", .type n, .type "ValueError", b, rfl, .ty _, q1.tyX e1.sub a1, kit_ty a2, h1.here e1.sub e1.town (.bl b)⟩
  cases x with
  | exc c' =>
    cases q1 with
    | exc _ hH =>
      have e3 : (tb.sub c' c').map (fun _ => true) = some b := e2
      obtain ⟨b', e4, rfl⟩ := Option.map_eq_some_iff.mp e3
      obtain ⟨i1, _, i3⟩ := gr.exi c' c' b' e4
      exact .inr ⟨_, _, _, _, true, rfl, .ty _, e1.sub _ _ hH, i1, i3, h1.here e1.sub e1.town (.bl true)⟩
  | fn _ => cases e2
  | town => cases e2
  | scr _ => cases e2
  | _ => cases e2; exact .inl (plain _ rfl (by decide +kernel))
/-- l.count(x) where items are data of any depth -/
def rCountD (K : PySem.W.Frag) : V → List V → Hp → VK → Prop := fun x xs H Q => ∃ (a : Addr) (y : V) (d : PyData) (ds : List PyData), x = V.ref a ∧ xs = [y] ∧ Dp K H x (.list ds) ∧ Dp K H y d ∧ SeqAt.shaped (.list ds) = true ∧ SeqAt.shaped d = true ∧ Q (.int (ds.countP fun z => PyData.eqv z d : Nat)) H
theorem mt_countD {X : Cx} (hu : X.A.units + 65 < cLine) : MtR X "list.count" (rCountD X.K) := fun pins t σ H x xs v us Q I rx rxs ⟨a, y, d, ds, e1, e2, hl, hy, sl, sd, q⟩ => by
  subst e1 e2
  cases rx
  obtain ⟨uy, rfl, ry⟩ := rxs.one
  obtain ⟨bs, rd⟩ := Dp.reads I d y uy hy ry
  have lay : PyData.canLayAll0 ds = true := SeqAt.canLay_of_shaped sl
  cases hl with
  | lst hs ha =>
    obtain ⟨its, rv, ⟨⟨c0, d0, dt, s0⟩, n, ho, hc, _, hd⟩, _⟩ := I.list hs
    cases hc
    cases hd
    obtain ⟨as, ra⟩ := Dp.readsAll I ds _ its ha rv
    have mp : its.map (SeqAt.readOf t.heap) = ds := SeqAt.readsAll_map ds its as lay ra
    have cnt : its.toArray.toList.countP (fun u => PyData.eqv (SeqAt.readOf t.heap u) d) = ds.countP fun z => PyData.eqv z d := by
      rw [← mp, List.countP_map]
      rfl
    have eqs := SeqAt.items_eqAt (vs := its.toArray) (show ReadsAll t.heap its.toArray.toList ds as from ra) rd lay (SeqAt.canLay_of_shaped sd) (room_in_shaped sd hu)
    refine call_meets PySem.F.slot_list_count ⟨_, ho, rfl⟩ PySem.F.entry_list_count (PySem.F.args_list_count_2 _ _) (SeqAt.list_countAt a its.toArray n d0 s0 uy fun u => PyData.eqv (SeqAt.readOf t.heap u) d) ⟨ho, eqs, ⟨.int _, H, I.tok _, ⟨t.toks, ?_⟩, q⟩⟩
    rw [cnt]
theorem plain_base {o : Expr} {x : Str} {env : Env} (h : plainB o = true) : attributeBase o x env (eval o env) = eval o env := by
  cases o with
  | Call f as ks p =>
    cases as with
    | nil => cases h
    | cons a as =>
      cases f <;> rfl
  | _ => first | rfl | cases h
theorem rd_pl {Sh H : Hp} (sub : Same Sh H) {ds : List D} {a : Addr} {vs : List V} (hH : Sh a = some (.lst vs)) (r : RepL Z Sh ds vs) (h : ds.all (D.pl 8) = true) : Dp Z.K H (.ref a) (.list (D.toPL ds)) := by
  have := Rep.dp (Z := Z) sub 9 (.lst hH r) (plLst h)
  exact this
theorem toPL_get : ∀ {ds : List D} {i : Nat} {d : D}, ds[i]? = some d → (D.toPL ds)[i]? = some d.toP
  | d :: ds, 0, _, h => by
    cases h
    rfl
  | d :: ds, i + 1, e, h => by
    rw [D.toPL, List.getElem?_cons_succ]
    exact toPL_get h
theorem toPL_len : ∀ {ds : List D}, (D.toPL ds).length = ds.length
  | [] => rfl
  | d :: ds => congrArg (· + 1) toPL_len
theorem toPL_count {d : D} (hd : d.pl 8 = true) : ∀ {ds : List D}, (∀ y ∈ ds, y.pl 8 = true) → (D.toPL ds).countP (fun z => PyData.eqv z d.toP) = ds.countP fun y => D.eqv y d
  | [], _ => rfl
  | y :: ds, h => by
    rw [D.toPL, List.countP_cons, List.countP_cons, toPL_count hd fun z hz => h z (List.mem_cons_of_mem _ hz), D.eqvP y d 8 8 (h y List.mem_cons_self) hd]
theorem sMth {X : Cx} {W : WX} {m : Mt} {x : Str} {a c : Pos} {o y : Expr} {eo : G → S → EV D} {el : G → S → EV (List D)} (gr : Gr tb k Z X) (hm : mtN m = some x) (hp : plainB o = true) (hs : notStar y = true) (hl : (a.endLine == c.line) = true) (ho : PE X o (tV Z W H0 eo)) (ha : PA X [y] (tA Z W H0 el)) :
    PE X (.Call (.Attribute o x a) [y] [] c) (tV Z W H0 fun g s => rb (eo g s) fun x s => if mthT m x then rb (el g s) fun ds s => rp (mthD m x ds) s else none) := by
  have few : ((backTo c (starEach [y] X.env)).all (fun x => !x.1) && (backToKw c (keywordEach [] X.env)).all (fun x => x.1.isSome) && decide ([y].length + ([] : List Keyword).length + (if ([] : List Keyword).isEmpty then 0 else 1) < 30)) = true := by
    rw [star1 hs]
    rfl
  have lists : ∀ {r : V → List V → Hp → VK → Prop}, (∀ (v : V) (us : List V) (xs ds : List D) (e : D) (s : S) (H Sh : Hp) (Q : VK), Same Sh H → TownOk Z H Sh s → Rep Z Sh (.lst xs) v → RepL Z Sh ds us → mthD m (.lst xs) ds = some e → (∀ u, Rep Z Sh e u → Q u H) → r v us H Q) → (∀ d, mthT m d = true → ∃ xs, d = .lst xs) →
      ∀ σ H Q, tV Z W H0 (fun g s => rb (eo g s) fun x s => if mthT m x then rb (el g s) fun ds s => rp (mthD m x ds) s else none) σ H Q → tBM X.K "list" r (tV Z W H0 eo) (tA Z W H0 el) σ H Q := by
    intro r hr hd σ H Q ⟨g, s, Sh, ok, h⟩
    refine ⟨g, s, Sh, ok, EvX.bind h fun d s1 v H1 Sh1 e1 q1 h => ?_⟩
    split at h
    · rename_i ht
      obtain ⟨xs, rfl⟩ := hd d ht
      refine ⟨?_, g, s1, Sh1, ok.ext e1, EvX.bind h fun ds s2 us H2 Sh2 e2 q2 h2 => ?_⟩
      · cases q1 with
        | lst x1 y1 => exact .inl ⟨rfl, _, SqL.of (e1.sub _ _ x1)⟩
      · obtain ⟨e, e3, h3⟩ := h2.rp
        exact hr v us xs ds e s2 H2 Sh2 Q e2.sub e2.town (q1.mono e2.shs) q2 e3 fun u ru => h3.here e2.sub e2.town ru
    · exact h.elim
  cases m with
  | index =>
    cases hm
    refine peW (pe_bm PySem.F.plainAttrs_list PySem.F.slot_list_index PySem.F.type_list_index (mt_indexD gr.hu) ho ha (plain_base hp) few hl (star1 hs _) rfl) (lists (fun v us xs ds e s H Sh Q sub tw rv ru he hq => ?_) fun d hd => ?_)
    · cases rv with
      | lst x1 y1 =>
        match ds, ru, he with
        | [], _, he => simp [mthD] at he
        | [d], .cons r1 .nil, he =>
          simp only [mthD] at he
          split at he
          · rename_i hpl
            rw [Bool.and_eq_true] at hpl
            obtain ⟨i, e5, rfl⟩ := Option.map_eq_some_iff.mp he
            have hpx : ∀ y ∈ xs, y.pl 8 = true := by simpa using hpl.2
            obtain ⟨h5, h6, h7⟩ := List.findIdx?_eq_some_iff_getElem.mp e5
            rw [gr.hk]
            refine ⟨_, _, d.toP, _, i, xs[i].toP, rfl, rfl, rd_pl sub x1 y1 hpl.2, r1.dp sub 8 hpl.1, D.shaped (plLst hpl.2) (by decide), D.shaped hpl.1 (by decide), toPL_get (List.getElem?_eq_getElem h5), ?_, fun j z hj hz => ?_, hq _ (.int _)⟩
            · rw [D.eqvP _ _ 8 8 (hpx _ (List.getElem_mem h5)) hpl.1]
              exact h6
            · have hjl : j < xs.length := Nat.lt_trans hj h5
              rw [toPL_get (List.getElem?_eq_getElem hjl)] at hz
              cases hz
              rw [D.eqvP _ _ 8 8 (hpx _ (List.getElem_mem hjl)) hpl.1]
              simpa using h7 j hj
          · cases he
        | _ :: _ :: _, _, he => simp [mthD] at he
    · cases d <;> first | exact ⟨_, rfl⟩ | cases hd
  | count =>
    cases hm
    refine peW (pe_bm PySem.F.plainAttrs_list PySem.F.slot_list_count PySem.F.type_list_count (mt_countD gr.hu) ho ha (plain_base hp) few hl (star1 hs _) rfl) (lists (fun v us xs ds e s H Sh Q sub tw rv ru he hq => ?_) fun d hd => ?_)
    · cases rv with
      | lst x1 y1 =>
        match ds, ru, he with
        | [], _, he => simp [mthD] at he
        | [d], .cons r1 .nil, he =>
          simp only [mthD] at he
          split at he
          · rename_i hpl
            rw [Bool.and_eq_true] at hpl
            cases he
            have hpx : ∀ y ∈ xs, y.pl 8 = true := by simpa using hpl.2
            rw [gr.hk]
            refine ⟨_, _, d.toP, _, rfl, rfl, rd_pl sub x1 y1 hpl.2, r1.dp sub 8 hpl.1, D.shaped (plLst hpl.2) (by decide), D.shaped hpl.1 (by decide), ?_⟩
            rw [toPL_count hpl.1 hpx]
            exact hq _ (.int _)
          · cases he
        | _ :: _ :: _, _, he => simp [mthD] at he
    · cases d <;> first | exact ⟨_, rfl⟩ | cases hd
  | _ => cases hm
theorem sCall {X : Cx} {W : WX} {f : Nat} {fd : Fd} {p pos : Pos} {y : Expr} {ys : List Expr} {el : G → S → EV (List D)} (gr : Gr tb k Z X) (tk : Takes X W) (hf : tb.fs f = some fd) (hg : Gl X fd.name) (hn : okN fd.name = true) (hs : ∀ e ∈ y :: ys, notStar e = true) (ha : PA X (y :: ys) (tA Z W H0 el)) :
    PE X (.Call (.Name fd.name p) (y :: ys) [] pos) (tV Z W H0 fun g s => rb (el g s) fun ds s => sem tb k f ds s) := by
  have s1 := star1 (es := ys) (hs y List.mem_cons_self) X.env
  have s2 := stars (fun e he => hs e (List.mem_cons_of_mem _ he)) pos X.env
  obtain ⟨hm, hkp, fdt, hb, F⟩ := gr.fn f fd hf
  refine peW (pe_callSD (E := fun σ => WE W σ) F gr.room hg hm hkp hb .nil (fun σ => passAt tk σ) ha (okN_of hn).1 s1 s2) fun σ H Q ⟨g, s, Sh, ok, h⟩ => ⟨g, s, Sh, ok, EvX.bind h fun ds s1 vs H1 Sh1 e1 q1 h => ?_⟩
  rw [List.append_nil]
  refine ⟨?_, ds, s1, Sh1, e1.sub, e1.town, q1, ?_⟩
  · rw [← q1.length]
    cases k with
    | zero => exact h.elim
    | succ k =>
      have h2 : EvX Z W (Rep Z) (sem tb (k + 1) f ds s1) σ H1 Sh1 Q := h
      rw [sem_succ, hf] at h2
      dsimp only at h2
      split at h2
      · rename_i hl
        exact hl
      · exact h2.elim
  · have h2 : EvX Z W (Rep Z) (sem tb k f ds s1) σ H1 Sh1 Q := h
    unfold EvX at h2 ⊢
    exact h2
end
end FR
/-! FrSndN: dicts, sets, lists handed over: the rules for expressions. -/
namespace FR
open PySem PySem.Spec PyProof.Rows L2
section
variable {tb : Tb} {k : Nat} {Z : Gd} {H0 : Ent} {W : WX} {X : Cx}
/-! ### new dicts -/
/-- the answer is a new dict, not yet shared -/
def EvFD (Z : Gd) (W : WX) (o : EV D) (σ : L2.St) (H Sh : Hp) (Q : VK) : Prop := match o with
  | some (.ok (.dct ds), s) => ∀ (p : Addr) (vs : List (Key × V)) (H' Sh' : Hp), Ext Z H Sh H' Sh' s → H p = none → H' p = some (.dK vs) → Sh' p = none → RepK Z Sh' ds vs → Q (.ref p) H'
  | some (.exn c, s) => ∀ (H' Sh' : Hp), Ext Z H Sh H' Sh' s → W (.ref (Z.cA c)) none σ H'
  | _ => False
def tFD (Z : Gd) (W : WX) (H0 : Ent) (ev : G → S → EV D) : TE := fun σ H Q => ∃ (g : G) (s : S) (Sh : Hp), Ok Z H0 σ g H Sh s ∧ EvFD Z W (ev g s) σ H Sh Q
theorem fDct0 {p : Pos} : PE X (.Dict [] [] p) (tFD Z W H0 fun _ s => some (.ok (.dct []), s)) :=
  peW pe_dnewK fun σ H Q ⟨g, s, Sh, ok, h⟩ p hp => h p [] _ Sh (Ext.allocH ok.sub ok.town hp _) hp upd_same (same_none ok.sub hp) .nil
theorem EvFD.bind {α β : Type} {rel : Hp → α → β → Prop} {o : EV α} {f : α → S → EV D} {σ : L2.St} {H Sh : Hp} {Q : VK} {Q' : β → Hp → Prop} (h : EvFD Z W (rb o f) σ H Sh Q)
    (k : ∀ a s' v H' Sh', Ext Z H Sh H' Sh' s' → rel Sh' a v → EvFD Z W (f a s') σ H Sh Q → Q' v H') : EvX Z W rel o σ H Sh Q' := by
  unfold EvX
  cases o with
  | none => exact h
  | some p =>
    obtain ⟨r, s1⟩ := p
    cases r with
    | exn c => exact h
    | ok a => exact fun v H' Sh' e r => k a s1 v H' Sh' e r h
theorem EvFD.new {σ : L2.St} {H Sh H1 Sh1 : Hp} {s : S} {ds : List (Key × D)} {vs : List (Key × V)} {Q : VK} {p : Addr} (h : EvFD Z W (some (.ok (.dct ds), s)) σ H Sh Q) (e : Ext Z H Sh H1 Sh1 s) (nT : H p = none) (r : RepK Z Sh1 ds vs) (hp : H1 p = none) : Q (.ref p) (upd H1 p (.dK vs)) :=
  h p vs _ Sh1 (e.trans (Ext.allocH e.sub e.town hp _)) nT upd_same (same_none e.sub hp) r
theorem fDict {p pos : Pos} {y : Expr} {ea : G → S → EV D} (gr : Gr tb k Z X) (hg : Gl X "dict") (hs : notStar y = true) (ha : PE X y (tV Z W H0 ea)) :
    PE X (.Call (.Name "dict" p) [y] [] pos) (tFD Z W H0 fun g s => rb (ea g s) fun d s => rp (dictD d s) s) := by
  have h0 := pe_callTy (p := p) (pos := pos) (CallR.or (call_dictP gr.calm) call_dictD) hg (gr.blt _ (by decide)) (by decide +kernel) (pa_cons ha pa_nil (star1 hs _)) (by decide) (by decide) (star1 hs _) (by rfl)
  rw [gr.hk] at h0
  refine peW h0 fun σ H Q ⟨g, s, Sh, ok, h⟩ => ⟨g, s, Sh, ok, EvFD.bind h fun d s1 v H1 Sh1 e1 r h => ?_⟩
  cases q : dictD d s1 with
  | none =>
    rw [q] at h
    exact h.elim
  | some d2 =>
    rw [q] at h
    cases r with
    | lst x y =>
      obtain ⟨ps, e2, e3⟩ := Option.bind_eq_some_iff.mp (show (pairsD _).bind _ = some d2 from q)
      split at e3
      · cases e3
        obtain ⟨as, kvs, rfl, pr, rk⟩ := y.pairs e1.sub e2
        exact .inl ⟨_, as, kvs, rfl, SqL.of (e1.sub _ _ x), pr, fun p hp => EvFD.new h e1 (e1.nofree ok.town hp) (RepK.merge .nil rk) hp⟩
      · cases e3
    | dct x y =>
      cases q
      exact .inr ⟨_, _, rfl, .inr ⟨_, e1.sub _ _ x⟩, fun p hp => EvFD.new h e1 (e1.nofree ok.town hp) y hp⟩
    | _ => cases q
/-! ### new lists: sorted(x), list(x) -/
theorem fSorted {p pos : Pos} {y : Expr} {ea : G → S → EV D} (gr : Gr tb k Z X) (hg : Gl X "sorted") (hs : notStar y = true) (ha : PE X y (tV Z W H0 ea)) :
    PE X (.Call (.Name "sorted" p) [y] [] pos) (tF Z W H0 fun g s => rb (ea g s) fun d s => rp (sortedD d s) s) := by
  have h0 := pe_callB (p := p) (pos := pos) (CallR.or cr_sortedS (CallR.or cr_sorted (call_sortedD gr.calm))) hg (gr.blt _ (by decide)) (by decide +kernel) (pa_cons ha pa_nil (star1 hs _)) (by decide) (by decide) (star1 hs _) (by rfl)
  rw [gr.hk] at h0
  refine peW h0 fun σ H Q ⟨g, s, Sh, ok, h⟩ => ⟨g, s, Sh, ok, EvF.bind h fun d s1 v H1 Sh1 e1 r h => ?_⟩
  cases q : sortedD d s1 with
  | none =>
    rw [q] at h
    exact h.elim
  | some d2 =>
    rw [q] at h
    cases r with
    | lst x y =>
      change sortedL _ = some d2 at q
      unfold sortedL at q
      split at q
      · rename_i ks q1
        split at q
        · rename_i h64
          cases q
          have hv := y.strs q1
          subst hv
          refine .inl ⟨_, ks, rfl, SqL.of (e1.sub _ _ x), h64, fun ys p hp hs np => ?_⟩
          rw [sortS_uniq hp hs]
          exact EvF.new h e1 (e1.nofree ok.town np) (repL_strs _) np
        · cases q
      · split at q
        · rename_i ns q1
          split at q
          · rename_i h64
            cases q
            have hv := y.ints q1
            subst hv
            refine .inr (.inl ⟨_, ns, rfl, SqL.of (e1.sub _ _ x), h64, fun ys p hp hs np => ?_⟩)
            rw [sortI_uniq hp hs]
            exact EvF.new h e1 (e1.nofree ok.town np) (repL_ints _) np
          · cases q
        · cases q
    | dct x y =>
      obtain ⟨ks, e2, h64, rfl⟩ := keySort_eq (show keySortD _ = some d2 from q)
      refine .inr (.inr ⟨_, _, ks, rfl, .inr ⟨_, e1.sub _ _ x⟩, y.keyS e2, h64, fun ys p hp hs np => ?_⟩)
      rw [sortS_uniq hp hs]
      exact EvF.new h e1 (e1.nofree ok.town np) (repL_strs _) np
    | _ => cases q
theorem fList {p pos : Pos} {y : Expr} {ea : G → S → EV D} (gr : Gr tb k Z X) (hg : Gl X "list") (hs : notStar y = true) (ha : PE X y (tV Z W H0 ea)) :
    PE X (.Call (.Name "list" p) [y] [] pos) (tF Z W H0 fun g s => rb (ea g s) fun d s => rp (listD d s) s) := by
  have h0 := pe_callTy (p := p) (pos := pos) call_list_of hg (gr.blt _ (by decide)) (by decide +kernel) (pa_cons ha pa_nil (star1 hs _)) (by decide) (by decide) (star1 hs _) (by rfl)
  rw [gr.hk] at h0
  refine peW h0 fun σ H Q ⟨g, s, Sh, ok, h⟩ => ⟨g, s, Sh, ok, EvF.bind h fun d s1 v H1 Sh1 e1 r h => ?_⟩
  cases q : listD d s1 with
  | none =>
    rw [q] at h
    exact h.elim
  | some d2 =>
    rw [q] at h
    cases r with
    | lst x y =>
      cases q
      exact ⟨_, _, rfl, .inl (SqL.of (e1.sub _ _ x)), fun p np => EvF.new h e1 (e1.nofree ok.town np) y np⟩
    | tup x y =>
      cases q
      exact ⟨_, _, rfl, .inr (seqT e1.sub x), fun p np => EvF.new h e1 (e1.nofree ok.town np) y np⟩
    | _ => cases q
/-- a new dict, shared from now on -/
theorem sDct0 {p : Pos} : PE X (.Dict [] [] p) (tV Z W H0 fun _ s => some (.ok (.dct []), s)) :=
  peW (pe_lkP pe_dnewK) fun σ H Q ⟨g, s, Sh, ok, h⟩ p hp => EvX.newD h ok.sub ok.town .nil hp
theorem Ext.fill {H1 Sh1 H Sh : Hp} {s : S} {p : Addr} {o : HO} (e : Ext Z H1 Sh1 H Sh s) (h1 : H1 p = none) (h2 : Sh p = none) (h3 : some p ≠ Z.T) : Ext Z H1 Sh1 (upd H p o) Sh s where
  frame := fun a x hT hx => by
    rw [upd_ne (ne_of_none hx h1)]
    exact e.frame a x hT hx
  shs := e.shs
  sub := fun a x hx => by
    rw [upd_ne (ne_of_none hx h2)]
    exact e.sub a x hx
  town := by
    have t := e.town
    unfold TownOk at t ⊢
    split at t
    · trivial
    · rename_i a n e1
      have hne : a ≠ p := fun z => h3 (by rw [← z, e1])
      rw [upd_ne hne]
      exact t
    · exact t
  new := e.new
theorem upd_upd2 {H : Hp} {p : Addr} {o u : HO} : L2.upd (L2.upd H p o) p u = L2.upd H p u := by
  funext b
  by_cases q : b = p
  · subst q
    rw [upd_same, upd_same]
  · rw [upd_ne q, upd_ne q, upd_ne q]
theorem not_town {H Sh : Hp} {s : S} {p : Addr} (t : TownOk Z H Sh s) (hp : H p = none) : some p ≠ Z.T := fun z => by
  obtain ⟨n, _, _, h⟩ := t.there z.symm
  rw [hp] at h
  cases h
theorem sDisp1 {c : Cst} {y : Expr} {i : Nat} {p p2 : Pos} {kk : Key} {ea : G → S → EV D} (hc : cstK c = some kk) (ha : PE X y (tV Z W H0 ea)) :
    PE X (.Dict [some (.Constant c.k i p)] [y] p2) (tV Z W H0 fun g s => rb (ea g s) fun x s => rp ((cstK c).map fun k => .dct [(k, x)]) s) := by
  have key : PE X (.Constant c.k i p) (tC (kV kk)) := by
    cases c with
    | int j =>
      cases hc
      exact pe_int
    | str z =>
      cases hc
      exact pe_str
    | _ => cases hc
  refine peW (pe_lkP (pe_disp (pps_cons key ha pps_nil) rfl rfl (by simp) (by simp))) fun σ H Q ⟨g, s, Sh, ok, h⟩ p hp => ?_
  have e0 := Ext.allocH (o := .dK []) ok.sub ok.town hp
  have nT := not_town ok.town hp
  refine ⟨g, s, Sh, ok.ext e0, ?_⟩
  dsimp only at h
  unfold EvX
  cases q0 : ea g s with
  | none =>
    rw [q0] at h
    exact h
  | some pr =>
    obtain ⟨rr, s1⟩ := pr
    rw [q0] at h
    cases rr with
    | exn c => exact fun H' Sh' e => h H' Sh' (e0.trans e)
    | ok d =>
      intro v H1 Sh1 e1 r
      rw [rb_ok, hc] at h
      have at1 : H1 p = some (.dK []) := e1.frame p _ nT upd_same
      have sh1 : Sh1 p = none := by
        cases q : Sh1 p with
        | none => rfl
        | some o =>
          rcases e1.new p o q with z | z
          · have := ok.sub p o z
            rw [hp] at this
            cases this
          · rw [upd_same] at z
            cases z
      refine ⟨at1, [(kk, v)], rfl, by simp, .inr ⟨p, _, upd_same, trivial, fun od => ?_⟩⟩
      rw [upd_upd2]
      have e2 := e0.trans e1
      refine h (.ref p) _ (L2.upd Sh1 p (.frz od (.dK (L2.mergeK [] [(kk, v)])))) ⟨fun a x hT hx => ?_, e2.shs.trans (same_fresh sh1), same_upd2 e2.sub _, ?_, fun a x hx => ?_⟩ (.dct upd_same (.cons (r.mono (same_fresh sh1)) .nil))
      · rw [upd_ne (ne_of_none hx hp)]
        exact e2.frame a x hT hx
      · have e3 := e2.fill (o := .frz od (.dK (L2.mergeK [] [(kk, v)]))) hp sh1 nT
        have t := e3.town
        unfold TownOk at t ⊢
        split at t
        · trivial
        · rename_i a n eT
          have hne : a ≠ p := fun z => nT (by rw [← z, eT])
          rw [upd_ne hne]
          exact t
        · exact t
      · by_cases q : a = p
        · subst q
          exact .inr hp
        · rw [upd_ne q] at hx
          exact e2.new a x hx
/-! ### sorted(set(xs)), len(set(xs)) -/
theorem pSet {p pos : Pos} {y : Expr} {te : TE} (gr : Gr tb k Z X) (hg : Gl X "set") (hs : notStar y = true) (ha : PE X y te) : PE X (.Call (.Name "set" p) [y] [] pos) (tCB (rSetT X.K X.prog X.w) (tCons te tNil)) :=
  pe_callTy (cr_setT gr.calm) hg (gr.blt _ (by decide)) (by decide +kernel) (pa_cons ha pa_nil (star1 hs _)) (by decide) (by decide) (star1 hs _) (by rfl)
theorem EvX.allocN {σ : L2.St} {H Sh : Hp} {s : S} {Q : VK} {d : D} {p : Addr} {o : HO} (h : EvX Z W (Rep Z) (some (.ok d, s)) σ H Sh Q) (sub : Same Sh H) (t : TownOk Z H Sh s) (hp : H p = none) : EvX Z W (Rep Z) (some (.ok d, s)) σ (upd H p o) Sh Q :=
  h.mv (Ext.allocH sub t hp o)
theorem sSSort {p p2 p3 pos : Pos} {y : Expr} {ea : G → S → EV D} (gr : Gr tb k Z X) (hg : Gl X "sorted") (hg2 : Gl X "set") (hs : notStar y = true) (ha : PE X y (tV Z W H0 ea)) :
    PE X (.Call (.Name "sorted" p) [.Call (.Name "set" p2) [y] [] p3] [] pos) (tV Z W H0 fun g s => rb (ea g s) fun x s => rp (setSortD x) s) := by
  refine peW (pe_callB (cr_sortT gr.calm) hg (gr.blt _ (by decide)) (by decide +kernel) (pa_cons (pSet gr hg2 hs ha) pa_nil (by rfl)) (by decide) (by decide) (by rfl) (by rfl)) fun σ H Q ⟨g, s, Sh, ok, h⟩ => ⟨g, s, Sh, ok, EvX.bind h fun x s1 v H1 Sh1 e1 q1 h => ?_⟩
  obtain ⟨d, e, h1⟩ := h.rp
  cases q1 with
  | lst x1 y1 =>
    obtain ⟨ks, e2, e3⟩ := Option.bind_eq_some_iff.mp (show (strsD _).bind _ = some d from e)
    split at e3
    · rename_i h64
      cases e3
      have hv := y1.strs e2
      subst hv
      rw [gr.hk]
      refine ⟨_, ks, rfl, SqL.of (e1.sub _ _ x1), by omega, fun p js hp nd hm => ?_⟩
      have pm := once_perm nd hm
      refine ⟨p, js, rfl, upd_same, ?_, fun ys q pq hq hn => ?_⟩
      · rw [pm.length_eq]
        exact Nat.lt_of_le_of_lt (once_len ks) h64
      · rw [sortS_uniq (pq.trans pm) hq]
        have e4 := Ext.allocH (o := TxO X.prog X.w p js) e1.sub e1.town hp
        exact (h1.allocN e1.sub e1.town hp).newL e4.sub e4.town (repL_strs _) hn
    · cases e3
  | _ => cases e
theorem sSLen {p p2 p3 pos : Pos} {y : Expr} {ea : G → S → EV D} (gr : Gr tb k Z X) (hg : Gl X "len") (hg2 : Gl X "set") (hs : notStar y = true) (ha : PE X y (tV Z W H0 ea)) :
    PE X (.Call (.Name "len" p) [.Call (.Name "set" p2) [y] [] p3] [] pos) (tV Z W H0 fun g s => rb (ea g s) fun x s => rp (setLenD x) s) := by
  refine peW (pe_callB cr_lenT hg (gr.blt _ (by decide)) boot_len (pa_cons (pSet gr hg2 hs ha) pa_nil (by rfl)) (by decide) (by decide) (by rfl) (by rfl)) fun σ H Q ⟨g, s, Sh, ok, h⟩ => ⟨g, s, Sh, ok, EvX.bind h fun x s1 v H1 Sh1 e1 q1 h => ?_⟩
  obtain ⟨d, e, h1⟩ := h.rp
  cases q1 with
  | lst x1 y1 =>
    obtain ⟨ks, e2, e3⟩ := Option.bind_eq_some_iff.mp (show (strsD _).bind _ = some d from e)
    split at e3
    · rename_i h64
      cases e3
      have hv := y1.strs e2
      subst hv
      rw [gr.hk]
      refine ⟨_, ks, rfl, SqL.of (e1.sub _ _ x1), by omega, fun p js hp nd hm => ?_⟩
      have pm := once_perm nd hm
      refine ⟨p, js, rfl, upd_same, ?_⟩
      rw [pm.length_eq]
      have e4 := Ext.allocH (o := TxO X.prog X.w p js) e1.sub e1.town hp
      exact (h1.allocN e1.sub e1.town hp).here e4.sub e4.town (.int _)
    · cases e3
  | _ => cases e
/-! ### sorted(d.keys()), list(d.keys()) -/
theorem sKSort {p pos ap cp : Pos} {o : Expr} {ea : G → S → EV D} (gr : Gr tb k Z X) (hg : Gl X "sorted") (hb : plainB o = true) (hl : (ap.endLine == cp.line) = true) (ha : PE X o (tV Z W H0 ea)) :
    PE X (.Call (.Name "sorted" p) [.Call (.Attribute o "keys" ap) [] [] cp] [] pos) (tV Z W H0 fun g s => rb (ea g s) fun x s => rp (keySortD x) s) := by
  refine peW (pe_callB (cr_sortK gr.calm) hg (gr.blt _ (by decide)) (by decide +kernel) (pa_cons (pe_keys ha (plain_base hb) hl) pa_nil (by rfl)) (by decide) (by decide) (by rfl) (by rfl)) fun σ H Q ⟨g, s, Sh, ok, h⟩ => ⟨g, s, Sh, ok, EvX.bind h fun x s1 v H1 Sh1 e1 q1 h => ?_⟩
  obtain ⟨d, e, h1⟩ := h.rp
  cases q1 with
  | @dct ad ob vs ds x1 y1 =>
    obtain ⟨ks, e2, h64, rfl⟩ := keySort_eq e
    refine ⟨_, _, rfl, .inr ⟨_, e1.sub _ _ x1⟩, fun p hp => ?_⟩
    have e4 := Ext.allocH (o := KeyV p ad) e1.sub e1.town hp
    refine ⟨p, ad, vs, ks, rfl, upd_same, .inr ⟨ob, ?_⟩, y1.keyS e2, h64, fun ys q pq hq hn => ?_⟩
    · rw [upd_ne (ne_of_none (e1.sub _ _ x1) hp)]
      exact e1.sub _ _ x1
    · rw [sortS_uniq pq hq]
      exact (h1.allocN e1.sub e1.town hp).newL e4.sub e4.town (repL_strs _) hn
  | _ => cases e
theorem RepK.repKeys {h : Hp} : ∀ {ds : List (Key × D)} {vs : List (Key × V)}, RepK Z h ds vs → RepL Z h (ds.map fun kv => Ky.d kv.1) (vs.map fun kv => kV kv.1)
  | _, _, .nil => .nil
  | _, _, .cons x y => .cons (rep_ky _) (RepK.repKeys y)
theorem sKList {p pos ap cp : Pos} {o : Expr} {ea : G → S → EV D} (gr : Gr tb k Z X) (hg : Gl X "list") (hb : plainB o = true) (hl : (ap.endLine == cp.line) = true) (ha : PE X o (tV Z W H0 ea)) :
    PE X (.Call (.Name "list" p) [.Call (.Attribute o "keys" ap) [] [] cp] [] pos) (tV Z W H0 fun g s => rb (ea g s) fun x s => rp ((keysD x).map D.lst) s) := by
  refine peW (pe_callTy (cr_listK gr.calm) hg (gr.blt _ (by decide)) (by decide +kernel) (pa_cons (pe_keys ha (plain_base hb) hl) pa_nil (by rfl)) (by decide) (by decide) (by rfl) (by rfl)) fun σ H Q ⟨g, s, Sh, ok, h⟩ => ⟨g, s, Sh, ok, EvX.bind h fun x s1 v H1 Sh1 e1 q1 h => ?_⟩
  obtain ⟨d, e, h1⟩ := h.rp
  cases q1 with
  | @dct ad ob vs ds x1 y1 =>
    cases e
    refine ⟨_, _, rfl, .inr ⟨_, e1.sub _ _ x1⟩, fun p hp => ?_⟩
    have e4 := Ext.allocH (o := KeyV p ad) e1.sub e1.town hp
    refine ⟨p, ad, vs, rfl, upd_same, .inr ⟨ob, ?_⟩, fun q hn => ?_⟩
    · rw [upd_ne (ne_of_none (e1.sub _ _ x1) hp)]
      exact e1.sub _ _ x1
    · exact (h1.allocN e1.sub e1.town hp).newL e4.sub e4.town y1.repKeys hn
  | _ => cases e
/-! ### list(range(..)) -/
theorem repL_rg {h : Hp} {a b : Int} : RepL Z h (rangeD a b) (rgV a b) := by
  unfold rangeD rgV
  generalize List.range (b - a).toNat = l
  induction l with
  | nil => exact .nil
  | cons i l ih => exact .cons (.int _) ih
theorem rgOk {i j : Int} (h1 : i.natAbs ≤ SZ) (h2 : j.natAbs ≤ SZ) : RgOk i j := by
  unfold RgOk SZ at *
  omega
theorem rng_eq {x y : D} {ds : List D} (h : rngD x y = some ds) : ∃ i j : Int, x = .int i ∧ y = .int j ∧ i.natAbs ≤ SZ ∧ j.natAbs ≤ SZ ∧ ds = rangeD i j := by
  unfold rngD at h
  split at h
  · split at h
    · rename_i q
      cases h
      exact ⟨_, _, rfl, rfl, q.1, q.2, rfl⟩
    · cases h
  · cases h
theorem sRngl2 {p p2 p3 pos : Pos} {y z : Expr} {ea eb : G → S → EV D} (gr : Gr tb k Z X) (hg : Gl X "list") (hg2 : Gl X "range") (ny : notStar y = true) (nz : notStar z = true) (ha : PE X y (tV Z W H0 ea)) (hb : PE X z (tV Z W H0 eb)) :
    PE X (.Call (.Name "list" p) [.Call (.Name "range" p2) [y, z] [] p3] [] pos) (tV Z W H0 fun g s => rb (ea g s) fun x s => rb (eb g s) fun y s => rp ((rngD x y).map D.lst) s) := by
  refine peW (pe_listRg gr.calm hg (gr.blt _ (by decide)) (prg_2 hg2 (gr.blt _ (by decide)) ha hb (star1 ny _) (star1 nz _) (stars (fun e he => by cases List.mem_singleton.mp he; exact nz) _ _)) (by rfl)) fun σ H Q ⟨g, s, Sh, ok, h⟩ => ⟨g, s, Sh, ok, EvX.bind h fun x s1 v H1 Sh1 e1 q1 h => ⟨g, s1, Sh1, ok.ext e1, EvX.bind h fun y s2 u H2 Sh2 e2 q2 h => ?_⟩⟩
  obtain ⟨d, e, h1⟩ := h.rp
  obtain ⟨ds, e3, rfl⟩ := Option.map_eq_some_iff.mp e
  obtain ⟨i, j, rfl, rfl, b1, b2, rfl⟩ := rng_eq e3
  cases q1
  cases q2
  exact ⟨i, j, rfl, rfl, rgOk b1 b2, fun q hq => h1.newL e2.sub e2.town repL_rg hq⟩
theorem sRngl1 {p p2 p3 pos : Pos} {y : Expr} {eb : G → S → EV D} (gr : Gr tb k Z X) (hg : Gl X "list") (hg2 : Gl X "range") (ny : notStar y = true) (hb : PE X y (tV Z W H0 eb)) :
    PE X (.Call (.Name "list" p) [.Call (.Name "range" p2) [y] [] p3] [] pos) (tV Z W H0 fun g s => rb (some (.ok (.int 0), s)) fun x s => rb (eb g s) fun y s => rp ((rngD x y).map D.lst) s) := by
  refine peW (pe_listRg gr.calm hg (gr.blt _ (by decide)) (prg_1 hg2 (gr.blt _ (by decide)) hb (star1 ny _)) (by rfl)) fun σ H Q ⟨g, s, Sh, ok, h⟩ => ⟨g, s, Sh, ok, EvX.bind (show EvX Z W (Rep Z) (rb (eb g s) fun y s => rp ((rngD (.int 0) y).map D.lst) s) σ H Sh Q from h) fun y s2 u H2 Sh2 e2 q2 h => ?_⟩
  obtain ⟨d, e, h1⟩ := h.rp
  obtain ⟨ds, e3, rfl⟩ := Option.map_eq_some_iff.mp e
  obtain ⟨i, j, e4, rfl, b1, b2, rfl⟩ := rng_eq e3
  cases e4
  cases q2
  exact ⟨j, rfl, rgOk b1 b2, fun q hq => h1.newL e2.sub e2.town repL_rg hq⟩
/-! ### a list handed over -/
theorem Ext.hide {H Sh H1 Sh1 H2 Sh2 : Hp} {s s1 s2 : S} {a : Addr} (t : TownOk Z H Sh s) (e : Ext Z H Sh H1 Sh1 s1) (f : Ext Z (hide a H1) Sh1 H2 Sh2 s2) (ha : H a = none) : Ext Z H Sh H2 Sh2 s2 where
  frame := fun b o hT h => f.frame b o hT (by
    unfold FR.hide
    rw [if_neg (ne_of_none h ha)]
    exact e.frame b o hT h)
  shs := e.shs.trans f.shs
  sub := f.sub
  town := f.town
  new := fun b o h => by
    rcases f.new b o h with z | z
    · exact e.new b o z
    · unfold FR.hide at z
      split at z
      · rename_i q
        rw [q]
        exact .inr ha
      · exact .inr (e.nofree t z)
theorem semF_fn {f : Nat} {ds : List D} {s : S} {r : R D × S} (h : semF tb k f ds s = some r) : ∃ fd p, tb.fs f = some fd ∧ unret fd.body = some p ∧ ds.length = fd.ps.length := by
  cases k with
  | zero => cases h
  | succ k =>
    rw [semF_succ] at h
    cases q : tb.fs f with
    | none =>
      rw [q] at h
      cases h
    | some fd =>
      rw [q] at h
      dsimp only at h
      cases q2 : unret fd.body with
      | none =>
        rw [q2] at h
        cases h
      | some p =>
        rw [q2] at h
        dsimp only at h
        split at h
        · rename_i hl
          exact ⟨fd, p, rfl, q2, hl⟩
        · cases h
theorem semF_lst {f : Nat} {ds : List D} {s s1 : S} {d : D} (h : semF tb k f ds s = some (.ok d, s1)) : ∃ xs, d = .lst xs := by
  obtain ⟨fd, p, e1, e2, hl⟩ := semF_fn h
  cases k with
  | zero => cases h
  | succ k =>
    rw [semF_succ, e1] at h
    dsimp only at h
    rw [e2] at h
    dsimp only at h
    rw [if_pos hl] at h
    unfold runF at h
    cases q : evSs (enOf tb k) p.1 (startG fd.N.length ds) s with
    | none =>
      rw [q] at h
      cases h
    | some pr =>
      obtain ⟨r, s2⟩ := pr
      rw [q] at h
      cases r with
      | exn c => cases h
      | ok fl =>
        rw [rb_ok] at h
        cases fl with
        | nx g =>
          dsimp only at h
          split at h
          · cases h
            exact ⟨_, rfl⟩
          · cases h
        | _ => cases h
theorem semO_fn {f : Nat} {ds : List D} {s : S} {r : R D × S} (h : semO tb k f ds s = some r) : ∃ fd, tb.fs f = some fd ∧ fd.ps.length = 1 := by
  cases k with
  | zero => cases h
  | succ k =>
    rw [semO_succ] at h
    cases q : tb.fs f with
    | none =>
      rw [q] at h
      cases h
    | some fd =>
      rw [q] at h
      dsimp only at h
      split at h
      · rename_i hl
        exact ⟨fd, rfl, hl⟩
      · cases h
theorem sCallO {f h : Nat} {fd hd : Fd} {q : CSs × Nat} {p1 p2 p3 p4 : Pos} {z : Expr} {zs : List Expr} {el : G → S → EV (List D)} (gr : Gr tb k Z X) (tk : Takes X W) (hf : tb.fs f = some fd) (hh : tb.fs h = some hd) (hq : unret hd.body = some q) (h1 : fd.ps.length = 1) (hg : Gl X fd.name) (hg2 : Gl X hd.name) (hn : okN fd.name = true) (hn2 : okN hd.name = true) (hs : ∀ e ∈ z :: zs, notStar e = true) (ha : PA X (z :: zs) (tA Z W H0 el)) :
    PE X (.Call (.Name fd.name p1) [.Call (.Name hd.name p2) (z :: zs) [] p3] [] p4) (tV Z W H0 fun g s => rb (el g s) fun ds s => rb (semF tb k h ds s) fun d s => semO tb k f [d] s) := by
  have s1 := star1 (es := zs) (hs z List.mem_cons_self) X.env
  have s2 := stars (fun e he => hs e (List.mem_cons_of_mem _ he)) p3 X.env
  obtain ⟨m1, k1, _⟩ := gr.fn f fd hf
  obtain ⟨m2, k2, _⟩ := gr.fn h hd hh
  obtain ⟨fdt1, b1, F1⟩ := gr.fnO f fd hf h1
  obtain ⟨fdt2, b2, F2⟩ := gr.fnF h hd q hh hq
  have inner := pe_callSD (p := p2) (pos := p3) (E := fun σ => WE W σ) F2 gr.room hg2 m2 k2 b2 .nil (fun σ => passAt tk σ) ha (okN_of hn2).1 s1 s2
  refine peW (pe_callSD (E := fun σ => WE W σ) F1 gr.room hg m1 k1 b1 .nil (fun σ => passAt tk σ) (pa_cons inner pa_nil (by rfl)) (okN_of hn).1 (by rfl) (by rfl)) fun σ H Q ⟨g, s, Sh, ok, hE⟩ => ⟨g, s, Sh, ok, EvX.bind hE fun ds s1 vs H1 Sh1 e1 q1 hE => ?_⟩
  rw [List.append_nil]
  have tw := e1.town
  cases r : semF tb k h ds s1 with
  | none =>
    rw [r] at hE
    exact hE.elim
  | some pr =>
    obtain ⟨fd', q', z1, z2, z3⟩ := semF_fn r
    rw [hh] at z1
    cases z1
    refine ⟨by rw [← q1.length]; exact z3, ds, s1, Sh1, e1.sub, tw, q1, ?_⟩
    obtain ⟨rr, s2⟩ := pr
    rw [r] at hE ⊢
    cases rr with
    | exn c => exact hE
    | ok d =>
      obtain ⟨xs, rfl⟩ := semF_lst r
      rw [rb_ok] at hE
      intro p us H2 Sh2 e2 hp hv hs2 rl
      show tNil σ H2 fun xs' H3 => _
      refine ⟨p, us, xs, s2, Sh2, by rw [List.append_nil], e2.sub, e2.town, hv, hs2, not_town tw hp, rl, ?_⟩
      unfold EvX at hE ⊢
      cases r2 : semO tb k f [.lst xs] s2 with
      | none =>
        rw [r2] at hE
        exact hE
      | some pr =>
        obtain ⟨rr, s3⟩ := pr
        rw [r2] at hE
        cases rr with
        | exn c => exact fun H' Sh' e => hE H' Sh' (Ext.hide tw e2 e hp)
        | ok d => exact fun v H' Sh' e r => hE v H' Sh' (Ext.hide tw e2 e hp) r
/-- an item of our own dict -/
theorem Ok.dict {H Sh : Hp} {σ : L2.St} {g : G} {s : S} (k : Ok Z H0 σ g H Sh s) {i : Nat} {ds : List (Key × D)} (e : ownDc g[i]? = some ds) : ∃ a vs, σ[i]? = some (some (.ref a)) ∧ some a ≠ Z.T ∧ ((H a = some (.dK vs)) ∨ ∃ o, H a = some (.frz o (.dK vs))) ∧ RepK Z Sh ds vs := by
  unfold ownDc at e
  split at e
  · rename_i q
    cases e
    obtain ⟨o, e1, a, vs, rfl, _, h2, _, h4, r⟩ := k.get q
    exact ⟨a, vs, e1, h2, .inl h4, r⟩
  · rename_i q
    cases e
    obtain ⟨o, e1, v, rfl, r⟩ := k.get q
    cases r with
    | @dct a ob vs _ x y =>
      refine ⟨a, vs, e1, fun z => ?_, .inr ⟨ob, k.sub _ _ x⟩, y⟩
      obtain ⟨n, _, h1, _⟩ := k.town.there z.symm
      rw [x] at h1
      cases h1
  · cases e
theorem sOdix {i : Nat} {ex : G → S → EV D} {H Sh : Hp} {σ : L2.St} {g : G} {s : S} {Q : VK} (ok : Ok Z H0 σ g H Sh s)
    (h : EvX Z W (Rep Z) (match ownDc g[i]? with | some kvs => rb (ex g s) fun y s => rp ((keyD y).bind (getK kvs)) s | none => none) σ H Sh Q) : tOp rIxK (tVar i) (tV Z W H0 ex) σ H Q := by
  split at h
  · rename_i ds q
    obtain ⟨a, vs, e1, h2, h4, r⟩ := ok.dict q
    refine ⟨_, e1, g, s, Sh, ok, EvX.bind h fun y s1 v H1 Sh1 x1 q1 h => ?_⟩
    obtain ⟨d, e, h5⟩ := h.rp
    obtain ⟨kk, e2, e3⟩ := Option.bind_eq_some_iff.mp e
    have rd : Rd H1 a (.dK vs) := h4.imp (x1.frame a _ h2) fun ⟨o, z⟩ => ⟨o, x1.frame a _ h2 z⟩
    rcases (r.mono x1.shs).val kk with ⟨n1, _⟩ | ⟨d', u, n1, n2, rr⟩
    · rw [n1] at e3
      cases e3
    · rw [n1] at e3
      cases e3
      exact ⟨a, u, rfl, .inl ⟨vs, kk, rd, q1.key e2, n2.symm⟩, h5.here x1.sub x1.town rr⟩
  · exact h.elim
end
end FR
/-! FrSnd8: the theorem for expressions. -/
namespace FR
open PySem PySem.Spec PyProof.Rows L2
section
variable {tb : Tb} {k : Nat} {Z : Gd} {H0 : Ent} {N : List Str}
/-- an expression does what the evaluator says, as a value and as a test -/
def SndE (tb : Tb) (k : Nat) (Z : Gd) (H0 : Ent) (N : List Str) (c : CE) : Prop := ∀ (X : Cx) (sc : Scope) (e : Expr) (W : WX), Gr tb k Z X → ScOk sc X → Takes X W → X.N = N → mtE tb N c sc e = true →
  PE X e (tV Z W H0 (evE (enOf tb k) c)) ∧ (c.isIte = false → PT X e (tB Z W H0 (evT (evE (enOf tb k) c))))
def SndL (tb : Tb) (k : Nat) (Z : Gd) (H0 : Ent) (N : List Str) (c : CEs) : Prop := ∀ (X : Cx) (sc : Scope) (e : List Expr) (W : WX), Gr tb k Z X → ScOk sc X → Takes X W → X.N = N → mtEs tb N c sc e = true →
  PA X e (tA Z W H0 (evEs (enOf tb k) c))
theorem both {X : Cx} {W : WX} {e : Expr} {ev : G → S → EV D} (gr : Gr tb k Z X) (hp : plainT e = true) (h : PE X e (tV Z W H0 ev)) (b : Bool) : PE X e (tV Z W H0 ev) ∧ (b = false → PT X e (tB Z W H0 (evT ev))) :=
  ⟨h, fun _ => sTru gr.hk h fun whole => plainT_eq hp _ whole⟩
theorem own_eq (tg : Tgt) : (ownOf N tg).map (·.2) = tsl tg := by
  unfold ownOf
  rw [List.map_map]
  exact List.map_id _
theorem fold0 {i : Expr} (h : notSet i = true) (env : Env) (x : Value) : foldedSetIterable i env x = pure x := by
  cases i <;> first | rfl | cases h
theorem isTrue_eq {c : CE} (h : c.isTrue = true) : c = .cst (.bl true) := by
  unfold CE.isTrue at h
  split at h
  · rfl
  · cases h
theorem isZero_eq {c : CE} (h : c.isZero = true) : c = .cst (.int 0) := by
  unfold CE.isZero at h
  split at h
  · rfl
  · cases h
theorem isNon_eq {c : CE} (h : c.isNon = true) : c = .cst .non := by
  unfold CE.isNon at h
  split at h
  · rfl
  · cases h
/-- the tests of a comprehension -/
theorem sIfs {ifs : CE} (ih : SndE tb k Z H0 N ifs) {X : Cx} {sc : Scope} {fs : List Expr} {W : WX} (gr : Gr tb k Z X) (so : ScOk sc X) (tk : Takes X W) (hN : X.N = N)
    (h : (match fs with | [] => ifs.isTrue | [c] => mtE tb N ifs sc c && !ifs.isIte | _ => false) = true) : PTs X fs (tB Z W H0 (evT (evE (enOf tb k) ifs))) := by
  cases fs with
  | nil =>
    cases isTrue_eq h
    refine ⟨fun pins s σ H Q I q => pts_nil.run pins s σ H Q I ?_⟩
    obtain ⟨g, s, Sh, ok, q⟩ := q
    exact EvX.here q ok.sub ok.town rfl
  | cons c cs =>
    cases cs with
    | nil =>
      simp only [Bool.and_eq_true, Bool.not_eq_true'] at h
      exact pts_one ((ih X sc c W gr so tk hN h.1).2 h.2)
    | cons _ _ => cases h
/-- a comprehension and its parts -/
def CompOk (Z : Gd) (W : WX) (H0 : Ent) (X : Cx) (e : Expr) (ev : G → S → EV D) : Prop := ∃ (el t i : Expr) (fs : List Expr) (scope : Scope) (pos : Pos) (own : List (Str × Nat)) (wi : TI) (g : TG) (tt : TT) (te : TE),
  e = .ListComp el [⟨t, i, fs, 0⟩] scope pos ∧ PI X t i wi ∧ BlkOk X.N X.env.scope scope own ∧
  (∀ (s : Shared) (H : Hp) (C : Addr) (cl : List (Str × Addr)) (fp : List Addr), PG (X.blk s H scope (compEnvC scope cl C X.env) fp) t g) ∧
  (∀ (s : Shared) (H : Hp) (C : Addr) (cl : List (Str × Addr)) (fp : List Addr), PTs (X.blk s H scope (compEnvC scope cl C X.env) fp) fs tt) ∧
  (∀ (s : Shared) (H : Hp) (C : Addr) (cl : List (Str × Addr)) (fp : List Addr), PE (X.blk s H scope (compEnvC scope cl C X.env) fp) el te) ∧
  (∀ x, foldedSetIterable i X.env x = pure x) ∧ ∀ σ H Q, tF Z W H0 ev σ H Q → tLc wi g tt te (own.map (·.2)) σ H Q
theorem CompOk.pe {X : Cx} {W : WX} {e : Expr} {ev : G → S → EV D} (gr : Gr tb k Z X) (h : CompOk Z W H0 X e ev) : PE X e (tF Z W H0 ev) ∧ plainT e = true := by
  obtain ⟨el, t, i, fs, scope, pos, own, wi, g, tt, te, rfl, h1, h2, h3, h4, h5, h6, h7⟩ := h
  exact ⟨peW (pe_lc gr.calm gr.nd h1 h2 h3 h4 h5 h6) h7, rfl⟩
/-- a comprehension over what a sequence holds -/
theorem fCompS {tg : Tgt} {it ifs elt : CE} (hI : SndE tb k Z H0 N it) (hF : SndE tb k Z H0 N ifs) (hE : SndE tb k Z H0 N elt) {X : Cx} {sc : Scope} {e : Expr} {W : WX} (gr : Gr tb k Z X) (so : ScOk sc X) (tk : Takes X W) (hN : X.N = N)
    (h : mtE tb N (.comp tg it ifs elt) sc e = true) : CompOk Z W H0 X e (evComp (evE (enOf tb k) it) tg (evT (evE (enOf tb k) ifs)) (evE (enOf tb k) elt)) := by
  simp only [mtE] at h
  cases q : asComp e with
  | none =>
    rw [q] at h
    cases h
  | some pq =>
  obtain ⟨el, t, i, fs, scope⟩ := pq
  rw [q] at h
  obtain ⟨pos, rfl⟩ := asComp_eq q
  simp only [Bool.and_eq_true] at h
  obtain ⟨⟨⟨⟨⟨h1, h2⟩, h3⟩, h4⟩, h5⟩, h6⟩ := h
  subst hN
  have hi := sIter (tg := t) gr.hk (hI X sc i W gr so tk rfl h2).1
  exact ⟨el, t, i, fs, scope, pos, ownOf X.N tg, _, _, _, _, rfl, hi, blkOk_sc so (blkOk_by h4), fun s H C cl fp => sTgt (X := X.blk s H scope (compEnvC scope cl C X.env) fp) gr.hk gr.calm gr.nd (scOk_blk scope) rfl h1,
    fun s H C cl fp => sIfs hF gr.blk (scOk_blk scope) takes0 rfl h6, fun s H C cl fp => (hE _ scope el _ gr.blk (scOk_blk scope) takes0 rfl h5).1, fold0 h3 _,
    fComp (tge := t) (elt := el) (ifs := fs) (scope := scope) gr.hk hi (own_eq tg)⟩
theorem evRng_comp {lo hi : G → S → EV D} {tg : Tgt} {ti : G → S → EV Bool} {ee : G → S → EV D} (g : G) (s : S) : evComp (evRng lo hi) tg ti ee g s = rb (lo g s) fun x s => rb (hi g s) fun y s => rb (rp (rngD x y) s) fun ds s => rb (compL (evTurn tg ti ee g) ds s) fun es s => if es.length ≤ SZ then some (.ok (.lst es), s) else none := by
  unfold evComp evRng
  rw [rb_rb]
  congr 1
  funext x s
  rw [rb_rb]
  congr 1
  funext y s
  cases rngD x y with
  | none => rfl
  | some ds => rfl
theorem fCompR {tg : Tgt} {lo hi ifs elt : CE} (hL : SndE tb k Z H0 N lo) (hH : SndE tb k Z H0 N hi) (hF : SndE tb k Z H0 N ifs) (hE : SndE tb k Z H0 N elt) {X : Cx} {sc : Scope} {e : Expr} {W : WX} (gr : Gr tb k Z X) (so : ScOk sc X) (tk : Takes X W) (hN : X.N = N)
    (h : mtE tb N (.compR tg lo hi ifs elt) sc e = true) : CompOk Z W H0 X e (evComp (evRng (evE (enOf tb k) lo) (evE (enOf tb k) hi)) tg (evT (evE (enOf tb k) ifs)) (evE (enOf tb k) elt)) := by
  simp only [mtE] at h
  cases q : asComp e with
  | none =>
    rw [q] at h
    cases h
  | some pq =>
  obtain ⟨el, t, i, fs, scope⟩ := pq
  rw [q] at h
  obtain ⟨pos, rfl⟩ := asComp_eq q
  simp only [Bool.and_eq_true] at h
  obtain ⟨⟨⟨⟨h1, h4⟩, h5⟩, h7⟩, h6⟩ := h
  subst hN
  cases q2 : asCall i with
  | none =>
    rw [q2] at h6
    cases h6
  | some pq =>
  obtain ⟨x, y, ys⟩ := pq
  rw [q2] at h6
  obtain ⟨p, p2, rfl⟩ := asCall_eq q2
  simp only [Bool.and_eq_true, decide_eq_true_eq] at h6
  obtain ⟨⟨⟨rfl, h3⟩, h8⟩, h9⟩ := h6
  have hi : PI X t (.Call (.Name "range" p) (y :: ys) [] p2) (tI Z W H0 (evRng (evE (enOf tb k) lo) (evE (enOf tb k) hi))) := by
    split at h9
    · simp only [Bool.and_eq_true] at h9
      cases isZero_eq h9.1
      exact sRng1 (so.gl h3) (gr.blt _ (by decide)) h8 (hH X sc y W gr so tk rfl h9.2).1
    · rename_i z
      simp only [Bool.and_eq_true] at h9
      exact sRng2 (so.gl h3) (gr.blt _ (by decide)) h8 h9.1.1 (hL X sc y W gr so tk rfl h9.1.2).1 (hH X sc z W gr so tk rfl h9.2).1
    · cases h9
  exact ⟨el, t, _, fs, scope, pos, ownOf X.N tg, _, _, _, _, rfl, hi, blkOk_sc so (blkOk_by h4), fun s H C cl fp => sTgt (X := X.blk s H scope (compEnvC scope cl C X.env) fp) gr.hk gr.calm gr.nd (scOk_blk scope) rfl h1,
    fun s H C cl fp => sIfs hF gr.blk (scOk_blk scope) takes0 rfl h7, fun s H C cl fp => (hE _ scope el _ gr.blk (scOk_blk scope) takes0 rfl h5).1, fold0 rfl _,
    fComp (tge := t) (elt := el) (ifs := fs) (scope := scope) gr.hk hi (own_eq tg)⟩
theorem fCompK {tg : Tgt} {it ifs elt : CE} (hI : SndE tb k Z H0 N it) (hF : SndE tb k Z H0 N ifs) (hE : SndE tb k Z H0 N elt) {X : Cx} {sc : Scope} {e : Expr} {W : WX} (gr : Gr tb k Z X) (so : ScOk sc X) (tk : Takes X W) (hN : X.N = N)
    (h : mtE tb N (.compK tg it ifs elt) sc e = true) : CompOk Z W H0 X e (evComp (evKeys (evE (enOf tb k) it)) tg (evT (evE (enOf tb k) ifs)) (evE (enOf tb k) elt)) := by
  simp only [mtE] at h
  cases q : asComp e with
  | none =>
    rw [q] at h
    cases h
  | some pq =>
  obtain ⟨el, t, i, fs, scope⟩ := pq
  rw [q] at h
  obtain ⟨pos, rfl⟩ := asComp_eq q
  simp only [Bool.and_eq_true] at h
  obtain ⟨⟨⟨⟨h1, h4⟩, h5⟩, h7⟩, h6⟩ := h
  subst hN
  cases q2 : asKeys i with
  | none =>
    rw [q2] at h6
    cases h6
  | some o =>
  rw [q2] at h6
  obtain ⟨pa, pc, rfl, hl, hb⟩ := asKeys_eq q2
  have hi : PI X t (.Call (.Attribute o "keys" pa) [] [] pc) (tI Z W H0 (evKeys (evE (enOf tb k) it))) := sKeys (hI X sc o W gr so tk rfl h6).1 (plain_base hb) hl
  exact ⟨el, t, _, fs, scope, pos, ownOf X.N tg, _, _, _, _, rfl, hi, blkOk_sc so (blkOk_by h4), fun s H C cl fp => sTgt (X := X.blk s H scope (compEnvC scope cl C X.env) fp) gr.hk gr.calm gr.nd (scOk_blk scope) rfl h1,
    fun s H C cl fp => sIfs hF gr.blk (scOk_blk scope) takes0 rfl h7, fun s H C cl fp => (hE _ scope el _ gr.blk (scOk_blk scope) takes0 rfl h5).1, fold0 rfl _,
    fComp (tge := t) (elt := el) (ifs := fs) (scope := scope) gr.hk hi (own_eq tg)⟩
theorem isL_comp {ei : G → S → EV D} {tg : Tgt} {ti : G → S → EV Bool} {ee : G → S → EV D} : isL (evComp ei tg ti ee) := fun g s d s' e => by
  unfold evComp at e
  cases q : ei g s with
  | none =>
    rw [q] at e
    cases e
  | some p =>
    obtain ⟨r, s1⟩ := p
    rw [q] at e
    cases r with
    | exn c => cases e
    | ok x =>
      rw [rb_ok] at e
      cases q1 : itemsD x with
      | none =>
        rw [q1] at e
        cases e
      | some ds =>
        rw [q1, rp_some, rb_ok] at e
        cases q2 : compL (evTurn tg ti ee g) ds s1 with
        | none =>
          rw [q2] at e
          cases e
        | some r =>
          obtain ⟨es, sE, rfl⟩ := compL_ok q2
          rw [q2, rb_ok] at e
          split at e
          · cases e
            exact ⟨_, rfl⟩
          · cases e

theorem turn_eq {en : En} {tg : Tgt} {ifs elt : CE} (g : G) : (fun (d : D) (s : S) => match setT g d tg with
      | none => none
      | some g1 => rb (evE en ifs g1 s) fun c s => rb (tru c s) fun t s => if t then rb (evE en elt g1 s) fun e s => some (.ok (some e), s) else some (.ok none, s)) = evTurn tg (evT (evE en ifs)) (evE en elt) g := by
  funext d s
  unfold evTurn
  cases setT g d tg with
  | none => rfl
  | some g1 =>
    dsimp only
    unfold evT
    rw [rb_rb]
theorem comp_eq {en : En} {tg : Tgt} {it ifs elt : CE} (g : G) (s : S) : evE en (.comp tg it ifs elt) g s = evComp (evE en it) tg (evT (evE en ifs)) (evE en elt) g s := by
  unfold evComp
  rw [← turn_eq]
  rfl
theorem compR_eq {en : En} {tg : Tgt} {lo hi ifs elt : CE} (g : G) (s : S) : evE en (.compR tg lo hi ifs elt) g s = evComp (evRng (evE en lo) (evE en hi)) tg (evT (evE en ifs)) (evE en elt) g s := by
  rw [evRng_comp, ← turn_eq]
  rfl
theorem compK_eq {en : En} {tg : Tgt} {it ifs elt : CE} (g : G) (s : S) : evE en (.compK tg it ifs elt) g s = evComp (evKeys (evE en it)) tg (evT (evE en ifs)) (evE en elt) g s := by
  unfold evComp evKeys
  rw [← turn_eq, rb_rb]
  show rb (evE en it g s) _ = _
  congr 1
  funext x s
  cases keysD x with
  | none => rfl
  | some ds => rfl
theorem pwOf {X : Cx} {o : BoolOp} {es : List Expr} {p : Pos} {t : TT} (h : PT X (.BoolOp o es p) t) : PW X (.BoolOp o es p) t := ⟨fun whole pins s σ H Q I q => h.run pins s σ H Q I q⟩
theorem pv_of {X : Cx} {i : Nat} {x : Str} {p : Pos} {sc : Scope} (so : ScOk sc X) (hN : X.N[i]? = some x) (hv : visB sc x = true) (ho : okN x = true) : PE X (.Name x p) (tVar i) :=
  pe_var hN (so.vis hv) (okN_of ho).1 (okN_of ho).2.1
theorem Ok.own {H Sh : Hp} {σ : L2.St} {g : G} {s : S} (k : Ok Z H0 σ g H Sh s) {i : Nat} {ds : List D} (e : g[i]? = some (.own ds)) : ∃ a vs, σ[i]? = some (some (.ref a)) ∧ Sh a = none ∧ some a ≠ Z.T ∧ H0.H a = none ∧ H a = some (.lst vs) ∧ RepL Z Sh ds vs := by
  obtain ⟨o, e1, a, vs, rfl, h⟩ := k.get e
  exact ⟨a, vs, e1, h⟩
theorem Ok.list {H Sh : Hp} {σ : L2.St} {g : G} {s : S} (k : Ok Z H0 σ g H Sh s) {i : Nat} {ds : List D} (e : ownL g[i]? = some ds) : ∃ a vs, σ[i]? = some (some (.ref a)) ∧ some a ≠ Z.T ∧ H a = some (.lst vs) ∧ RepL Z Sh ds vs := by
  unfold ownL at e
  split at e
  · rename_i q
    cases e
    obtain ⟨a, vs, e1, _, h2, _, h4, r⟩ := k.own q
    exact ⟨a, vs, e1, h2, h4, r⟩
  · rename_i q
    cases e
    obtain ⟨o, e1, v, rfl, r⟩ := k.get q
    cases r with
    | lst x y =>
      rename_i a vs
      refine ⟨a, vs, e1, fun z => ?_, k.sub _ _ x, y⟩
      obtain ⟨n, _, h1, _⟩ := k.town.there z.symm
      rw [x] at h1
      cases h1
  · cases e
theorem sOidx {X : Cx} {W : WX} {i : Nat} {ex : G → S → EV D} {H Sh : Hp} {σ : L2.St} {g : G} {s : S} {Q : VK} (hk : X.K = Z.K) (ok : Ok Z H0 σ g H Sh s)
    (h : EvX Z W (Rep Z) (match ownL g[i]? with | some ds => rb (ex g s) fun y s => rp (match y with | .int k => atL ds k | _ => none) s | none => none) σ H Sh Q) : tOp (rIxL X.K) (tVar i) (tV Z W H0 ex) σ H Q := by
  rw [hk]
  split at h
  · rename_i ds q
    obtain ⟨a, vs, e1, h2, h4, r⟩ := ok.list q
    refine ⟨_, e1, g, s, Sh, ok, EvX.bind h fun y s1 v H1 Sh1 x1 q1 h => ?_⟩
    obtain ⟨d, e, h5⟩ := h.rp
    split at e
    · cases q1
      obtain ⟨u, e2, r2⟩ := (r.mono x1.shs).at e
      exact ⟨_, _, _, _, rfl, rfl, SqL.of (x1.frame a _ h2 h4), e2, h5.here x1.sub x1.town r2⟩
    · cases e
  · exact h.elim
theorem sOlen {X : Cx} {W : WX} {i : Nat} {H Sh : Hp} {σ : L2.St} {g : G} {s : S} {Q : VK} (hk : X.K = Z.K) (ok : Ok Z H0 σ g H Sh s)
    (h : EvX Z W (Rep Z) (rp ((ownL g[i]?).map fun ds => .int ds.length) s) σ H Sh Q) : tCB (rLen1 X.K) (tCons (tVar i) tNil) σ H Q := by
  rw [hk]
  obtain ⟨d, e, h1⟩ := h.rp
  obtain ⟨ds, q, rfl⟩ := Option.map_eq_some_iff.mp e
  obtain ⟨a, vs, e1, _, h4, r⟩ := ok.list q
  exact ⟨_, e1, _, _, rfl, .inl ⟨_, SqL.of h4, r.length⟩, h1.here ok.sub ok.town (.int _)⟩
mutual
theorem snd : ∀ c : CE, SndE tb k Z H0 N c
  | .cst c => fun X sc e W gr so tk hN h => by
    simp only [mtE, decide_eq_true_eq] at h
    obtain ⟨i, p, rfl⟩ := asConst_eq h
    refine both gr rfl ?_ _
    cases c with
    | non => exact sCst (k := .non) pe_non (fun _ => .non) fun _ _ => rfl
    | bl b => exact sCst (k := .bl b) pe_bl (fun _ => .bl b) fun _ _ => rfl
    | int j => exact sCst (k := .int j) pe_int (fun _ => .int j) fun _ _ => rfl
    | str x => exact sCst (k := .str x) pe_str (fun _ => .str x) fun _ _ => rfl
  | .var i => fun X sc e W gr so tk hN h => by
    simp only [mtE] at h
    cases q : asName e with
    | none => rw [q] at h; cases h
    | some x =>
      rw [q] at h
      obtain ⟨p, rfl⟩ := asName_eq q
      simp only [Bool.and_eq_true, decide_eq_true_eq] at h
      exact both gr rfl (sVar (pv_of so (by rw [hN]; exact h.1.1) h.1.2 h.2)) _
  | .glo i => fun X sc e W gr so tk hN h => by
    simp only [mtE] at h
    cases q : asName e with
    | none => rw [q] at h; cases h
    | some x =>
      rw [q] at h
      obtain ⟨p, rfl⟩ := asName_eq q
      simp only [Bool.and_eq_true, decide_eq_true_eq] at h
      obtain ⟨u, v, h1, h2, h3⟩ := gr.glo i x h.1.1
      refine both gr rfl (peW (pe_glob (so.gl h.1.2) h1 h2 (okN_of h.2).1) fun σ H Q ⟨g, s, Sh, ok, q⟩ => ?_) _
      exact EvX.here q ok.sub ok.town (h3 Sh)
  | .bin o a b => fun X sc e W gr so tk hN h => by
    simp only [mtE] at h
    cases q : asBin e with
    | none => rw [q] at h; cases h
    | some pq =>
      obtain ⟨l, p, r⟩ := pq
      rw [q] at h
      obtain ⟨pos, rfl⟩ := asBin_eq q
      simp only [Bool.and_eq_true, decide_eq_true_eq] at h
      obtain ⟨⟨rfl, h1⟩, h2⟩ := h
      have ha := (snd a X sc l W gr so tk hN h1).1
      have hb := (snd b X sc r W gr so tk hN h2).1
      refine both gr rfl ?_ _
      cases o with
      | add => exact sAdd gr.hk ha hb
      | sub => exact sSub ha hb
      | mul => exact sMul ha hb
      | fdiv => exact sFdiv ha hb
      | mod => exact sMod ha hb
      | pow => exact sPow ha hb
  | .neg a => fun X sc e W gr so tk hN h => by
    simp only [mtE] at h
    cases q : asUn e with
    | none => rw [q] at h; cases h
    | some pq =>
      obtain ⟨o, x⟩ := pq
      rw [q] at h
      obtain ⟨pos, rfl⟩ := asUn_eq q
      simp only [Bool.and_eq_true, decide_eq_true_eq] at h
      obtain ⟨rfl, h1⟩ := h
      exact both gr rfl (sNeg (snd a X sc x W gr so tk hN h1).1) _
  | .not a => fun X sc e W gr so tk hN h => by
    simp only [mtE] at h
    cases q : asUn e with
    | none => rw [q] at h; cases h
    | some pq =>
      obtain ⟨o, x⟩ := pq
      rw [q] at h
      obtain ⟨pos, rfl⟩ := asUn_eq q
      simp only [Bool.and_eq_true, decide_eq_true_eq, Bool.not_eq_true'] at h
      obtain ⟨⟨rfl, h0⟩, h1⟩ := h
      obtain ⟨ha, ht⟩ := snd a X sc x W gr so tk hN h1
      exact ⟨sNot gr.hk ha, fun _ => ptE (sTNot (ht h0)) fun g s => evT_not g s⟩
  | .cmp o a b => fun X sc e W gr so tk hN h => by
    simp only [mtE] at h
    cases q : asCmp1 e with
    | none => rw [q] at h; cases h
    | some pq =>
      obtain ⟨l, p, r⟩ := pq
      rw [q] at h
      obtain ⟨pos, rfl⟩ := asCmp1_eq q
      simp only [Bool.and_eq_true, decide_eq_true_eq] at h
      obtain ⟨⟨⟨rfl, h0⟩, h1⟩, h2⟩ := h
      have ha := (snd a X sc l W gr so tk hN h1).1
      have hb := (snd b X sc r W gr so tk hN h2).1
      exact ⟨sCmpO gr.hk gr.hu o ha hb h0, fun _ => sTCmp gr.hk gr.hu o ha hb h0⟩
  | .chn o p a b c => fun X sc e W gr so tk hN h => by
    simp only [mtE] at h
    cases q : asCmp2 e with
    | none => rw [q] at h; cases h
    | some pq =>
      obtain ⟨l, p1, p2, r, t⟩ := pq
      rw [q] at h
      obtain ⟨pos, rfl⟩ := asCmp2_eq q
      simp only [Bool.and_eq_true, decide_eq_true_eq] at h
      obtain ⟨⟨⟨⟨⟨rfl, rfl⟩, h0⟩, h1⟩, h2⟩, h3⟩ := h
      have ha := (snd a X sc l W gr so tk hN h1).1
      have hb := (snd b X sc r W gr so tk hN h2).1
      have hc := (snd c X sc t W gr so tk hN h3).1
      exact ⟨sChn gr.hk gr.hu o p ha hb hc h0, fun _ => sTChn gr.hk gr.hu o p ha hb hc h0⟩
  | .and a b => fun X sc e W gr so tk hN h => by
    simp only [mtE] at h
    cases q : asBoolOp e with
    | none => rw [q] at h; cases h
    | some pq =>
      obtain ⟨o, x, y, syn⟩ := pq
      rw [q] at h
      obtain ⟨pos, hq⟩ := asBoolOp_eq q
      simp only [Bool.and_eq_true, decide_eq_true_eq, Bool.not_eq_true'] at h
      obtain ⟨⟨⟨⟨⟨rfl, h0⟩, h0'⟩, h3⟩, h1⟩, h2⟩ := h
      obtain ⟨ha, ta⟩ := snd a X sc x W gr so tk hN h1
      obtain ⟨hb, tb'⟩ := snd b X sc y W gr so tk hN h2
      rcases hq with ⟨_, rfl⟩ | ⟨_, u, z, r, rfl, rfl⟩
      · exact ⟨sAnd gr.hk ha (pe_one hb), fun _ => ptE (sTAnd (ta h0) (pw_and1 (tb' h0'))).pt fun g s => evT_and g s⟩
      · exact ⟨sAnd gr.hk ha hb, fun _ => ptE (sTAnd (ta h0) (pwOf (tb' h0'))).pt fun g s => evT_and g s⟩
  | .or a b => fun X sc e W gr so tk hN h => by
    simp only [mtE] at h
    cases q : asBoolOp e with
    | none => rw [q] at h; cases h
    | some pq =>
      obtain ⟨o, x, y, syn⟩ := pq
      rw [q] at h
      obtain ⟨pos, hq⟩ := asBoolOp_eq q
      simp only [Bool.and_eq_true, decide_eq_true_eq, Bool.not_eq_true'] at h
      obtain ⟨⟨⟨⟨⟨rfl, h0⟩, h0'⟩, h3⟩, h1⟩, h2⟩ := h
      obtain ⟨ha, ta⟩ := snd a X sc x W gr so tk hN h1
      obtain ⟨hb, tb'⟩ := snd b X sc y W gr so tk hN h2
      rcases hq with ⟨_, rfl⟩ | ⟨_, u, z, r, rfl, rfl⟩
      · exact ⟨sOr gr.hk ha (pe_one hb), fun _ => ptE (sTOr (ta h0) (pw_or1 (tb' h0'))).pt fun g s => evT_or g s⟩
      · exact ⟨sOr gr.hk ha hb, fun _ => ptE (sTOr (ta h0) (pwOf (tb' h0'))).pt fun g s => evT_or g s⟩
  | .ite t a b => fun X sc e W gr so tk hN h => by
    simp only [mtE] at h
    cases q : asIf e with
    | none => rw [q] at h; cases h
    | some pq =>
      obtain ⟨c, x, y⟩ := pq
      rw [q] at h
      obtain ⟨pos, rfl⟩ := asIf_eq q
      simp only [Bool.and_eq_true, Bool.not_eq_true'] at h
      obtain ⟨⟨⟨h0, h1⟩, h2⟩, h3⟩ := h
      refine ⟨peE (sIte ((snd t X sc c W gr so tk hN h1).2 h0) (snd a X sc x W gr so tk hN h2).1 (snd b X sc y W gr so tk hN h3).1) fun g s => ?_, fun z => by cases z⟩
      show _ = rb (evT (evE (enOf tb k) t) g s) _
      unfold evT
      rw [rb_rb]
      rfl
  | .tup es => fun X sc e W gr so tk hN h => by
    simp only [mtE] at h
    cases q : asTup e with
    | none => rw [q] at h; cases h
    | some xs =>
      rw [q] at h
      obtain ⟨n, pos, rfl⟩ := asTup_eq q
      exact both gr rfl (sTup (sndL es X sc xs W gr so tk hN h)) _
  | .lst es => fun X sc e W gr so tk hN h => by
    simp only [mtE] at h
    cases q : asLst e with
    | none => rw [q] at h; cases h
    | some xs =>
      rw [q] at h
      obtain ⟨pos, rfl⟩ := asLst_eq q
      exact both gr rfl (sLst (sndL es X sc xs W gr so tk hN h)) _
  | .idx a i => fun X sc e W gr so tk hN h => by
    simp only [mtE] at h
    cases q : asIdx e with
    | none => rw [q] at h; cases h
    | some pq =>
      obtain ⟨x, y⟩ := pq
      rw [q] at h
      obtain ⟨pos, rfl⟩ := asIdx_eq q
      simp only [Bool.and_eq_true] at h
      obtain ⟨⟨h0, h1⟩, h2⟩ := h
      exact both gr rfl (sIdx gr.hk gr.hu h0 (snd a X sc x W gr so tk hN h1).1 (snd i X sc y W gr so tk hN h2).1) _
  | .slc a lo hi => fun X sc e W gr so tk hN h => by
    simp only [mtE] at h
    cases q : asSlc e with
    | none => rw [q] at h; cases h
    | some pq =>
      obtain ⟨x, l, u⟩ := pq
      rw [q] at h
      obtain ⟨p, pos, rfl⟩ := asSlc_eq q
      simp only [Bool.and_eq_true] at h
      obtain ⟨⟨h0, h1⟩, h2⟩ := h
      have hl : PO X l (tO Z W H0 fun g s => if lo.isNon then some (.ok none, s) else rb (evE (enOf tb k) lo g s) fun l s => rp (partD l) s) := by
        cases l with
        | none =>
          rw [show lo.isNon = true from h1]
          exact sP0
        | some l =>
          simp only [Bool.and_eq_true, Bool.not_eq_true'] at h1
          rw [h1.1]
          exact sP1 (snd lo X sc l W gr so tk hN h1.2).1
      have hu : PO X u (tO Z W H0 fun g s => if hi.isNon then some (.ok none, s) else rb (evE (enOf tb k) hi g s) fun l s => rp (partD l) s) := by
        cases u with
        | none =>
          rw [show hi.isNon = true from h2]
          exact sP0
        | some l =>
          simp only [Bool.and_eq_true, Bool.not_eq_true'] at h2
          rw [h2.1]
          exact sP1 (snd hi X sc l W gr so tk hN h2.2).1
      exact both gr rfl (sSlc gr.hk (snd a X sc x W gr so tk hN h0).1 hl hu) _
  | .rev a => fun X sc e W gr so tk hN h => by
    simp only [mtE] at h
    cases q : asRev e with
    | none => rw [q] at h; cases h
    | some x =>
      rw [q] at h
      obtain ⟨n, p1, p2, p3, p4, rfl⟩ := asRev_eq q
      exact both gr rfl (sRev gr.hk (snd a X sc x W gr so tk hN h).1) _
  | .call f es => fun X sc e W gr so tk hN h => by
    simp only [mtE] at h
    cases q : asCall e with
    | none => rw [q] at h; cases h
    | some pq =>
      obtain ⟨x, y, ys⟩ := pq
      rw [q] at h
      obtain ⟨p, p2, rfl⟩ := asCall_eq q
      simp only [Bool.and_eq_true, decide_eq_true_eq] at h
      obtain ⟨⟨⟨h0, h1⟩, h2⟩, h3⟩ := h
      obtain ⟨fd, hf, rfl⟩ := Option.map_eq_some_iff.mp h0
      exact both gr rfl (sCall gr tk hf (so.gl h1) h2 (mtEs_star h3) (sndL es X sc (y :: ys) W gr so tk hN h3)) _
  | .bif f es => fun X sc e W gr so tk hN h => by
    simp only [mtE] at h
    cases q : asCall e with
    | none => rw [q] at h; cases h
    | some pq =>
      obtain ⟨x, y, ys⟩ := pq
      rw [q] at h
      obtain ⟨p, p2, rfl⟩ := asCall_eq q
      simp only [Bool.and_eq_true, decide_eq_true_eq] at h
      obtain ⟨⟨h0, h1⟩, h3⟩ := h
      exact both gr rfl (sBif gr h0 (so.gl h1) (mtEs_star h3) (sndL es X sc (y :: ys) W gr so tk hN h3)) _
  | .isi a t => fun X sc e W gr so tk hN h => by
    simp only [mtE] at h
    cases q : asCall e with
    | none => rw [q] at h; cases h
    | some pq =>
      obtain ⟨x, y, ys⟩ := pq
      rw [q] at h
      obtain ⟨p, p2, rfl⟩ := asCall_eq q
      cases ys with
      | nil => cases h
      | cons z zs =>
        cases zs with
        | cons _ _ => cases h
        | nil =>
          simp only [Bool.and_eq_true, decide_eq_true_eq] at h
          obtain ⟨⟨⟨⟨rfl, h0⟩, h1⟩, h2⟩, h3⟩ := h
          cases q2 : asName z with
          | none => rw [q2] at h3; cases h3
          | some w =>
            rw [q2] at h3
            obtain ⟨p3, rfl⟩ := asName_eq q2
            simp only [Bool.and_eq_true] at h3
            have hz := so.gl h3.1
            have hi := h3.2
            have ha := (snd a X sc y W gr so tk hN h2).1
            cases t with
            | cls c =>
              simp only [isiB, Bool.and_eq_true, decide_eq_true_eq] at hi
              exact both gr rfl (sIsC gr (so.gl h0) h1 ha hi.1 hi.2 hz) _
            | ve =>
              cases (of_decide_eq_true hi : w = ("ValueError" : Str))
              exact both gr rfl (sIsV gr (so.gl h0) h1 ha hz) _
            | int => exact both gr rfl (sIsi gr (so.gl h0) h1 ha (of_decide_eq_true hi) hz) _
            | bool => exact both gr rfl (sIsi gr (so.gl h0) h1 ha (of_decide_eq_true hi) hz) _
            | tuple => exact both gr rfl (sIsi gr (so.gl h0) h1 ha (of_decide_eq_true hi) hz) _
            | list => exact both gr rfl (sIsi gr (so.gl h0) h1 ha (of_decide_eq_true hi) hz) _
            | str => exact both gr rfl (sIsi gr (so.gl h0) h1 ha (of_decide_eq_true hi) hz) _
            | dict => exact both gr rfl (sIsi gr (so.gl h0) h1 ha (of_decide_eq_true hi) hz) _
  | .comp tg it ifs elt => fun X sc e W gr so tk hN h => by
    obtain ⟨h1, h2⟩ := (fCompS (snd it) (snd ifs) (snd elt) gr so tk hN h).pe gr
    refine both gr h2 (peE (sOwn isL_comp h1) fun g s => ?_) _
    exact comp_eq g s
  | .compR tg lo hi ifs elt => fun X sc e W gr so tk hN h => by
    obtain ⟨h1, h2⟩ := (fCompR (snd lo) (snd hi) (snd ifs) (snd elt) gr so tk hN h).pe gr
    refine both gr h2 (peE (sOwn isL_comp h1) fun g s => ?_) _
    exact compR_eq g s
  | .mth m a es => fun X sc e W gr so tk hN h => by
    simp only [mtE] at h
    cases q : asMth e with
    | none => rw [q] at h; cases h
    | some pq =>
      obtain ⟨o, x, y⟩ := pq
      rw [q] at h
      obtain ⟨pa, pc, rfl, hl⟩ := asMth_eq q
      simp only [Bool.and_eq_true, decide_eq_true_eq] at h
      obtain ⟨⟨⟨⟨h0, h1⟩, h2⟩, h3⟩, h4⟩ := h
      exact both gr rfl (sMth gr h0 h1 h2 hl (snd a X sc o W gr so tk hN h3).1 (sndL es X sc [y] W gr so tk hN h4)) _
  | .oidx i x => fun X sc e W gr so tk hN h => by
    simp only [mtE] at h
    cases q : asIdx e with
    | none => rw [q] at h; cases h
    | some pq =>
      obtain ⟨a, z⟩ := pq
      rw [q] at h
      obtain ⟨pos, rfl⟩ := asIdx_eq q
      simp only [Bool.and_eq_true] at h
      obtain ⟨⟨h0, h1⟩, h2⟩ := h
      cases q2 : asName a with
      | none => rw [q2] at h1; cases h1
      | some y =>
        rw [q2] at h1
        obtain ⟨p, rfl⟩ := asName_eq q2
        simp only [Bool.and_eq_true, decide_eq_true_eq] at h1
        refine both gr rfl (peW (pe_ix ix_list (pv_of so (by rw [hN]; exact h1.1.1) h1.1.2 h1.2) (snd x X sc z W gr so tk hN h2).1 (plainIx h0)) fun σ H Q ⟨g, s, Sh, ok, h⟩ => ?_) _
        exact sOidx gr.hk ok h
  | .dct0 => fun X sc e W gr so tk hN h => by
    simp only [mtE] at h
    split at h
    · exact both gr rfl sDct0 _
    · cases h
  | .odix i x => fun X sc e W gr so tk hN h => by
    simp only [mtE] at h
    cases q : asIdx e with
    | none => rw [q] at h; cases h
    | some pq =>
      obtain ⟨a, z⟩ := pq
      rw [q] at h
      obtain ⟨pos, rfl⟩ := asIdx_eq q
      simp only [Bool.and_eq_true] at h
      obtain ⟨⟨h0, h1⟩, h2⟩ := h
      cases q2 : asName a with
      | none => rw [q2] at h1; cases h1
      | some y =>
        rw [q2] at h1
        obtain ⟨p, rfl⟩ := asName_eq q2
        simp only [Bool.and_eq_true, decide_eq_true_eq] at h1
        refine both gr rfl (peW (pe_ix (ix_dictK (by have := gr.hu; omega)) (pv_of so (by rw [hN]; exact h1.1.1) h1.1.2 h1.2) (snd x X sc z W gr so tk hN h2).1 (plainIx h0)) fun σ H Q ⟨g, s, Sh, ok, h⟩ => ?_) _
        exact sOdix ok h
  | .ssort a => fun X sc e W gr so tk hN h => by
    simp only [mtE] at h
    cases q : asCall2 e with
    | none => rw [q] at h; cases h
    | some pq =>
      obtain ⟨x, y, z, zs⟩ := pq
      rw [q] at h
      obtain ⟨p1, p2, p3, p4, rfl⟩ := asCall2_eq q
      cases zs with
      | cons _ _ => cases h
      | nil =>
        simp only [Bool.and_eq_true, decide_eq_true_eq] at h
        obtain ⟨⟨⟨⟨⟨rfl, rfl⟩, h1⟩, h2⟩, h3⟩, h4⟩ := h
        exact both gr rfl (sSSort gr (so.gl h1) (so.gl h2) h3 (snd a X sc z W gr so tk hN h4).1) _
  | .slen a => fun X sc e W gr so tk hN h => by
    simp only [mtE] at h
    cases q : asCall2 e with
    | none => rw [q] at h; cases h
    | some pq =>
      obtain ⟨x, y, z, zs⟩ := pq
      rw [q] at h
      obtain ⟨p1, p2, p3, p4, rfl⟩ := asCall2_eq q
      cases zs with
      | cons _ _ => cases h
      | nil =>
        simp only [Bool.and_eq_true, decide_eq_true_eq] at h
        obtain ⟨⟨⟨⟨⟨rfl, rfl⟩, h1⟩, h2⟩, h3⟩, h4⟩ := h
        exact both gr rfl (sSLen gr (so.gl h1) (so.gl h2) h3 (snd a X sc z W gr so tk hN h4).1) _
  | .ksort a => fun X sc e W gr so tk hN h => by
    simp only [mtE] at h
    cases q : asCall e with
    | none => rw [q] at h; cases h
    | some pq =>
      obtain ⟨x, y, ys⟩ := pq
      rw [q] at h
      obtain ⟨p, p2, rfl⟩ := asCall_eq q
      cases ys with
      | cons _ _ => cases h
      | nil =>
        simp only [Bool.and_eq_true, decide_eq_true_eq] at h
        obtain ⟨⟨rfl, h0⟩, h1⟩ := h
        cases q2 : asKeys y with
        | none => rw [q2] at h1; cases h1
        | some o =>
          rw [q2] at h1
          obtain ⟨pa, pc, rfl, hl, hb⟩ := asKeys_eq q2
          exact both gr rfl (sKSort gr (so.gl h0) hb hl (snd a X sc o W gr so tk hN h1).1) _
  | .klist a => fun X sc e W gr so tk hN h => by
    simp only [mtE] at h
    cases q : asCall e with
    | none => rw [q] at h; cases h
    | some pq =>
      obtain ⟨x, y, ys⟩ := pq
      rw [q] at h
      obtain ⟨p, p2, rfl⟩ := asCall_eq q
      cases ys with
      | cons _ _ => cases h
      | nil =>
        simp only [Bool.and_eq_true, decide_eq_true_eq] at h
        obtain ⟨⟨rfl, h0⟩, h1⟩ := h
        cases q2 : asKeys y with
        | none => rw [q2] at h1; cases h1
        | some o =>
          rw [q2] at h1
          obtain ⟨pa, pc, rfl, hl, hb⟩ := asKeys_eq q2
          exact both gr rfl (sKList gr (so.gl h0) hb hl (snd a X sc o W gr so tk hN h1).1) _
  | .compK tg it ifs elt => fun X sc e W gr so tk hN h => by
    obtain ⟨h1, h2⟩ := (fCompK (snd it) (snd ifs) (snd elt) gr so tk hN h).pe gr
    refine both gr h2 (peE (sOwn isL_comp h1) fun g s => ?_) _
    exact compK_eq g s
  | .rngl lo hi => fun X sc e W gr so tk hN h => by
    simp only [mtE] at h
    cases q : asCall2 e with
    | none => rw [q] at h; cases h
    | some pq =>
      obtain ⟨x, r, y, ys⟩ := pq
      rw [q] at h
      obtain ⟨p1, p2, p3, p4, rfl⟩ := asCall2_eq q
      simp only [Bool.and_eq_true, decide_eq_true_eq] at h
      obtain ⟨⟨⟨⟨⟨rfl, rfl⟩, h1⟩, h2⟩, h3⟩, h4⟩ := h
      split at h4
      · simp only [Bool.and_eq_true] at h4
        cases isZero_eq h4.1
        exact both gr rfl (sRngl1 gr (so.gl h1) (so.gl h2) h3 (snd hi X sc y W gr so tk hN h4.2).1) _
      · rename_i z
        simp only [Bool.and_eq_true] at h4
        exact both gr rfl (sRngl2 gr (so.gl h1) (so.gl h2) h3 h4.1.1 (snd lo X sc y W gr so tk hN h4.1.2).1 (snd hi X sc z W gr so tk hN h4.2).1) _
      · cases h4
  | .dctd c a => fun X sc e W gr so tk hN h => by
    simp only [mtE] at h
    cases q : asDict1 e with
    | none => rw [q] at h; cases h
    | some pq =>
      obtain ⟨c', v⟩ := pq
      rw [q] at h
      simp only [Bool.and_eq_true, decide_eq_true_eq] at h
      obtain ⟨⟨rfl, h1⟩, h2⟩ := h
      obtain ⟨i, p1, p2, rfl⟩ := asDict1_eq q
      obtain ⟨kk, hk⟩ := Option.isSome_iff_exists.mp h1
      exact both gr rfl (sDisp1 hk (snd a X sc v W gr so tk hN h2).1) _
  | .callO f hh es => fun X sc e W gr so tk hN h => by
    simp only [mtE] at h
    cases q : asCall2 e with
    | none => rw [q] at h; cases h
    | some pq =>
      obtain ⟨x, y, z, zs⟩ := pq
      rw [q] at h
      obtain ⟨p1, p2, p3, p4, rfl⟩ := asCall2_eq q
      simp only [Bool.and_eq_true] at h
      obtain ⟨⟨⟨⟨⟨⟨h1, h2⟩, h3⟩, h4⟩, h5⟩, h6⟩, h7⟩ := h
      cases q1 : tb.fs f with
      | none => rw [q1] at h1; cases h1
      | some fd =>
        cases q2 : tb.fs hh with
        | none => rw [q2] at h2; cases h2
        | some hd =>
          rw [q1] at h1
          rw [q2] at h2
          simp only [Bool.and_eq_true, decide_eq_true_eq] at h1 h2
          obtain ⟨rfl, h1⟩ := h1
          obtain ⟨rfl, h2⟩ := h2
          obtain ⟨u, hu⟩ := Option.isSome_iff_exists.mp h2
          exact both gr rfl (sCallO gr tk q1 q2 hu h1 (so.gl h3) (so.gl h4) h5 h6 (mtEs_star h7) (sndL es X sc (z :: zs) W gr so tk hN h7)) _
  | .olen i => fun X sc e W gr so tk hN h => by
    simp only [mtE] at h
    cases q : asCall e with
    | none => rw [q] at h; cases h
    | some pq =>
      obtain ⟨x, y, ys⟩ := pq
      rw [q] at h
      obtain ⟨p, p2, rfl⟩ := asCall_eq q
      cases ys with
      | cons _ _ => cases h
      | nil =>
        simp only [Bool.and_eq_true, decide_eq_true_eq] at h
        obtain ⟨⟨rfl, h0⟩, h1⟩ := h
        cases q2 : asName y with
        | none => rw [q2] at h1; cases h1
        | some z =>
          rw [q2] at h1
          obtain ⟨p3, rfl⟩ := asName_eq q2
          simp only [Bool.and_eq_true, decide_eq_true_eq] at h1
          refine both gr rfl (peW (pe_callB call_len (so.gl h0) (gr.blt _ (by decide)) boot_len (pa_cons (pv_of so (by rw [hN]; exact h1.1.1) h1.1.2 h1.2) pa_nil (by rfl)) (by decide) (by decide) (by rfl) (by rfl)) fun σ H Q ⟨g, s, Sh, ok, h⟩ => ?_) _
          exact sOlen gr.hk ok h
theorem sndL : ∀ c : CEs, SndL tb k Z H0 N c
  | .nil => fun X sc e W gr so tk hN h => by
    simp only [mtEs] at h
    cases e with
    | nil => exact sNil
    | cons _ _ => cases h
  | .cons c cs => fun X sc e W gr so tk hN h => by
    cases e with
    | nil => simp [mtEs] at h
    | cons e es =>
      simp only [mtEs, Bool.and_eq_true] at h
      exact sCons h.1.1 (snd c X sc e W gr so tk hN h.1.2).1 (sndL cs X sc es W gr so tk hN h.2)
end
end
end FR
/-! FrSnd9: slots shared for a while; what is wanted behind statements. -/
namespace FR
open PySem PySem.Spec PyProof.Rows L2

def lsd : HO → Bool
  | .lst _ => true
  | .dK _ => true
  | _ => false
/-- more is shared: lists and dicts of our own -/
structure Fz (H Sh Sh' : Hp) : Prop where
  shs : Same Sh Sh'
  new : ∀ (a : Addr) (o : HO), Sh' a = some o → Sh a = some o ∨ (Sh a = none ∧ lsd o = true ∧ H a = some o)
theorem Fz.refl {H Sh : Hp} : Fz H Sh Sh := ⟨Same.refl _, fun _ _ e => .inl e⟩
theorem Fz.trans {H Sh Sh1 Sh2 : Hp} (a : Fz H Sh Sh1) (b : Fz H Sh1 Sh2) : Fz H Sh Sh2 := ⟨a.shs.trans b.shs, fun c o e => by
  rcases b.new c o e with h | ⟨h1, h2, h3⟩
  · exact a.new c o h
  · exact .inr ⟨a.shs.free h1, h2, h3⟩⟩
section
variable {Z : Gd} {H0 : Ent} {H Sh : Hp} {σ : L2.St} {g : G} {s : S}
theorem TownOk.putS {o : HO} {p : Addr} (t : TownOk Z H Sh s) (hp : some p ≠ Z.T) : TownOk Z H (upd Sh p o) s := by
  unfold TownOk at t ⊢
  split at t
  · trivial
  · rename_i x a n e1
    have h : a ≠ p := fun q => hp (by rw [← q, e1])
    rw [upd_ne h]
    exact t
  · exact t
theorem Ext.putS {H1 Sh1 : Hp} {o : HO} {p : Addr} (e : Ext Z H1 Sh1 H Sh s) (h1 : Sh p = none) (h2 : some p ≠ Z.T) (h3 : H1 p = none) (h4 : H p = some o) : Ext Z H1 Sh1 H (upd Sh p o) s where
  frame := e.frame
  shs := e.shs.trans (same_fresh h1)
  sub := fun b x q => by
    by_cases hb : b = p
    · subst hb
      rw [upd_same] at q
      cases q
      exact h4
    · rw [upd_ne hb] at q
      exact e.sub b x q
  town := e.town.putS h2
  new := fun b x q => by
    by_cases hb : b = p
    · subst hb
      exact .inr h3
    · rw [upd_ne hb] at q
      exact e.new b x q
theorem Ok.frz1 (k : Ok Z H0 σ g H Sh s) (i : Nat) (x : Sl) (e : g[i]? = some x) : ∃ Sh', Ok Z H0 σ (g.set i (frzS x)) H Sh' s ∧ Fz H Sh Sh' := by
  have hl : i < g.length := (List.getElem?_eq_some_iff.mp e).1
  have same : g.set i x = g := by
    obtain ⟨h1, h2⟩ := List.getElem?_eq_some_iff.mp e
    rw [← h2]
    exact List.set_getElem_self h1
  -- one of our own at a, its object o, its data d
  have key : ∀ (a : Addr) (o : HO) (d : D), isOwn x = true → σ[i]? = some (some (.ref a)) → Sh a = none → some a ≠ Z.T → H0.H a = none → H a = some o → lsd o = true → Rep Z (upd Sh a o) d (.ref a) → ∃ Sh', Ok Z H0 σ (g.set i (.dat d)) H Sh' s ∧ Fz H Sh Sh' := by
    intro a o d hx es h1 h2 h3 h4 h5 r
    have fr : Same Sh (upd Sh a o) := same_fresh h1
    refine ⟨upd Sh a o, ⟨k.ent.putS h1 h2 h3 h4, by rw [List.length_set]; exact k.len, fun j y p e1 e2 => ?_, fun j l y z p e1 e2 y1 z1 e3 e4 => ?_⟩, fr, fun b u q => ?_⟩
    · by_cases hj : j = i
      · subst hj
        rw [List.getElem?_set_self hl] at e1
        cases e1
        rw [es] at e2
        cases e2
        exact ⟨_, rfl, r⟩
      · rw [List.getElem?_set_ne (Ne.symm hj)] at e1
        have q := k.slot j y p e1 e2
        have nd : ∀ b, p = some (.ref b) → isOwn y = true → b ≠ a := fun b eb hy z => by
          subst z eb
          exact hj (k.dist j i y x _ e1 e hy hx e2 es)
        cases y with
        | un => trivial
        | dat d2 =>
          obtain ⟨v, e5, r5⟩ := q
          exact ⟨v, e5, r5.mono fr⟩
        | own ds =>
          obtain ⟨b, vs, e5, q1, q2, q3, q4, q5⟩ := q
          exact ⟨b, vs, e5, by rw [upd_ne (nd b e5 rfl)]; exact q1, q2, q3, q4, q5.mono fr⟩
        | ownD ds =>
          obtain ⟨b, vs, e5, q1, q2, q3, q4, q5⟩ := q
          exact ⟨b, vs, e5, by rw [upd_ne (nd b e5 rfl)]; exact q1, q2, q3, q4, q5.mono fr⟩
    · have na : ∀ {a : Nat} {x : Sl}, (g.set i (Sl.dat d))[a]? = some x → isOwn x = true → a ≠ i := fun {a x} e h z => by
        subst z
        rw [List.getElem?_set_self hl] at e
        cases e
        cases h
      have n1 := na e1 y1
      have n2 := na e2 z1
      rw [List.getElem?_set_ne (Ne.symm n1)] at e1
      rw [List.getElem?_set_ne (Ne.symm n2)] at e2
      exact k.dist j l y z p e1 e2 y1 z1 e3 e4
    · by_cases hb : b = a
      · subst hb
        rw [upd_same] at q
        cases q
        exact .inr ⟨h1, h5, h4⟩
      · rw [upd_ne hb] at q
        exact .inl q
  obtain ⟨o, es, q⟩ := k.get e
  cases x with
  | un =>
    refine ⟨Sh, ?_, Fz.refl⟩
    show Ok Z H0 σ (g.set i .un) H Sh s
    rw [same]
    exact k
  | dat d =>
    refine ⟨Sh, ?_, Fz.refl⟩
    show Ok Z H0 σ (g.set i (.dat d)) H Sh s
    rw [same]
    exact k
  | own ds =>
    obtain ⟨a, vs, rfl, q1, q2, q3, q4, q5⟩ := q
    exact key a _ (.lst ds) rfl es q1 q2 q3 q4 rfl (.lst upd_same (q5.mono (same_fresh q1)))
  | ownD ds =>
    refine ⟨Sh, ?_, Fz.refl⟩
    show Ok Z H0 σ (g.set i (.ownD ds)) H Sh s
    rw [same]
    exact k
/-- our own dict at a, locked and shared from now on -/
theorem Ok.lockD (k : Ok Z H0 σ g H Sh s) {i : Nat} {ks : List (Key × D)} {a : Addr} {vs : List (Key × V)} (od : Obj) (e : g[i]? = some (.ownD ks)) (es : σ[i]? = some (some (.ref a))) (h1 : Sh a = none) (h2 : some a ≠ Z.T) (h3 : H0.H a = none) (h4 : H a = some (.dK vs)) (r : RepK Z Sh ks vs) :
    Ok Z H0 σ (g.set i (.dat (.dct ks))) (upd H a (.frz od (.dK vs))) (upd Sh a (.frz od (.dK vs))) s ∧ Same Sh (upd Sh a (.frz od (.dK vs))) := by
  have hl : i < g.length := (List.getElem?_eq_some_iff.mp e).1
  have fr : Same Sh (upd Sh a (.frz od (.dK vs))) := same_fresh h1
  refine ⟨⟨⟨fun b x hT q => ?_, k.ent.shs.trans fr, same_upd2 k.sub _, ?_, fun b x q => ?_⟩, by rw [List.length_set]; exact k.len, fun j y p e1 e2 => ?_, fun j l y z p e1 e2 y1 z1 e3 e4 => ?_⟩, fr⟩
  · rw [upd_ne (ne_of_none q h3)]
    exact k.ent.frame b x hT q
  · have t := k.town
    unfold TownOk at t ⊢
    split at t
    · trivial
    · rename_i b n eT
      have hne : b ≠ a := fun z => h2 (by rw [← z, eT])
      rw [upd_ne hne, upd_ne hne]
      exact t
    · exact t
  · by_cases hb : b = a
    · subst hb
      exact .inr h3
    · rw [upd_ne hb] at q
      exact k.ent.new b x q
  · by_cases hj : j = i
    · subst hj
      rw [List.getElem?_set_self hl] at e1
      cases e1
      rw [es] at e2
      cases e2
      exact ⟨_, rfl, .dct upd_same (r.mono fr)⟩
    · rw [List.getElem?_set_ne (Ne.symm hj)] at e1
      have q := k.slot j y p e1 e2
      have nd : ∀ b, p = some (.ref b) → isOwn y = true → b ≠ a := fun b eb hy z => by
        subst z eb
        exact hj (k.dist j i y _ _ e1 e hy rfl e2 es)
      cases y with
      | un => trivial
      | dat d2 =>
        obtain ⟨v, e5, r5⟩ := q
        exact ⟨v, e5, r5.mono fr⟩
      | own ds =>
        obtain ⟨b, vs', e5, q1, q2, q3, q4, q5⟩ := q
        exact ⟨b, vs', e5, by rw [upd_ne (nd b e5 rfl)]; exact q1, q2, q3, by rw [upd_ne (nd b e5 rfl)]; exact q4, q5.mono fr⟩
      | ownD ds =>
        obtain ⟨b, vs', e5, q1, q2, q3, q4, q5⟩ := q
        exact ⟨b, vs', e5, by rw [upd_ne (nd b e5 rfl)]; exact q1, q2, q3, by rw [upd_ne (nd b e5 rfl)]; exact q4, q5.mono fr⟩
  · have na : ∀ {b : Nat} {x : Sl}, (g.set i (Sl.dat (.dct ks)))[b]? = some x → isOwn x = true → b ≠ i := fun {b x} e h z => by
      subst z
      rw [List.getElem?_set_self hl] at e
      cases e
      cases h
    have n1 := na e1 y1
    have n2 := na e2 z1
    rw [List.getElem?_set_ne (Ne.symm n1)] at e1
    rw [List.getElem?_set_ne (Ne.symm n2)] at e2
    exact k.dist j l y z p e1 e2 y1 z1 e3 e4
theorem Ok.frz : ∀ (L : List Nat) {g : G} {Sh : Hp}, Ok Z H0 σ g H Sh s → ∃ Sh', Ok Z H0 σ (frz g L) H Sh' s ∧ Fz H Sh Sh'
  | [], g, Sh, k => ⟨Sh, k, Fz.refl⟩
  | i :: L, g, Sh, k => by
    rw [FR.frz]
    cases e : g[i]? with
    | none => exact Ok.frz L k
    | some x =>
      obtain ⟨Sh1, k1, f1⟩ := k.frz1 i x e
      obtain ⟨Sh2, k2, f2⟩ := Ok.frz L k1
      exact ⟨Sh2, k2, f1.trans f2⟩
mutual
theorem Rep.thin {Sh2 Sh3 : Hp} (h : ∀ a o, Sh2 a = some o → lsd o = false → Sh3 a = some o) : ∀ {d : D} {v : V}, Rep Z Sh2 d v → d.lf = true → Rep Z Sh3 d v
  | _, _, .non, _ => .non
  | _, _, .bl b, _ => .bl b
  | _, _, .int b, _ => .int b
  | _, _, .str b, _ => .str b
  | _, _, .tup x y, q => by
    refine .tup ?_ (RepL.thin h y (by simpa [D.lf] using q))
    rcases x with (x | ⟨o, x⟩) | x
    · exact .inl (.inl (h _ _ x rfl))
    · exact .inl (.inr ⟨o, h _ _ x rfl⟩)
    · exact .inr x
  | _, _, .lst x y, q => by simp [D.lf] at q
  | _, _, .dct x y, q => by simp [D.lf] at q
  | _, _, .fn f, _ => .fn f
  | _, _, .exc c x, _ => .exc c (h _ _ x rfl)
  | _, _, .town x, q => by simp [D.lf] at q
  | _, _, .scr x, q => by simp [D.lf] at q
theorem RepL.thin {Sh2 Sh3 : Hp} (h : ∀ a o, Sh2 a = some o → lsd o = false → Sh3 a = some o) : ∀ {d : List D} {v : List V}, RepL Z Sh2 d v → D.lfL d = true → RepL Z Sh3 d v
  | _, _, .nil, _ => .nil
  | _, _, .cons x y, q => by
    simp only [D.lfL, Bool.and_eq_true] at q
    exact .cons (Rep.thin h x q.1) (RepL.thin h y q.2)
end
/-- the shared part without what was shared for a while -/
def thinH (Sh Sh1 Sh2 : Hp) : Hp := fun a => match Sh a, Sh1 a with
  | none, some _ => none
  | _, _ => Sh2 a
theorem Ok.back {Sh1 H' Sh2 : Hp} {s' : S} (k : Ok Z H0 σ g H Sh s) (f : Fz H Sh Sh1) (e : Ext Z H Sh1 H' Sh2 s') :
    ∃ Sh3, Ok Z H0 σ g H' Sh3 s' ∧ Same Sh Sh3 ∧ (∀ a, Sh2 a = none → Sh3 a = none) ∧ (∀ d v, d.lf = true → Rep Z Sh2 d v → Rep Z Sh3 d v) ∧ ∀ ds vs, D.lfL ds = true → RepL Z Sh2 ds vs → RepL Z Sh3 ds vs := by
  have out : ∀ a o, thinH Sh Sh1 Sh2 a = some o → Sh2 a = some o ∧ (Sh a ≠ none ∨ Sh1 a = none) := fun a o q => by
    unfold thinH at q
    split at q
    · cases q
    · rename_i h1 h2
      refine ⟨q, ?_⟩
      cases q1 : Sh a with
      | some _ => exact .inl (by simp)
      | none =>
        cases q2 : Sh1 a with
        | none => exact .inr rfl
        | some _ => exact (h2 _ q1 q2).elim
  have into : ∀ a, (Sh a ≠ none ∨ Sh1 a = none) → thinH Sh Sh1 Sh2 a = Sh2 a := fun a h => by
    unfold thinH
    split
    · rename_i q1 q2
      rcases h with h | h
      · exact absurd q1 h
      · rw [q2] at h
        cases h
    · rfl
  have same : Same Sh (thinH Sh Sh1 Sh2) := fun a o q => by
    rw [into a (.inl (by rw [q]; simp))]
    exact e.shs a o (f.shs a o q)
  have thin : ∀ a o, Sh2 a = some o → lsd o = false → thinH Sh Sh1 Sh2 a = some o := fun a o q hl => by
    rw [into a ?_]
    · exact q
    · cases q1 : Sh a with
      | some _ => exact .inl (by simp)
      | none =>
        cases q2 : Sh1 a with
        | none => exact .inr rfl
        | some u =>
          rcases f.new a u q2 with z | ⟨_, z, _⟩
          · rw [q1] at z
            cases z
          · have := e.shs a u q2
            rw [q] at this
            cases this
            rw [hl] at z
            cases z
  have noOwn : ∀ a o, Sh a = none → H a = some o → thinH Sh Sh1 Sh2 a = none := fun a o h1 h2 => by
    cases q : thinH Sh Sh1 Sh2 a with
    | none => rfl
    | some u =>
      obtain ⟨h3, h4⟩ := out a u q
      rcases h4 with h4 | h4
      · exact absurd h1 h4
      · rcases e.new a u h3 with z | z
        · rw [h4] at z
          cases z
        · rw [h2] at z
          cases z
  refine ⟨thinH Sh Sh1 Sh2, ⟨⟨fun a o h q => e.frame a o h (k.ent.frame a o h q), k.ent.shs.trans same, fun a o q => e.sub a o (out a o q).1, ?_, fun a o q => ?_⟩, k.len, fun i x o e1 e2 => ?_, k.dist⟩, same, fun a h => ?_, fun d v hd r => r.thin thin hd, fun ds vs hd r => r.thin thin hd⟩
  · have t := e.town
    unfold TownOk at t ⊢
    split at t
    · trivial
    · rename_i x a n e1
      refine ⟨?_, t.2⟩
      cases q : thinH Sh Sh1 Sh2 a with
      | none => rfl
      | some u =>
        rw [(out a u q).1] at t
        cases t.1
    · exact t
  · obtain ⟨h3, h4⟩ := out a o q
    rcases e.new a o h3 with z | z
    · rcases f.new a o z with z2 | ⟨z2, _, _⟩
      · exact k.ent.new a o z2
      · rcases h4 with h4 | h4
        · exact absurd z2 h4
        · rw [h4] at z
          cases z
    · rcases k.ent.gone z with h | h
      · exact .inr h
      · obtain ⟨_, _, _, h2⟩ := k.town.there h.symm
        rw [z] at h2
        cases h2
  · have q := k.slot i x o e1 e2
    cases x with
    | un => trivial
    | dat d =>
      obtain ⟨v, e5, r⟩ := q
      exact ⟨v, e5, r.mono same⟩
    | own ds =>
      obtain ⟨a, vs, e5, q1, q2, q3, q4, q5⟩ := q
      exact ⟨a, vs, e5, noOwn a _ q1 q4, q2, q3, e.frame a _ q2 q4, q5.mono same⟩
    | ownD ds =>
      obtain ⟨a, vs, e5, q1, q2, q3, q4, q5⟩ := q
      exact ⟨a, vs, e5, noOwn a _ q1 q4, q2, q3, e.frame a _ q2 q4, q5.mono same⟩
  · cases q : thinH Sh Sh1 Sh2 a with
    | none => rfl
    | some u =>
      have := (out a u q).1
      rw [h] at this
      cases this
end

/-! ### what is wanted behind a statement -/
section
variable (Z : Gd) (W : WX) (H0 : Ent)
def EvS (Sh : Hp) (o : EV Fl) (D : Ends) : Prop := match o with
  | some (.ok (.nx g), s) => ∀ (σ : L2.St) (H Sh' : Hp), Same Sh Sh' → Ok Z H0 σ g H Sh' s → D.nx σ H
  | some (.ok (.ct g), s) => ∀ (σ : L2.St) (H Sh' : Hp), Same Sh Sh' → Ok Z H0 σ g H Sh' s → D.ct σ H
  | some (.ok (.bk g), s) => ∀ (σ : L2.St) (H Sh' : Hp), Same Sh Sh' → Ok Z H0 σ g H Sh' s → D.bk σ H
  | some (.ok (.rt d), s) => ∀ (v : V) (H Sh' : Hp), Ext Z H0.H H0.Sh H Sh' s → Rep Z Sh' d v → D.rt v H
  | some (.exn c, s) => ∀ (σ : L2.St) (H Sh' : Hp), Ext Z H0.H H0.Sh H Sh' s → W (.ref (Z.cA c)) none σ H
  | none => False
def tS (ev : G → S → EV Fl) : TS := fun D σ H => ∃ (g : G) (s : S) (Sh : Hp), Ok Z H0 σ g H Sh s ∧ EvS Z W H0 Sh (ev g s) D
end
section
variable {Z : Gd} {W : WX} {H0 : Ent} {H Sh : Hp} {σ : L2.St} {g : G} {s : S} {D : Ends} {α β : Type} {rel : Hp → α → β → Prop}
theorem EvS.mono {Sh' : Hp} {o : EV Fl} (h : EvS Z W H0 Sh o D) (x : Same Sh Sh') : EvS Z W H0 Sh' o D := by
  unfold EvS at h ⊢
  split
  · exact fun σ H Sh2 y k => h σ H Sh2 (x.trans y) k
  · exact fun σ H Sh2 y k => h σ H Sh2 (x.trans y) k
  · exact fun σ H Sh2 y k => h σ H Sh2 (x.trans y) k
  · exact h
  · exact h
  · exact h
theorem EvS.imp {o : EV Fl} {D' : Ends} (h : EvS Z W H0 Sh o D) (h1 : ∀ σ H, D.nx σ H → D'.nx σ H) (h2 : ∀ σ H, D.ct σ H → D'.ct σ H) (h3 : ∀ σ H, D.bk σ H → D'.bk σ H) (h4 : ∀ v H, D.rt v H → D'.rt v H) : EvS Z W H0 Sh o D' := by
  unfold EvS at h ⊢
  split
  · exact fun σ H Sh2 y k => h1 _ _ (h σ H Sh2 y k)
  · exact fun σ H Sh2 y k => h2 _ _ (h σ H Sh2 y k)
  · exact fun σ H Sh2 y k => h3 _ _ (h σ H Sh2 y k)
  · exact fun v H Sh2 y k => h4 _ _ (h v H Sh2 y k)
  · exact h
  · exact h
/-- an answer, then on -/
theorem EvS.bind {o : EV α} {f : α → S → EV Fl} {Sh1 : Hp} {Q : β → Hp → Prop} (k : Ok Z H0 σ g H Sh1 s) (h : EvS Z W H0 Sh (rb o f) D) (q : ∀ a s' v H' Sh', Ext Z H Sh1 H' Sh' s' → rel Sh' a v → EvS Z W H0 Sh (f a s') D → Q v H') : EvX Z W rel o σ H Sh1 Q := by
  unfold EvX
  cases o with
  | none => exact h.elim
  | some p =>
    obtain ⟨r, s1⟩ := p
    cases r with
    | exn c => exact fun H' Sh' e => h σ H' Sh' (k.ent.trans e)
    | ok a => exact fun v H' Sh' e r => q a s1 v H' Sh' e r h
/-- an expression at a statement's head -/
theorem EvS.exE {en : En} {L : List Nat} {e : CE} {f : FR.D → G → S → EV Fl} {Q : VK} (k : Ok Z H0 σ g H Sh s) (h : EvS Z W H0 Sh (exE en L e g s f) D)
    (q : ∀ d g' s' v H' Sh', Same Sh Sh' → Ok Z H0 σ g' H' Sh' s' → (g' = g ∨ g' = FR.frz g L) → (∀ a o, some a ≠ Z.T → H a = some o → H' a = some o) → Rep Z Sh' d v → EvS Z W H0 Sh (f d g' s') D → Q v H') :
    ∃ Sh1, Ok Z H0 σ (FR.frz g L) H Sh1 s ∧ EvX Z W (Rep Z) (evE en e (FR.frz g L) s) σ H Sh1 Q := by
  obtain ⟨Sh1, k1, fz⟩ := k.frz L
  refine ⟨Sh1, k1, EvS.bind k1 h fun d s' v H' Sh' x r h => ?_⟩
  cases hd : d.lf with
  | false =>
    rw [hd, if_neg Bool.false_ne_true] at h
    exact q d _ s' v H' Sh' (fz.shs.trans x.shs) (k1.ext x) (.inr rfl) x.frame r h
  | true =>
    rw [hd, if_pos rfl] at h
    obtain ⟨Sh3, k3, sm, _, r3, _⟩ := k.back fz x
    exact q d _ s' v H' Sh3 sm k3 (.inl rfl) x.frame (r3 d v hd r) h
theorem EvS.test {en : En} {L : List Nat} {e : CE} {f : Bool → S → EV Fl} {Q : Bool → Hp → Prop} (k : Ok Z H0 σ g H Sh s) (h : EvS Z W H0 Sh (rb (testE en L e g s) f) D)
    (q : ∀ b s' H' Sh', Same Sh Sh' → Ok Z H0 σ g H' Sh' s' → EvS Z W H0 Sh (f b s') D → Q b H') :
    ∃ Sh1, Ok Z H0 σ (FR.frz g L) H Sh1 s ∧ EvX Z W (fun _ a b => a = b) (evT (evE en e) (FR.frz g L) s) σ H Sh1 Q := by
  obtain ⟨Sh1, k1, fz⟩ := k.frz L
  refine ⟨Sh1, k1, EvS.bind (o := testE en L e g s) k1 h fun b s' v H' Sh' x r h => ?_⟩
  subst r
  obtain ⟨Sh3, k3, sm, _⟩ := k.back fz x
  exact q b s' H' Sh3 sm k3 h
end
end FR
/-! FrSnd10: rules for statements. -/
namespace FR
open PySem PySem.Spec PyProof.Rows L2

/-! ### our own lists changed -/
section
variable {Z : Gd} {H0 : Ent} {H Sh : Hp} {σ : L2.St} {g : G} {s : S}
theorem Ext.upd1 {H1 Sh1 : Hp} {o : HO} {p : Addr} (e : Ext Z H1 Sh1 H Sh s) (h1 : Sh p = none) (h2 : some p ≠ Z.T) (h3 : H1 p = none) : Ext Z H1 Sh1 (upd H p o) Sh s where
  frame := fun a x h q => by
    rw [upd_ne (ne_of_none q h3)]
    exact e.frame a x h q
  shs := e.shs
  sub := fun a x q => by
    rw [upd_ne (ne_of_none q h1)]
    exact e.sub a x q
  town := by
    have t := e.town
    unfold TownOk at t ⊢
    split at t
    · trivial
    · rename_i x a n e1
      have h : a ≠ p := fun z => h2 (by rw [← z, e1])
      rw [upd_ne h]
      exact t
    · exact t
  new := e.new
/-- the list of slot i is changed -/
theorem Ok.mut (k : Ok Z H0 σ g H Sh s) {i : Nat} {x : Sl} {a : Addr} {es : List D} {vs : List V} (e : g[i]? = some x) (hx : isOwn x = true) (es1 : σ[i]? = some (some (.ref a))) (h1 : Sh a = none) (h2 : some a ≠ Z.T) (h3 : H0.H a = none) (r : RepL Z Sh es vs) :
    Ok Z H0 σ (g.set i (.own es)) (upd H a (.lst vs)) Sh s where
  ent := k.ent.upd1 h1 h2 h3
  len := by rw [List.length_set]; exact k.len
  slot := fun j y p e1 e2 => by
    by_cases hj : j = i
    · subst hj
      rw [List.getElem?_set_self (List.getElem?_eq_some_iff.mp e).1] at e1
      cases e1
      rw [es1] at e2
      cases e2
      exact ⟨a, vs, rfl, h1, h2, h3, upd_same, r⟩
    · rw [List.getElem?_set_ne (Ne.symm hj)] at e1
      have q := k.slot j y p e1 e2
      have nd : ∀ b, p = some (.ref b) → isOwn y = true → b ≠ a := fun b eb hy z => by
        subst z eb
        exact hj (k.dist j i y x _ e1 e hy hx e2 es1)
      cases y with
      | un => trivial
      | dat d2 => exact q
      | own ds =>
        obtain ⟨b, vs, e5, q1, q2, q3, q4, q5⟩ := q
        exact ⟨b, vs, e5, q1, q2, q3, by rw [upd_ne (nd b e5 rfl)]; exact q4, q5⟩
      | ownD ds =>
        obtain ⟨b, vs, e5, q1, q2, q3, q4, q5⟩ := q
        exact ⟨b, vs, e5, q1, q2, q3, by rw [upd_ne (nd b e5 rfl)]; exact q4, q5⟩
  dist := fun j l y z p e1 e2 y1 z1 e3 e4 => by
    have key : ∀ {j : Nat} {y : Sl}, (g.set i (Sl.own es))[j]? = some y → isOwn y = true → ∃ y', g[j]? = some y' ∧ isOwn y' = true := fun {j y} e1 y1 => by
      by_cases hj : j = i
      · subst hj
        exact ⟨x, e, hx⟩
      · rw [List.getElem?_set_ne (Ne.symm hj)] at e1
        exact ⟨y, e1, y1⟩
    obtain ⟨y', q1, q2⟩ := key e1 y1
    obtain ⟨z', q3, q4⟩ := key e2 z1
    exact k.dist j l y' z' p q1 q3 q2 q4 e3 e4
/-- a new list of our own is put into slot i -/
theorem Ok.setOwn (k : Ok Z H0 σ g H Sh s) {i : Nat} {a : Addr} {es : List D} {vs : List V} (h1 : Sh a = none) (h2 : some a ≠ Z.T) (h3 : H0.H a = none) (h4 : H a = some (.lst vs)) (r : RepL Z Sh es vs) (hn : ∀ (j : Nat) (y : Sl), g[j]? = some y → isOwn y = true → σ[j]? ≠ some (some (.ref a))) :
    Ok Z H0 (σ.set i (some (.ref a))) (g.set i (.own es)) H Sh s where
  ent := k.ent
  len := by rw [List.length_set, List.length_set]; exact k.len
  slot := fun j y p e1 e2 => by
    by_cases hj : j = i
    · subst hj
      have hl : j < g.length := by
        have := (List.getElem?_eq_some_iff.mp e1).1
        rwa [List.length_set] at this
      rw [List.getElem?_set_self hl] at e1
      rw [List.getElem?_set_self (by rw [k.len]; exact hl)] at e2
      cases e1
      cases e2
      exact ⟨a, vs, rfl, h1, h2, h3, h4, r⟩
    · rw [List.getElem?_set_ne (Ne.symm hj)] at e1 e2
      exact k.slot j y p e1 e2
  dist := fun j l y z p e1 e2 y1 z1 e3 e4 => by
    by_cases hj : j = i
    · by_cases hl : l = i
      · rw [hj, hl]
      · exfalso
        subst hj
        rw [List.getElem?_set_ne (Ne.symm hl)] at e2 e4
        have hg : j < σ.length := by
          have := (List.getElem?_eq_some_iff.mp e3).1
          rwa [List.length_set] at this
        rw [List.getElem?_set_self hg] at e3
        cases e3
        exact hn l z e2 z1 e4
    · rw [List.getElem?_set_ne (Ne.symm hj)] at e1 e3
      by_cases hl : l = i
      · exfalso
        subst hl
        have hg : l < σ.length := by
          have := (List.getElem?_eq_some_iff.mp e4).1
          rwa [List.length_set] at this
        rw [List.getElem?_set_self hg] at e4
        cases e4
        exact hn j y e1 y1 e3
      · rw [List.getElem?_set_ne (Ne.symm hl)] at e2 e4
        exact k.dist j l y z p e1 e2 y1 z1 e3 e4
/-- the town grows -/
theorem Ok.tapped (k : Ok Z H0 σ g H Sh s) {t : Addr} {n : Nat} (e : Z.T = some t) (hs : s = some n) : Ok Z H0 σ g (upd H t (.lst (List.replicate n (V.int 0) ++ [.int 0]))) Sh (some (n + 1)) := by
  obtain ⟨n', e1, h1, h2⟩ := k.town.there e
  rw [hs] at e1
  cases e1
  refine ⟨⟨fun a x h q => ?_, k.ent.shs, fun a x q => ?_, ?_, k.ent.new⟩, k.len, fun j y p e1 e2 => ?_, k.dist⟩
  · have : a ≠ t := fun z => h (by rw [z, e])
    rw [upd_ne this]
    exact k.ent.frame a x h q
  · rw [upd_ne (ne_of_none q h1)]
    exact k.sub a x q
  · unfold TownOk
    rw [e]
    refine ⟨h1, ?_⟩
    rw [upd_same, List.replicate_succ']
  · have q := k.slot j y p e1 e2
    cases y with
    | un => trivial
    | dat d2 => exact q
    | own ds =>
      obtain ⟨b, vs, e5, q1, q2, q3, q4, q5⟩ := q
      exact ⟨b, vs, e5, q1, q2, q3, by rw [upd_ne fun z => q2 (by rw [z, e])]; exact q4, q5⟩
    | ownD ds =>
      obtain ⟨b, vs, e5, q1, q2, q3, q4, q5⟩ := q
      exact ⟨b, vs, e5, q1, q2, q3, by rw [upd_ne fun z => q2 (by rw [z, e])]; exact q4, q5⟩
/-- something of our own is changed, in place -/
theorem Ok.mutG (k : Ok Z H0 σ g H Sh s) {i : Nat} {x y : Sl} {a : Addr} {o : HO} (e : g[i]? = some x) (hx : isOwn x = true) (hy : isOwn y = true) (es1 : σ[i]? = some (some (.ref a))) (h1 : Sh a = none) (h2 : some a ≠ Z.T) (h3 : H0.H a = none) (hs : SlOk Z (upd H a o) Sh H0 y (some (.ref a))) :
    Ok Z H0 σ (g.set i y) (upd H a o) Sh s where
  ent := k.ent.upd1 h1 h2 h3
  len := by rw [List.length_set]; exact k.len
  slot := fun j z p e1 e2 => by
    by_cases hj : j = i
    · subst hj
      rw [List.getElem?_set_self (List.getElem?_eq_some_iff.mp e).1] at e1
      cases e1
      rw [es1] at e2
      cases e2
      exact hs
    · rw [List.getElem?_set_ne (Ne.symm hj)] at e1
      have q := k.slot j z p e1 e2
      have nd : ∀ b, p = some (.ref b) → isOwn z = true → b ≠ a := fun b eb hz w => by
        subst w eb
        exact hj (k.dist j i z x _ e1 e hz hx e2 es1)
      cases z with
      | un => trivial
      | dat d2 => exact q
      | own ds =>
        obtain ⟨b, vs, e5, q1, q2, q3, q4, q5⟩ := q
        exact ⟨b, vs, e5, q1, q2, q3, by rw [upd_ne (nd b e5 rfl)]; exact q4, q5⟩
      | ownD ds =>
        obtain ⟨b, vs, e5, q1, q2, q3, q4, q5⟩ := q
        exact ⟨b, vs, e5, q1, q2, q3, by rw [upd_ne (nd b e5 rfl)]; exact q4, q5⟩
  dist := fun j l u z p e1 e2 y1 z1 e3 e4 => by
    have key : ∀ {j : Nat} {u : Sl}, (g.set i y)[j]? = some u → isOwn u = true → ∃ u', g[j]? = some u' ∧ isOwn u' = true := fun {j u} e1 y1 => by
      by_cases hj : j = i
      · subst hj
        exact ⟨x, e, hx⟩
      · rw [List.getElem?_set_ne (Ne.symm hj)] at e1
        exact ⟨u, e1, y1⟩
    obtain ⟨y', q1, q2⟩ := key e1 y1
    obtain ⟨z', q3, q4⟩ := key e2 z1
    exact k.dist j l y' z' p q1 q3 q2 q4 e3 e4
/-- something new of our own is put into slot i -/
theorem Ok.setG (k : Ok Z H0 σ g H Sh s) {i : Nat} {a : Addr} {x : Sl} (hs : SlOk Z H Sh H0 x (some (.ref a))) (hn : ∀ (j : Nat) (y : Sl), g[j]? = some y → isOwn y = true → σ[j]? ≠ some (some (.ref a))) :
    Ok Z H0 (σ.set i (some (.ref a))) (g.set i x) H Sh s where
  ent := k.ent
  len := by rw [List.length_set, List.length_set]; exact k.len
  slot := fun j y p e1 e2 => by
    by_cases hj : j = i
    · subst hj
      have hl : j < g.length := by
        have := (List.getElem?_eq_some_iff.mp e1).1
        rwa [List.length_set] at this
      rw [List.getElem?_set_self hl] at e1
      rw [List.getElem?_set_self (by rw [k.len]; exact hl)] at e2
      cases e1
      cases e2
      exact hs
    · rw [List.getElem?_set_ne (Ne.symm hj)] at e1 e2
      exact k.slot j y p e1 e2
  dist := fun j l y z p e1 e2 y1 z1 e3 e4 => by
    by_cases hj : j = i
    · by_cases hl : l = i
      · rw [hj, hl]
      · exfalso
        subst hj
        rw [List.getElem?_set_ne (Ne.symm hl)] at e2 e4
        have hg : j < σ.length := by
          have := (List.getElem?_eq_some_iff.mp e3).1
          rwa [List.length_set] at this
        rw [List.getElem?_set_self hg] at e3
        cases e3
        exact hn l z e2 z1 e4
    · rw [List.getElem?_set_ne (Ne.symm hj)] at e1 e3
      by_cases hl : l = i
      · exfalso
        subst hl
        have hg : l < σ.length := by
          have := (List.getElem?_eq_some_iff.mp e4).1
          rwa [List.length_set] at this
        rw [List.getElem?_set_self hg] at e4
        cases e4
        exact hn j y e1 y1 e3
      · rw [List.getElem?_set_ne (Ne.symm hl)] at e2 e4
        exact k.dist j l y z p e1 e2 y1 z1 e3 e4
/-- what is new stands in no slot of our own -/
theorem Ok.free (ok : Ok Z H0 σ g H Sh s) {p : Addr} (hp : H p = none) : ∀ (j : Nat) (y : Sl), g[j]? = some y → isOwn y = true → σ[j]? ≠ some (some (.ref p)) := fun j y e1 y1 z => by
  obtain ⟨o, e2, q2⟩ := ok.get e1
  rw [z] at e2
  cases e2
  cases y with
  | own ds =>
    obtain ⟨b, vs, e5, _, _, _, q4, _⟩ := q2
    cases e5
    rw [hp] at q4
    cases q4
  | ownD ds =>
    obtain ⟨b, vs, e5, _, _, _, q4, _⟩ := q2
    cases e5
    rw [hp] at q4
    cases q4
  | _ => cases y1
theorem Ok.ownA (k : Ok Z H0 σ g H Sh s) {i : Nat} (h : ownB g[i]? = true) : ∃ a, σ[i]? = some (some (.ref a)) ∧ some a ≠ Z.T := by
  unfold ownB at h
  split at h
  · rename_i q
    obtain ⟨o, e1, a, vs, rfl, _, h2, _⟩ := k.get q
    exact ⟨a, e1, h2⟩
  · rename_i q
    obtain ⟨o, e1, a, vs, rfl, _, h2, _⟩ := k.get q
    exact ⟨a, e1, h2⟩
  · cases h
end

/-! ### statements, by their parts -/
section
variable {Z : Gd} {W : WX} {H0 : Ent} {X : Cx} {en : En} {st : Stmt}
/-- slot i := an expression -/
theorem rAsg {L : List Nat} {i : Nat} {e : CE} {t : TS} (h : PS X st t) (ht : ∀ D σ H, tV Z W H0 (evE en e) σ H (fun v H1 => D.nx (σ.set i (some v)) H1) → t D σ H) :
    PS X st (tS Z W H0 fun g s => exE en L e g s fun d g s => some (.ok (.nx (g.set i (.dat d))), s)) :=
  psW h fun D σ H ⟨g, s, Sh, ok, h⟩ => ht D σ H (by
    obtain ⟨Sh1, k1, q⟩ := EvS.exE (Q := fun v H1 => D.nx (σ.set i (some v)) H1) ok h fun d g' s' v H' Sh' sm k2 _ _ r h2 => h2 _ H' Sh' sm (k2.set r i)
    exact ⟨_, s, Sh1, k1, q⟩)
/-- the same, a new list of our own -/
theorem ownTF {L : List Nat} {i : Nat} {e : CE} {σ : L2.St} {H Sh : Hp} {g : G} {s : S} {D : Ends} (hl : isL (evE en e)) (ok : Ok Z H0 σ g H Sh s) (h : EvS Z W H0 Sh (rb (evE en e (frz g L) s) fun d s => match d with
      | .lst ds => some (.ok (.nx ((if FR.D.lfL ds then g else frz g L).set i (.own ds))), s)
      | .dct ks => some (.ok (.nx ((if FR.D.lfL (ks.map (·.2)) then g else frz g L).set i (.ownD ks))), s)
      | _ => none) D) : tF Z W H0 (evE en e) σ H (fun v H1 => D.nx (σ.set i (some v)) H1) := by
  obtain ⟨Sh1, k1, fz⟩ := ok.frz L
  refine ⟨_, s, Sh1, k1, ?_⟩
  unfold EvF
  cases q : evE en e (frz g L) s with
  | none =>
    rw [q] at h
    exact h.elim
  | some p =>
    obtain ⟨r, s1⟩ := p
    rw [q] at h
    cases r with
    | exn c => exact fun H' Sh' x => h σ H' Sh' (k1.ent.trans x)
    | ok d =>
      obtain ⟨ds, rfl⟩ := hl _ s d s1 q
      intro p vs H' Sh' x hp hv hs r
      have hT : some p ≠ Z.T := fun z => by
        obtain ⟨_, _, _, h2⟩ := ok.town.there z.symm
        rw [hp] at h2
        cases h2
      have h0 : H0.H p = none := by
        rcases ok.ent.gone hp with z | z
        · exact z
        · exact absurd z hT
      have n1 : ∀ (j : Nat) (y : Sl), g[j]? = some y → isOwn y = true → σ[j]? ≠ some (some (.ref p)) := fun j y e1 y1 z => by
        obtain ⟨o, e2, q2⟩ := ok.get e1
        rw [z] at e2
        cases e2
        cases y with
        | own ds =>
          obtain ⟨b, vs, e5, _, _, _, q4, _⟩ := q2
          cases e5
          rw [hp] at q4
          cases q4
        | ownD ds =>
          obtain ⟨b, vs, e5, _, _, _, q4, _⟩ := q2
          cases e5
          rw [hp] at q4
          cases q4
        | _ => cases y1
      have n2 : ∀ (j : Nat) (y : Sl), (frz g L)[j]? = some y → isOwn y = true → σ[j]? ≠ some (some (.ref p)) := fun j y e1 y1 z => by
        obtain ⟨o, e2, q2⟩ := k1.get e1
        rw [z] at e2
        cases e2
        cases y with
        | own ds =>
          obtain ⟨b, vs, e5, _, _, _, q4, _⟩ := q2
          cases e5
          rw [hp] at q4
          cases q4
        | ownD ds =>
          obtain ⟨b, vs, e5, _, _, _, q4, _⟩ := q2
          cases e5
          rw [hp] at q4
          cases q4
        | _ => cases y1
      rw [rb_ok] at h
      dsimp only at h
      cases hd : FR.D.lfL ds with
      | false =>
        rw [hd, if_neg Bool.false_ne_true] at h
        exact h _ H' Sh' (fz.shs.trans x.shs) ((k1.ext x).setOwn hs hT h0 hv r n2)
      | true =>
        rw [hd, if_pos rfl] at h
        obtain ⟨Sh3, k3, sm, no, _, r3⟩ := ok.back fz x
        exact h _ H' Sh3 sm (k3.setOwn (no p hs) hT h0 hv (r3 ds vs hd r) n1)
theorem rOwn {L : List Nat} {i : Nat} {e : CE} {t : TS} (h : PS X st t) (hl : isL (evE en e)) (ht : ∀ D σ H, tF Z W H0 (evE en e) σ H (fun v H1 => D.nx (σ.set i (some v)) H1) → t D σ H) :
    PS X st (tS Z W H0 fun g s => rb (evE en e (frz g L) s) fun d s => match d with
      | .lst ds => some (.ok (.nx ((if D.lfL ds then g else frz g L).set i (.own ds))), s)
      | .dct ks => some (.ok (.nx ((if D.lfL (ks.map (·.2)) then g else frz g L).set i (.ownD ks))), s)
      | _ => none) :=
  psW h fun D σ H ⟨g, s, Sh, ok, h⟩ => ht D σ H (ownTF hl ok h)
theorem RepK.via {Sh2 Sh3 : Hp} (f : ∀ d v, FR.D.lf d = true → Rep Z Sh2 d v → Rep Z Sh3 d v) : ∀ {ds : List (Key × FR.D)} {vs : List (Key × V)}, RepK Z Sh2 ds vs → FR.D.lfL (ds.map (·.2)) = true → RepK Z Sh3 ds vs
  | _, _, .nil, _ => .nil
  | _, _, .cons x y, h => by
    rw [List.map_cons, FR.D.lfL, Bool.and_eq_true] at h
    exact .cons (f _ _ h.1 x) (RepK.via f y h.2)
/-- a new dict of our own -/
def isDc (ev : G → S → EV D) : Prop := ∀ g s d s', ev g s = some (.ok d, s') → ∃ ds, d = .dct ds
theorem ownTFD {L : List Nat} {i : Nat} {e : CE} {σ : L2.St} {H Sh : Hp} {g : G} {s : S} {D : Ends} (hl : isDc (evE en e)) (ok : Ok Z H0 σ g H Sh s) (h : EvS Z W H0 Sh (rb (evE en e (frz g L) s) fun d s => match d with
      | .lst ds => some (.ok (.nx ((if FR.D.lfL ds then g else frz g L).set i (.own ds))), s)
      | .dct ks => some (.ok (.nx ((if FR.D.lfL (ks.map (·.2)) then g else frz g L).set i (.ownD ks))), s)
      | _ => none) D) : tFD Z W H0 (evE en e) σ H (fun v H1 => D.nx (σ.set i (some v)) H1) := by
  obtain ⟨Sh1, k1, fz⟩ := ok.frz L
  refine ⟨_, s, Sh1, k1, ?_⟩
  unfold EvFD
  cases q : evE en e (frz g L) s with
  | none =>
    rw [q] at h
    exact h.elim
  | some p =>
    obtain ⟨r, s1⟩ := p
    rw [q] at h
    cases r with
    | exn c => exact fun H' Sh' x => h σ H' Sh' (k1.ent.trans x)
    | ok d =>
      obtain ⟨ds, rfl⟩ := hl _ s d s1 q
      intro p vs H' Sh' x hp hv hs r
      have hT : some p ≠ Z.T := not_town ok.town hp
      have h0 : H0.H p = none := by
        rcases ok.ent.gone hp with z | z
        · exact z
        · exact absurd z hT
      rw [rb_ok] at h
      dsimp only at h
      cases hd : FR.D.lfL (ds.map (·.2)) with
      | false =>
        rw [hd, if_neg Bool.false_ne_true] at h
        exact h _ H' Sh' (fz.shs.trans x.shs) ((k1.ext x).setG (x := .ownD ds) ⟨p, vs, rfl, hs, hT, h0, hv, r⟩ (k1.free hp))
      | true =>
        rw [hd, if_pos rfl] at h
        obtain ⟨Sh3, k3, sm, no, r2, _⟩ := ok.back fz x
        exact h _ H' Sh3 sm (k3.setG (x := .ownD ds) ⟨p, vs, rfl, no p hs, hT, h0, hv, RepK.via r2 r hd⟩ (ok.free hp))
theorem rOwnD {L : List Nat} {i : Nat} {e : CE} {t : TS} (h : PS X st t) (hl : isDc (evE en e)) (ht : ∀ D σ H, tFD Z W H0 (evE en e) σ H (fun v H1 => D.nx (σ.set i (some v)) H1) → t D σ H) :
    PS X st (tS Z W H0 fun g s => rb (evE en e (frz g L) s) fun d s => match d with
      | .lst ds => some (.ok (.nx ((if D.lfL ds then g else frz g L).set i (.own ds))), s)
      | .dct ks => some (.ok (.nx ((if D.lfL (ks.map (·.2)) then g else frz g L).set i (.ownD ks))), s)
      | _ => none) :=
  psW h fun D σ H ⟨g, s, Sh, ok, h⟩ => ht D σ H (ownTFD hl ok h)
/-- x = [..] if t else x -/
theorem rOif {i : Nat} {tc e : CE} {t : TS} {c : Expr} (h : PS X st t) (hl : isL (evE en e)) (ht : ∀ D σ H, tIf (tB Z W H0 (evT (evE en tc))) (tF Z W H0 (evE en e)) (tVar i) σ H (fun v H1 => D.nx (σ.set i (some v)) H1) → t D σ H) :
    PS X st (tS Z W H0 (evS en (.oif i tc e))) :=
  psW h fun D σ H ⟨g, s, Sh, ok, h⟩ => ht D σ H (by
    obtain ⟨Sh1, k1, q⟩ := EvS.test (L := []) (Q := fun b H1 => if b = true then tF Z W H0 (evE en e) σ H1 (fun v H2 => D.nx (σ.set i (some v)) H2) else tVar i σ H1 (fun v H2 => D.nx (σ.set i (some v)) H2)) ok h fun b s' H' Sh' sm k2 h2 => by
      cases b with
      | true =>
        rw [if_pos rfl] at h2 ⊢
        exact ownTF (L := []) hl k2 (EvS.mono h2 sm)
      | false =>
        rw [if_neg Bool.false_ne_true] at h2 ⊢
        cases q : ownL g[i]? with
        | none =>
          rw [q] at h2
          exact h2.elim
        | some ds =>
          rw [q] at h2
          obtain ⟨a, vs, e1, _⟩ := k2.list q
          refine ⟨_, e1, ?_⟩
          have e2 : σ.set i (some (.ref a)) = σ := by
            obtain ⟨l1, l2⟩ := List.getElem?_eq_some_iff.mp e1
            rw [← l2]
            exact List.set_getElem_self l1
          show D.nx (σ.set i (some (.ref a))) H'
          rw [e2]
          exact h2 σ H' Sh' sm k2
    exact ⟨_, s, Sh1, k1, q⟩)
/-- a tuple's items into slots -/
theorem rTas {L : List Nat} {is : List Nat} {e : CE} {t : TS} (h : PS X st t) (ht : ∀ D σ H, tV Z W H0 (evE en e) σ H (fun v H1 => gSet Z.K (.tp is) v σ H1 D.nx) → t D σ H) :
    PS X st (tS Z W H0 fun g s => exE en L e g s fun d g s => rb (rp (setT g d (.tp is)) s) fun g s => some (.ok (.nx g), s)) :=
  psW h fun D σ H ⟨g, s, Sh, ok, h⟩ => ht D σ H (by
    obtain ⟨Sh1, k1, q⟩ := EvS.exE (Q := fun v H1 => gSet Z.K (.tp is) v σ H1 D.nx) ok h fun d g' s' v H' Sh' sm k2 _ _ r h2 => by
      cases q : setT g' d (.tp is) with
      | none =>
        rw [q] at h2
        exact h2.elim
      | some g2 =>
        rw [q] at h2
        exact gSet_of k2 r q fun vs _ k3 => h2 _ H' Sh' sm k3
    exact ⟨_, s, Sh1, k1, q⟩)
/-- several expressions into slots -/
theorem rPar {L : List Nat} {is : List Nat} {es : CEs} {t : TS} (h : PS X st t) (ht : ∀ D σ H, tA Z W H0 (evEs en es) σ H (fun vs H1 => is.length = vs.length ∧ D.nx (setV σ is vs) H1) → t D σ H) :
    PS X st (tS Z W H0 fun g s => rb (evEs en es (frz g L) s) fun ds s => rb (rp (setAll (if D.lfL ds then g else frz g L) is ds) s) fun g s => some (.ok (.nx g), s)) :=
  psW h fun D σ H ⟨g, s, Sh, ok, h⟩ => ht D σ H (by
    obtain ⟨Sh1, k1, fz⟩ := ok.frz L
    refine ⟨_, s, Sh1, k1, EvS.bind k1 h fun ds s' vs H' Sh' x r h => ?_⟩
    have fin : ∀ {g' : G} {Sh2 : Hp}, Same Sh Sh2 → Ok Z H0 σ g' H' Sh2 s' → RepL Z Sh2 ds vs → EvS Z W H0 Sh (rb (rp (setAll g' is ds) s') fun g s => some (.ok (.nx g), s)) D → is.length = vs.length ∧ D.nx (setV σ is vs) H' := fun {g' Sh2} sm k2 r2 h2 => by
      cases q : setAll g' is ds with
      | none =>
        rw [q] at h2
        exact h2.elim
      | some g2 =>
        rw [q] at h2
        obtain ⟨l1, k3⟩ := k2.setAll is r2 q
        exact ⟨l1, h2 _ H' Sh2 sm k3⟩
    cases hd : FR.D.lfL ds with
    | false =>
      rw [hd, if_neg Bool.false_ne_true] at h
      exact fin (fz.shs.trans x.shs) (k1.ext x) r h
    | true =>
      rw [hd, if_pos rfl] at h
      obtain ⟨Sh3, k3, sm, no, _, r3⟩ := ok.back fz x
      exact fin sm k3 (r3 ds vs hd r) h)
/-- an expression whose value is dropped -/
theorem rEx {L : List Nat} {e : CE} {t : TS} (h : PS X st t) (ht : ∀ D σ H, tV Z W H0 (evE en e) σ H (fun _ H1 => D.nx σ H1) → t D σ H) :
    PS X st (tS Z W H0 fun g s => exE en L e g s fun _ g s => some (.ok (.nx g), s)) :=
  psW h fun D σ H ⟨g, s, Sh, ok, h⟩ => ht D σ H (by
    obtain ⟨Sh1, k1, q⟩ := EvS.exE (Q := fun _ H1 => D.nx σ H1) ok h fun d g' s' v H' Sh' sm k2 _ _ r h2 => h2 _ H' Sh' sm k2
    exact ⟨_, s, Sh1, k1, q⟩)
theorem rRet {L : List Nat} {e : CE} {t : TS} (h : PS X st t) (ht : ∀ D σ H, tV Z W H0 (evE en e) σ H D.rt → t D σ H) :
    PS X st (tS Z W H0 fun g s => exE en L e g s fun d _ s => some (.ok (.rt d), s)) :=
  psW h fun D σ H ⟨g, s, Sh, ok, h⟩ => ht D σ H (by
    obtain ⟨Sh1, k1, q⟩ := EvS.exE (Q := D.rt) ok h fun d g' s' v H' Sh' sm k2 _ _ r h2 => h2 v H' Sh' k2.ent r
    exact ⟨_, s, Sh1, k1, q⟩)
/-- a method that changes our own list in slot i -/
theorem rMut {L : List Nat} {i : Nat} {e : CE} {f : FR.D → List FR.D → Option (List FR.D)} {t : TS} (h : PS X st t)
    (ht : ∀ (D : Ends) (σ : L2.St) (H : Hp), (∃ a xs, σ[i]? = some (some (.ref a)) ∧ H a = some (.lst xs) ∧ tV Z W H0 (evE en e) σ H fun y H1 => ∃ (d : FR.D) (Sh' : Hp) (ds es : List FR.D) (xs : List V), Same Sh' H1 ∧ Rep Z Sh' d y ∧ f d ds = some es ∧ RepL Z Sh' ds xs ∧ H1 a = some (.lst xs) ∧
      ∀ vs, RepL Z Sh' es vs → D.nx σ (upd H1 a (.lst vs))) → t D σ H) :
    PS X st (tS Z W H0 fun g s => owned g i (exE en L e g s fun d g s => rb (rp (appO g i (f d)) s) fun g s => some (.ok (.nx g), s))) :=
  psW h fun D σ H ⟨g, s, Sh, ok, h⟩ => ht D σ H (by
    dsimp only at h
    unfold owned at h
    split at h
    case h_2 => exact h.elim
    rename_i ds0 e0
    obtain ⟨a, xs, e1, h1, h2, h3, h4, r4⟩ := ok.own e0
    refine ⟨a, xs, e1, h4, ?_⟩
    obtain ⟨Sh1, k1, q⟩ := EvS.exE (Q := fun y H1 => ∃ (d : FR.D) (Sh' : Hp) (ds es : List FR.D) (xs : List V), Same Sh' H1 ∧ Rep Z Sh' d y ∧ f d ds = some es ∧ RepL Z Sh' ds xs ∧ H1 a = some (.lst xs) ∧ ∀ vs, RepL Z Sh' es vs → D.nx σ (upd H1 a (.lst vs))) ok h fun d g' s' v H' Sh' sm k2 _ fr r h2 => by
      unfold appO at h2
      split at h2
      · rename_i ds q
        obtain ⟨a2, xs2, e2, q1, q2, q3, q4, q5⟩ := k2.own q
        rw [e1] at e2
        cases e2
        cases q6 : f d ds with
        | none =>
          rw [q6] at h2
          exact h2.elim
        | some es =>
          rw [q6] at h2
          exact ⟨d, Sh', ds, es, xs2, k2.sub, r, q6, q5, q4, fun vs rv => h2 σ _ Sh' sm (k2.mut q rfl e1 q1 q2 q3 rv)⟩
      · exact h2.elim
    exact ⟨_, s, Sh1, k1, q⟩)
/-- a method without arguments that changes it -/
theorem rMut0 {i : Nat} {f : List FR.D → Option (List FR.D)} {t : TS} (h : PS X st t)
    (ht : ∀ (D : Ends) (σ : L2.St) (H : Hp), (∃ (a : Addr) (xs : List V) (ds es : List FR.D) (Sh : Hp), σ[i]? = some (some (.ref a)) ∧ H a = some (.lst xs) ∧ f ds = some es ∧ RepL Z Sh ds xs ∧ ∀ vs, RepL Z Sh es vs → D.nx σ (upd H a (.lst vs))) → t D σ H) :
    PS X st (tS Z W H0 fun g s => rb (rp (appO g i f) s) fun g s => some (.ok (.nx g), s)) :=
  psW h fun D σ H ⟨g, s, Sh, ok, h⟩ => ht D σ H (by
    dsimp only at h
    unfold appO at h
    split at h
    · rename_i ds q
      obtain ⟨a, xs, e1, q1, q2, q3, q4, q5⟩ := ok.own q
      cases q6 : f ds with
      | none =>
        rw [q6] at h
        exact h.elim
      | some es =>
        rw [q6] at h
        exact ⟨a, xs, ds, es, Sh, e1, q4, q6, q5, fun vs rv => h σ _ Sh (Same.refl _) (ok.mut q rfl e1 q1 q2 q3 rv)⟩
    · exact h.elim)
/-! ### items stored -/
theorem PSet.or {t u : TSet} (h : PSet X t) (k : PSet X u) : PSet X fun o i v H Q => t o i v H Q ∨ u o i v H Q := fun pins s σ H o i v ov iv w Q I r1 r2 r3 q => by
  rcases q with q | q
  · exact h pins s σ H o i v ov iv w Q I r1 r2 r3 q
  · exact k pins s σ H o i v ov iv w Q I r1 r2 r3 q
theorem setL_ix {ds es : List FR.D} {i : Int} {d : FR.D} {n : Nat} (hn : ds.length = n) (h : setL ds i d = some es) : ∃ j, ixN n i = some j ∧ es = ds.set j d := by
  subst hn
  unfold setL at h
  unfold ixN
  split at h
  · rename_i q
    cases h
    exact ⟨_, by rw [if_pos q.1, if_pos q.2], rfl⟩
  · split at h
    · rename_i q
      cases h
      exact ⟨_, by rw [if_neg (by omega), if_pos q.2], rfl⟩
    · cases h
/-- behind two expressions that may have shared the slots L for a while -/
theorem Ok.two {L : List Nat} {g : G} {σ : L2.St} {H Sh Sh1 H1 H2 Sh2 Sh3 : Hp} {s s1 s2 : S} {d j : FR.D} {v w : V} (ok : Ok Z H0 σ g H Sh s) (k1 : Ok Z H0 σ (FR.frz g L) H Sh1 s) (fz : Fz H Sh Sh1) (x1 : Ext Z H Sh1 H1 Sh2 s1) (x2 : Ext Z H1 Sh2 H2 Sh3 s2) (rv : Rep Z Sh2 d v) (rw' : Rep Z Sh3 j w) :
    ∃ Sh', Ok Z H0 σ (if d.lf && j.lf then g else FR.frz g L) H2 Sh' s2 ∧ Same Sh Sh' ∧ Rep Z Sh' d v ∧ Rep Z Sh' j w := by
  have x := x1.trans x2
  have rv3 := rv.mono x2.shs
  cases q : d.lf && j.lf with
  | false => exact ⟨Sh3, k1.ext x, fz.shs.trans x.shs, rv3, rw'⟩
  | true =>
    rw [Bool.and_eq_true] at q
    obtain ⟨Sh4, k4, sm, _, r2, _⟩ := ok.back fz x
    exact ⟨Sh4, k4, sm, r2 d v q.1 rv3, r2 j w q.2 rw'⟩
def gSt (i : Nat) (ti : TE) : TG := gSub (tVar i) ti fun o i v H Q => rSetL o i v H Q ∨ rSetD o i v H Q
theorem rSti {L : List Nat} {i : Nat} {e v : CE} {t : TS} (h : PS X st t) (ht : ∀ D σ H, (∃ a, σ[i]? = some (some (.ref a)) ∧ tV Z W H0 (evE en v) σ H fun x H1 => tV Z W H0 (evE en e) σ H1 fun j H2 => rSetL (.ref a) j x H2 (fun H3 => D.nx σ H3) ∨ rSetD (.ref a) j x H2 fun H3 => D.nx σ H3) → t D σ H) :
    PS X st (tS Z W H0 (evS en (.sti L i e v))) :=
  psW h fun D σ H ⟨g, s, Sh, ok, h⟩ => ht D σ H (by
    change EvS Z W H0 Sh (if ownB g[i]? then _ else none) D at h
    split at h
    case isFalse => exact h.elim
    rename_i hb
    obtain ⟨a, e1, hT⟩ := ok.ownA hb
    refine ⟨a, e1, ?_⟩
    obtain ⟨Sh1, k1, fz⟩ := ok.frz L
    refine ⟨_, s, Sh1, k1, EvS.bind k1 h fun d s1 x H1 Sh2 x1 rv h => ⟨_, s1, Sh2, k1.ext x1, EvS.bind (k1.ext x1) h fun j s2 w H2 Sh3 x2 rj h => ?_⟩⟩
    obtain ⟨Sh', k2, sm, rv2, rj2⟩ := ok.two k1 fz x1 x2 rv rj
    generalize (if d.lf && j.lf then g else frz g L) = g' at k2 h
    cases q : g'[i]? with
    | none =>
      rw [q] at h
      exact h.elim
    | some sl =>
    cases sl with
    | own ds =>
      rw [q] at h
      cases rj2 with
      | int kk =>
        dsimp only at h
        obtain ⟨a2, xs, e2, q1, q2, q3, q4, q5⟩ := k2.own q
        rw [e1] at e2
        cases e2
        cases r : setL ds kk d with
        | none =>
          rw [r] at h
          exact h.elim
        | some es =>
          rw [r] at h
          obtain ⟨n, hn, rfl⟩ := setL_ix q5.length r
          exact .inl ⟨a, xs, kk, n, rfl, rfl, q4, hn, h σ _ Sh' sm (k2.mut q rfl e1 q1 q2 q3 (q5.set n rv2))⟩
      | _ => exact h.elim
    | ownD ks =>
      rw [q] at h
      dsimp only at h
      obtain ⟨o, e2, a2, vs, rfl, q1, q2, q3, q4, q5⟩ := k2.get q
      rw [e1] at e2
      cases e2
      cases r : keyD j with
      | none =>
        rw [r] at h
        exact h.elim
      | some kk =>
        rw [r, rp_some, rb_ok] at h
        split at h
        · rename_i hl
          refine .inr ⟨a, _, rfl, .inl ⟨vs, kk, q4, rj2.key r, ?_, rfl⟩, ?_⟩
          · rw [← q5.length]
            exact szLt hl
          · exact h σ _ Sh' sm (k2.mutG (y := .ownD (FR.putK ks kk d)) (o := .dK (L2.putK vs kk x)) q rfl rfl e1 q1 q2 q3 ⟨a, _, rfl, q1, q2, q3, upd_same, q5.put rv2⟩)
        · exact h.elim
    | _ =>
      rw [q] at h
      exact h.elim)
/-- two items exchanged -/
theorem rSwp {i ja jb : Nat} {t : TS} (h : PS X st t)
    (ht : ∀ (D : Ends) (σ : L2.St) (H : Hp), (∃ (a : Addr) (p q : Int) (xs : List V) (m n : Nat) (u w : V), σ[i]? = some (some (.ref a)) ∧ σ[ja]? = some (some (.int p)) ∧ σ[jb]? = some (some (.int q)) ∧ H a = some (.lst xs) ∧ ixN xs.length p = some m ∧ ixN xs.length q = some n ∧ xs[n]? = some u ∧ xs[m]? = some w ∧
      ∀ T, H T = none → D.nx σ (upd (upd H T (.tup [u, w])) a (.lst ((xs.set m u).set n w)))) → t D σ H) :
    PS X st (tS Z W H0 (evS en (.swp i ja jb))) :=
  psW h fun D σ H ⟨g, s, Sh, ok, h⟩ => ht D σ H (by
    change EvS Z W H0 Sh (match g[i]?, g.rd ja, g.rd jb with
      | some (.own ds), some (.int p), some (.int q) => rb (rp (swpL ds p q) s) fun ds s => some (.ok (.nx (g.set i (.own ds))), s)
      | _, _, _ => none) D at h
    split at h
    · rename_i ds p q q0 qa qb
      obtain ⟨a, xs, e1, q1, q2, q3, q4, q5⟩ := ok.own q0
      obtain ⟨oa, ea, va, rfl, ra⟩ := ok.get (G.rd_some qa)
      obtain ⟨ob, eb, vb, rfl, rb'⟩ := ok.get (G.rd_some qb)
      cases ra
      cases rb'
      cases r : swpL ds p q with
      | none =>
        rw [r] at h
        exact h.elim
      | some es =>
        rw [r] at h
        unfold swpL at r
        cases r1 : atL ds q with
        | none =>
          rw [r1] at r
          cases r
        | some dq =>
          cases r2 : atL ds p with
          | none =>
            rw [r1, r2] at r
            cases r
          | some dp =>
            rw [r1, r2] at r
            obtain ⟨fs, r3, r4⟩ := Option.bind_eq_some_iff.mp r
            obtain ⟨m, hm, rfl⟩ := setL_ix q5.length r3
            obtain ⟨n, hn, rfl⟩ := setL_ix (n := xs.length) (by rw [List.length_set]; exact q5.length) r4
            have at_ : ∀ {i : Int} {m : Nat} {d : FR.D}, ixN xs.length i = some m → atL ds i = some d → ∃ u, xs[m]? = some u ∧ Rep Z Sh d u := fun {i m d} hm hd => by
              obtain ⟨u, e3, ru⟩ := q5.at hd
              unfold atI at e3
              rw [hm] at e3
              exact ⟨u, e3, ru⟩
            obtain ⟨u, hu, ru⟩ := at_ hn r1
            obtain ⟨w, hw, rw'⟩ := at_ hm r2
            refine ⟨a, p, q, xs, m, n, u, w, e1, ea, eb, q4, hm, hn, hu, hw, fun T hT => ?_⟩
            have x := Ext.allocH (o := .tup [u, w]) ok.sub ok.town hT
            exact h σ _ Sh (Same.refl _) ((ok.ext x).mut q0 rfl e1 q1 q2 q3 ((q5.set m ru).set n rw'))
    · exact h.elim)
/-- a, b = xs.pop(0) -/
theorem rPop0 {i : Nat} {is : List Nat} {t : TS} (h : PS X st t)
    (ht : ∀ (D : Ends) (σ : L2.St) (H : Hp), (∃ (a : Addr) (x : V) (xs : List V), σ[i]? = some (some (.ref a)) ∧ H a = some (.lst (x :: xs)) ∧ gSet Z.K (.tp is) x σ (upd H a (.lst xs)) D.nx) → t D σ H) :
    PS X st (tS Z W H0 (evS en (.pop0 i is))) :=
  psW h fun D σ H ⟨g, s, Sh, ok, h⟩ => ht D σ H (by
    change EvS Z W H0 Sh (match g[i]? with | some (.own (d :: ds)) => rb (rp (setT (g.set i (.own ds)) d (.tp is)) s) fun g s => some (.ok (.nx g), s) | _ => none) D at h
    split at h
    · rename_i d ds q
      obtain ⟨a, vs, e1, q1, q2, q3, q4, q5⟩ := ok.own q
      cases q5 with
      | @cons _ x _ xs r1 r2 =>
        refine ⟨a, x, xs, e1, q4, ?_⟩
        have k2 := ok.mut q rfl e1 q1 q2 q3 r2
        cases r : setT (g.set i (.own ds)) d (.tp is) with
        | none =>
          rw [r] at h
          exact h.elim
        | some g' =>
          rw [r] at h
          exact gSet_of k2 r1 r fun vs _ k3 => h _ _ Sh (Same.refl _) k3
    · exact h.elim)
/-- d.pop(k) -/
theorem rPopk {L : List Nat} {i : Nat} {e : CE} {t : TS} (h : PS X st t) (ht : ∀ D σ H, (∃ a, σ[i]? = some (some (.ref a)) ∧ IsD H a ∧ tV Z W H0 (evE en e) σ H fun y H2 => ∃ kvs k v, H2 a = some (.dK kvs) ∧ y = kV k ∧ valV kvs k = some v ∧ D.nx σ (upd H2 a (.dK (L2.dropK kvs k)))) → t D σ H) :
    PS X st (tS Z W H0 (evS en (.popk L i e))) :=
  psW h fun D σ H ⟨g, s, Sh, ok, h⟩ => ht D σ H (by
    change EvS Z W H0 Sh (if ownDB g[i]? then _ else none) D at h
    split at h
    case isFalse => exact h.elim
    rename_i hb
    obtain ⟨ks0, q0⟩ : ∃ ks, g[i]? = some (.ownD ks) := by
      unfold ownDB at hb
      split at hb
      · rename_i q
        exact ⟨_, q⟩
      · cases hb
    obtain ⟨o, e1, a, vs0, rfl, _, hT, _, hd, _⟩ := ok.get q0
    refine ⟨a, e1, .inl ⟨vs0, .inl hd⟩, ?_⟩
    obtain ⟨Sh1, k1, fz⟩ := ok.frz L
    refine ⟨_, s, Sh1, k1, EvS.bind k1 h fun j s1 w H1 Sh2 x1 rj h => ?_⟩
    obtain ⟨Sh', k2, sm, _, rj2⟩ := ok.two (d := .non) k1 fz x1 (Ext.refl x1.sub x1.town) .non rj
    have e5 : ((FR.D.lf .non) && j.lf) = j.lf := rfl
    rw [e5] at k2
    generalize (if j.lf then g else frz g L) = g' at k2 h
    cases q : g'[i]? with
    | none =>
      rw [q] at h
      exact h.elim
    | some sl =>
    cases sl with
    | ownD ks =>
      rw [q] at h
      dsimp only at h
      obtain ⟨o, e2, a2, vs, rfl, q1, q2, q3, q4, q5⟩ := k2.get q
      rw [e1] at e2
      cases e2
      cases r : keyD j with
      | none =>
        rw [r] at h
        exact h.elim
      | some kk =>
        rw [r, rp_some, rb_ok] at h
        split at h
        · rename_i hs
          rcases q5.val kk with ⟨n1, _⟩ | ⟨d', u, _, n2, _⟩
          · rw [n1] at hs
            cases hs
          · exact ⟨vs, kk, u, q4, rj2.key r, n2, h σ _ Sh' sm (k2.mutG (y := .ownD (FR.dropK ks kk)) (o := .dK (L2.dropK vs kk)) q rfl rfl e1 q1 q2 q3 ⟨a, _, rfl, q1, q2, q3, upd_same, q5.drop⟩)⟩
        · exact h.elim
    | _ =>
      rw [q] at h
      exact h.elim)
/-- our own dict shared from now on -/
theorem pss_lkA {sts : List Stmt} {t : TS} (h : PSs X sts t) : PSs X sts (fun D σ H => t D σ H ∨ ∃ d u, H d = some u ∧ Mut (some u) ∧ ∀ od, t D σ (upd H d (.frz od u))) := ⟨fun pins t1 σ H D I q => by
  rcases q with q | ⟨d, u, hd, mu, q⟩
  · exact h.run pins t1 σ H D I q
  · obtain ⟨od, I2⟩ := I.lock hd mu
    exact h.run pins t1 σ _ D I2 (q od)⟩
theorem rLkd {i : Nat} {sts : List Stmt} {f : G → S → EV Fl} (h : PSs X sts (tS Z W H0 f)) : PSs X sts (tS Z W H0 fun g s => f (match g[i]? with | some (.ownD ks) => g.set i (.dat (.dct ks)) | _ => g) s) :=
  pssW (pss_lkA h) fun D σ H ⟨g, s, Sh, ok, h⟩ => by
    dsimp only at h
    split at h
    · rename_i ks q
      obtain ⟨o, e1, a, vs, rfl, h1, h2, h3, h4, r⟩ := ok.get q
      refine .inr ⟨a, _, h4, trivial, fun od => ?_⟩
      obtain ⟨k2, sm⟩ := ok.lockD od q e1 h1 h2 h3 h4 r
      exact ⟨_, s, _, k2, EvS.mono h sm⟩
    · exact .inl ⟨g, s, Sh, ok, h⟩
/-- town.append(0) -/
theorem rTap {i : Nat} {t : TS} (h : PS X st t)
    (ht : ∀ (D : Ends) (σ : L2.St) (H : Hp), (∃ (a : Addr) (xs : List V), σ[i]? = some (some (.ref a)) ∧ H a = some (.lst xs) ∧ xs.length < sizeLine ∧ D.nx σ (upd H a (.lst (xs ++ [.int 0])))) → t D σ H) :
    PS X st (tS Z W H0 fun g s => match g[i]?, s with
      | some (.dat .town), some n => if n < SZ then some (.ok (.nx g), some (n + 1)) else none
      | _, _ => none) :=
  psW h fun D σ H ⟨g, s, Sh, ok, h⟩ => ht D σ H (by
    dsimp only at h
    split at h
    · rename_i n q
      split at h
      · rename_i hn
        obtain ⟨o, e1, v, rfl, r⟩ := ok.get q
        cases r with
        | town e =>
          obtain ⟨n', e2, h1, h2⟩ := ok.town.there e
          cases e2
          exact ⟨_, _, e1, h2, by rw [List.length_replicate]; exact szLt hn, h σ _ Sh (Same.refl _) (ok.tapped e rfl)⟩
      · exact h.elim
    · exact h.elim)
/-! ### branches and loops -/
theorem EvS.seq {o : EV Fl} {f : G → S → EV Fl} {H Sh : Hp} {D : Ends} (h : EvS Z W H0 Sh (rb o fun fl s => match fl with | .nx g => f g s | fl => some (.ok fl, s)) D) : EvS Z W H0 Sh o { D with nx := fun σ H => tS Z W H0 f D σ H } := by
  unfold EvS
  cases o with
  | none => exact h.elim
  | some p =>
    obtain ⟨r, s1⟩ := p
    cases r with
    | exn c => exact h
    | ok fl =>
      cases fl with
      | nx g => exact fun σ H Sh' sm k => ⟨g, s1, Sh', k, EvS.mono h sm⟩
      | ct g => exact h
      | bk g => exact h
      | rt d => exact h
theorem rNil : PSs X [] (tS Z W H0 fun g s => some (.ok (.nx g), s)) := pssW pss_nil fun D σ H ⟨g, s, Sh, ok, h⟩ => h σ H Sh (Same.refl _) ok
theorem rCons {sts : List Stmt} {ev : G → S → EV Fl} {f : G → S → EV Fl} (h1 : PS X st (tS Z W H0 ev)) (h2 : PSs X sts (tS Z W H0 f)) :
    PSs X (st :: sts) (tS Z W H0 fun g s => rb (ev g s) fun fl s => match fl with | .nx g => f g s | fl => some (.ok fl, s)) :=
  pssW (pss_cons h1 h2) fun D σ H ⟨g, s, Sh, ok, h⟩ => ⟨g, s, Sh, ok, EvS.seq (H := H) h⟩
theorem rIf {L : List Nat} {e : CE} {c : Expr} {a b : List Stmt} {pos : Pos} {fa fb : G → S → EV Fl} (hc : PT X c (tB Z W H0 (evT (evE en e)))) (ha : PSs X a (tS Z W H0 fa)) (hb : PSs X b (tS Z W H0 fb)) :
    PS X (.If c a b pos) (tS Z W H0 fun g s => rb (testE en L e g s) fun c s => if c then fa g s else fb g s) :=
  psW (ps_if hc ha hb) fun D σ H ⟨g, s, Sh, ok, h⟩ => by
    obtain ⟨Sh1, k1, q⟩ := EvS.test (Q := fun b H1 => if b = true then tS Z W H0 fa D σ H1 else tS Z W H0 fb D σ H1) ok h fun b s' H' Sh' sm k2 h2 => by
      cases b with
      | true => exact ⟨g, s', Sh', k2, EvS.mono h2 sm⟩
      | false => exact ⟨g, s', Sh', k2, EvS.mono h2 sm⟩
    exact ⟨_, s, Sh1, k1, q⟩
theorem rWhile {L : List Nat} {e : CE} {c : Expr} {b : List Stmt} {pos : Pos} {fb : G → S → EV Fl} (hp : PassesOwn (model X.prog X.w) X.A X.env X.xe) (hc : PT X c (tB Z W H0 (evT (evE en e)))) (hb : PSs X b (tS Z W H0 fb)) :
    PS X (.While c b [] pos) (tS Z W H0 fun g s => whO (testE en L e) fb g s) :=
  psW (ps_while hp hc hb) fun D σ H ⟨g, s, Sh, ok, h⟩ => by
    dsimp only at h
    cases q : whO (testE en L e) fb g s with
    | none =>
      rw [q] at h
      exact h.elim
    | some r =>
      obtain ⟨n, hn⟩ := whO_fuel q
      rw [q, ← hn] at h
      refine ⟨fun m σ H => ∃ (g : G) (s : S) (Sh : Hp), Ok Z H0 σ g H Sh s ∧ EvS Z W H0 Sh (whF (testE en L e) fb m g s) D, ⟨n, g, s, Sh, ok, h⟩, ?_⟩
      rintro m σ1 H1 ⟨g1, s1, Sh1, k1, h1⟩
      cases m with
      | zero => exact h1.elim
      | succ m =>
        rw [whF] at h1
        obtain ⟨Sh2, k2, q2⟩ := EvS.test (Q := fun b H2 => if b = true then ∃ N : L2.St → Hp → Prop, (∀ σ' H', N σ' H' → ∃ m', m' < m + 1 ∧ ∃ (g : G) (s : S) (Sh : Hp), Ok Z H0 σ' g H' Sh s ∧ EvS Z W H0 Sh (whF (testE en L e) fb m' g s) D) ∧ tS Z W H0 fb { D with nx := N, ct := N, bk := D.nx } σ1 H2 else D.nx σ1 H2) k1 h1 fun b s' H' Sh' sm k3 h3 => by
          cases b with
          | false =>
            rw [if_neg Bool.false_ne_true] at h3 ⊢
            exact h3 σ1 H' Sh' sm k3
          | true =>
            rw [if_pos rfl] at h3 ⊢
            refine ⟨fun σ' H' => ∃ (g : G) (s : S) (Sh : Hp), Ok Z H0 σ' g H' Sh s ∧ EvS Z W H0 Sh (whF (testE en L e) fb m g s) D, fun σ' H' h => ⟨m, Nat.lt_succ_self m, h⟩, g1, s', Sh', k3, ?_⟩
            have h3 := EvS.mono h3 sm
            unfold EvS
            cases q4 : fb g1 s' with
            | none =>
              rw [q4] at h3
              exact h3.elim
            | some p =>
              obtain ⟨r, s4⟩ := p
              rw [q4] at h3
              cases r with
              | exn c => exact h3
              | ok fl =>
                cases fl with
                | nx g4 => exact fun σ4 H4 Sh4 sm4 k4 => ⟨g4, s4, Sh4, k4, EvS.mono h3 sm4⟩
                | ct g4 => exact fun σ4 H4 Sh4 sm4 k4 => ⟨g4, s4, Sh4, k4, EvS.mono h3 sm4⟩
                | bk g4 => exact h3
                | rt d => exact h3
        exact ⟨_, s1, Sh2, k2, q2⟩
/-- a for: the walk, then turn by turn -/
theorem rForB {tg iter : Expr} {tgt : Tgt} {b : List Stmt} {pos : Pos} {fb : G → S → EV Fl} {σ : L2.St} {H1 Sh1 : Hp} {g1 : G} {s1 : S} {J : It} {ds : List FR.D} {D : Ends} (k1 : Ok Z H0 σ g1 H1 Sh1 s1) (wk : Walks Z J ds Sh1) (h : EvS Z W H0 Sh1 (forL tgt fb ds g1 s1) D) :
    ∃ W' : Nat → Nat → L2.St → Hp → Prop, (∃ m, W' 0 m σ H1) ∧ ∀ i m σ H, W' i m σ H →
      (J.stop i H ∧ D.nx σ H) ∨ (J.go i H ∧ ∃ N : L2.St → Hp → Prop, (∀ σ' H', N σ' H' → ∃ m', m' < m ∧ W' (i + 1) m' σ' H') ∧ ∀ x H', J.yld i H x H' → gSet Z.K tgt x σ H' fun σ2 H2 => tS Z W H0 fb { D with nx := N, ct := N, bk := D.nx } σ2 H2) := by
  refine ⟨fun i m σ H => m = ds.length - i ∧ i ≤ ds.length ∧ ∃ (g : G) (s : S) (Sh : Hp), Same Sh1 Sh ∧ Ok Z H0 σ g H Sh s ∧ EvS Z W H0 Sh (forL tgt fb (ds.drop i) g s) D, ⟨ds.length, by simp, Nat.zero_le _, g1, s1, Sh1, Same.refl _, k1, h⟩, ?_⟩
  rintro i m σ2 H2 ⟨rfl, hi, g2, s2, Sh2, sm2, k2, h2⟩
  obtain ⟨w1, w2⟩ := wk H2 (sm2.trans k2.sub)
  by_cases hlt : i < ds.length
  · obtain ⟨go, yl⟩ := w1 i ds[i] (List.getElem?_eq_getElem hlt)
    refine .inr ⟨go, fun σ' H' => i + 1 ≤ ds.length ∧ ∃ (g : G) (s : S) (Sh : Hp), Same Sh1 Sh ∧ Ok Z H0 σ' g H' Sh s ∧ EvS Z W H0 Sh (forL tgt fb (ds.drop (i + 1)) g s) D, fun σ' H' h3 => ⟨ds.length - (i + 1), by omega, rfl, h3⟩, fun x H3 hy => ?_⟩
    obtain ⟨rfl, rv⟩ := yl x H3 hy
    rw [List.drop_eq_getElem_cons hlt, forL] at h2
    cases q : setT g2 ds[i] tgt with
    | none =>
      rw [q] at h2
      exact h2.elim
    | some g3 =>
      rw [q] at h2
      dsimp only at h2
      refine gSet_of k2 (rv.mono sm2) q fun vs _ k3 => ⟨g3, s2, Sh2, k3, ?_⟩
      unfold EvS
      cases q4 : fb g3 s2 with
      | none =>
        rw [q4] at h2
        exact h2.elim
      | some p =>
        obtain ⟨r, s4⟩ := p
        rw [q4] at h2
        cases r with
        | exn c => exact h2
        | ok fl =>
          cases fl with
          | nx g4 => exact fun σ4 H4 Sh4 sm4 k4 => ⟨hlt, g4, s4, Sh4, sm2.trans sm4, k4, EvS.mono h2 sm4⟩
          | ct g4 => exact fun σ4 H4 Sh4 sm4 k4 => ⟨hlt, g4, s4, Sh4, sm2.trans sm4, k4, EvS.mono h2 sm4⟩
          | bk g4 => exact h2
          | rt d => exact h2
  · have ei : i = ds.length := by omega
    subst ei
    rw [List.drop_length] at h2
    exact .inl ⟨w2 _ (Nat.le_refl _), h2 σ2 H2 Sh2 (Same.refl _) k2⟩
theorem rFor {L : List Nat} {e : CE} {tg iter : Expr} {tgt : Tgt} {b : List Stmt} {pos : Pos} {fb : G → S → EV Fl} (hp : PassesOwn (model X.prog X.w) X.A X.env X.xe) (hc : X.calm = true) (hi : PI X tg iter (tI Z W H0 (evE en e))) (hg : PG X tg (gSet Z.K tgt)) (hb : PSs X b (tS Z W H0 fb))
    (hs : ∀ x, foldedSetIterable iter X.env x = pure x) : PS X (.For tg iter b [] pos) (tS Z W H0 fun g s => rb (evE en e (frz g L) s) fun x s => rb (rp (itemsD x) s) fun ds s => forL tgt fb ds (frz g L) s) :=
  psW (ps_for hp hc hi hg hb hs) fun D σ H ⟨g, s, Sh, ok, h⟩ => by
    dsimp only at h
    obtain ⟨Sh1, k1, fz⟩ := ok.frz L
    refine ⟨_, s, Sh1, k1, ?_⟩
    unfold EvI
    cases q : evE en e (frz g L) s with
    | none =>
      rw [q] at h
      exact h.elim
    | some p =>
      obtain ⟨r, s1⟩ := p
      rw [q] at h
      cases r with
      | exn c => exact fun H' Sh' x => h σ H' Sh' (k1.ent.trans x)
      | ok x =>
        rw [rb_ok] at h
        cases q1 : itemsD x with
        | none =>
          rw [q1] at h
          exact h.elim
        | some ds =>
          rw [q1, rp_some, rb_ok] at h
          exact ⟨ds, q1, fun J H1 Sh2 x2 wk => rForB (tg := tg) (iter := iter) (b := b) (pos := pos) (k1.ext x2) wk (EvS.mono h (fz.shs.trans x2.shs))⟩
end
end FR
/-! FrSnd11: the row's statements against the core syntax. -/
namespace FR
open PySem PySem.Spec PyProof.Rows L2
def asAsg : Stmt → Option (Expr × Expr × Pos)
  | .Assign [t] v p => some (t, v, p)
  | _ => none
def asExprS : Stmt → Option Expr
  | .Expr e _ => some e
  | _ => none
def asIfS : Stmt → Option (Expr × List Stmt × List Stmt)
  | .If c a b _ => some (c, a, b)
  | _ => none
def asFor : Stmt → Option (Expr × Expr × List Stmt)
  | .For t i b [] _ => some (t, i, b)
  | _ => none
def asWhile : Stmt → Option (Expr × List Stmt)
  | .While c b [] _ => some (c, b)
  | _ => none
def asRet : Stmt → Option Expr
  | .Return (some e) _ => some e
  | _ => none
def isRetN : Stmt → Bool
  | .Return none _ => true
  | _ => false
def asRaise : Stmt → Option Str
  | .Raise (some (.Call (.Name x _) [.Constant (.str _) _ _] [] _)) none _ => some x
  | _ => none
def isPass : Stmt → Bool
  | .Pass _ => true
  | _ => false
def isCont : Stmt → Bool
  | .Continue _ => true
  | _ => false
def isBrk : Stmt → Bool
  | .Break _ => true
  | _ => false
/-- try: t = v / except x as n: y = m -/
def asTry : Stmt → Option (Expr × Expr × Str × Str × Str × Str)
  | .Try [.Assign [t] v _] [.ExceptHandler (some (.Name x _)) (some n) [.Assign [.Name y _] (.Name m _) _] _] [] [] _ => some (t, v, x, n, y, m)
  | _ => none
theorem asTry_eq {st : Stmt} {t v : Expr} {x n y m : Str} (h : asTry st = some (t, v, x, n, y, m)) : ∃ p1 p2 p3 p4 p5 p6 p7, st = .Try [.Assign [t] v p1] [.ExceptHandler (some (.Name x p2)) (some n) [.Assign [.Name y p3] (.Name m p4) p5] p6] [] [] p7 := by
  unfold asTry at h
  split at h
  · cases h
    exact ⟨_, _, _, _, _, _, _, rfl⟩
  · cases h
/-- x.m(args), on one line -/
def asMeth : Expr → Option (Str × Str × List Expr)
  | .Call (.Attribute (.Name x _) m a) ys [] c => if a.endLine == c.line then some (x, m, ys) else none
  | _ => none
def notComp : Expr → Bool
  | .ListComp _ _ _ _ => false
  | .SetComp _ _ _ _ => false
  | .DictComp _ _ _ _ _ => false
  | _ => true
def isTupE : Expr → Bool
  | .Tuple _ _ _ => true
  | _ => false
def swNames (sc : Scope) (ts : List Expr) : List Str := ts.filterMap fun
  | .Name id pos => if sc.names.lookup id == some .local && pos.line == (ts.head?.map (·.pos.line)).getD 0 then some id else none
  | _ => none
/-- whether a, b = x, y stores the other way round: none, if the model doesn't say -/
def swSt (sc : Scope) (ts vs : List Expr) : Option (Option (List Str)) :=
  if !(ts.length == 2 || ts.length == 3) || vs.length != ts.length then some none
  else if vs.any (fun e => !notStar e) then some none
  else if (swNames sc ts).length != ts.length || (swNames sc ts).eraseDups.length != (swNames sc ts).length then some none
  else if vs.all (foldedForSure 8) then some none
  else if vs.all (constantsAlone 8) then none
  else some (some (swNames sc ts))
def allLoc (sc : Scope) (es : List Expr) : Bool := es.all fun | .Name x _ => decide (sc.names.lookup x = some .local) | _ => false
def frs0 : CE → Bool
  | .lst _ => true
  | .comp _ _ _ _ => true
  | .compR _ _ _ _ _ => true
  | .compK _ _ _ _ => true
  | .dct0 => true
  | .bif .dict (.cons _ .nil) => true
  | .bif .sorted (.cons _ .nil) => true
  | .bif .list (.cons _ .nil) => true
  | _ => false
/-- xs[i], xs[j] = xs[j], xs[i] -/
def asSwap : Stmt → Option (Str × Str × Str)
  | .Assign [.Tuple [.Subscript (.Name x1 _) (.Name a1 _) _, .Subscript (.Name x2 _) (.Name b1 _) _] _ _] (.Tuple [.Subscript (.Name x3 _) (.Name b2 _) _, .Subscript (.Name x4 _) (.Name a2 _) _] _ _) _ =>
      if x1 == x2 && x1 == x3 && x1 == x4 && a1 == a2 && b1 == b2 then some (x1, a1, b1) else none
  | _ => none
theorem asSwap_eq {st : Stmt} {x a b : Str} (h : asSwap st = some (x, a, b)) : ∃ p1 p2 p3 p4 p5 p6 k1 p7 p8 p9 p10 p11 p12 p13 k2 p14 p15, st = .Assign [.Tuple [.Subscript (.Name x p1) (.Name a p2) p3, .Subscript (.Name x p4) (.Name b p5) p6] k1 p7] (.Tuple [.Subscript (.Name x p8) (.Name b p9) p10, .Subscript (.Name x p11) (.Name a p12) p13] k2 p14) p15 := by
  unfold asSwap at h
  split at h
  · split at h
    · rename_i q
      simp only [Bool.and_eq_true, beq_iff_eq] at q
      obtain ⟨⟨⟨⟨rfl, rfl⟩, rfl⟩, rfl⟩, rfl⟩ := q
      cases h
      exact ⟨_, _, _, _, _, _, _, _, _, _, _, _, _, _, _, _, _, rfl⟩
    · cases h
  · cases h
section
variable (tb : Tb) (N : List Str)
def nameB (sc : Scope) (i : Nat) (x : Str) : Bool := decide (N[i]? = some x) && visB sc x && okN x
mutual
def mtS : CS → Scope → Stmt → Bool
  | .asg _ i e, sc, st => (match asAsg st with | some (t, v, _) => nameIs N sc i t && mtE tb N e sc v | none => false)
  | .own _ i e, sc, st => (match asAsg st with | some (t, v, _) => frs0 e && nameIs N sc i t && mtE tb N e sc v | none => false)
  | .oif i t e, sc, st => (match asAsg st with
      | some (x, v, _) => nameIs N sc i x && (match asIf v, e with
          | some (c, a, b), .lst es => !t.isIte && mtE tb N t sc c && mtE tb N e sc a && (match asName b with | some y => nameB N sc i y | none => false)
          | _, _ => false)
      | none => false)
  | .tas _ is e, sc, st => (match asAsg st with
      | some (t, v, _) => (match asTup t with | some ts => namesAre N sc is ts && mtE tb N e sc v && (match asTup v with | none => true | some vs => decide (swSt sc ts vs = some none)) | none => false)
      | none => false)
  | .par _ is es, sc, st => (match asAsg st with
      | some (t, v, _) => (match asTup t, asTup v with
          | some ts, some vs => namesAre N sc is ts && allLoc sc ts && mtEs tb N es sc vs && decide (swSt sc ts vs = some (some (swNames sc ts))) && decide (is.length = vs.length) && (decide (is.length = 2) || decide (is.length = 3)) && decide is.Nodup
          | _, _ => false)
      | none => false)
  | .app _ i e, sc, st => (match asExprS st with
      | some c => (match asMeth c with | some (x, m, [y]) => decide (m = ("append" : Str)) && nameB N sc i x && notStar y && mtE tb N e sc y | _ => false)
      | none => false)
  | .tap i, sc, st => (match asExprS st with
      | some c => (match asMeth c with | some (x, m, [y]) => decide (m = ("append" : Str)) && nameB N sc i x && decide (asConst y = some (.int 0)) | _ => false)
      | none => false)
  | .ext _ i e, sc, st => (match asExprS st with
      | some c => (match asMeth c with | some (x, m, [y]) => decide (m = ("extend" : Str)) && nameB N sc i x && notStar y && mtE tb N e sc y | _ => false)
      | none => false)
  | .pop i, sc, st => (match asExprS st with
      | some c => (match asMeth c with | some (x, m, []) => decide (m = ("pop" : Str)) && nameB N sc i x | _ => false)
      | none => false)
  | .pop0 i is, sc, st => (match asAsg st with
      | some (t, v, _) => (match asTup t, asMeth v with
          | some ts, some (x, m, [y]) => namesAre N sc is ts && decide (m = ("pop" : Str)) && nameB N sc i x && decide (asConst y = some (.int 0))
          | _, _ => false)
      | none => false)
  | .sti _ i e v, sc, st => (match asAsg st with
      | some (t, u, _) => (match asIdx t with
          | some (a, z) => notSlice z && (match asName a with | some y => nameB N sc i y | none => false) && mtE tb N e sc z && mtE tb N v sc u
          | none => false)
      | none => false)
  | .popk _ i e, sc, st => (match asExprS st with
      | some c => (match asMeth c with | some (x, m, [y]) => decide (m = ("pop" : Str)) && nameB N sc i x && notStar y && mtE tb N e sc y | _ => false)
      | none => false)
  | .swp i a b, sc, st => (match asSwap st with | some (x, y, z) => nameB N sc i x && nameB N sc a y && nameB N sc b z | none => false)
  | .lkd _, _, _ => false
  | .forK _ tg it b, sc, st => (match asFor st with | some (t, i, x) => mtG N sc tg t && (match asKeys i with | some o => mtE tb N it sc o | none => false) && mtSs b sc x | none => false)
  | .ex _ e, sc, st => (match asExprS st with | some c => (asCall c).isSome && mtE tb N e sc c | none => false)
  | .ifs _ t a b, sc, st => (match asIfS st with | some (c, x, y) => !t.isIte && mtE tb N t sc c && mtSs a sc x && mtSs b sc y | none => false)
  | .for_ _ tg it b, sc, st => (match asFor st with | some (t, i, x) => mtG N sc tg t && notSet i && mtE tb N it sc i && mtSs b sc x | none => false)
  | .forR _ tg lo hi b, sc, st => (match asFor st with
      | some (t, i, x) => mtG N sc tg t && mtSs b sc x && (match asCall i with
          | some (r, y, ys) => decide (r = ("range" : Str)) && gloB sc r && notStar y && (match ys with | [] => lo.isZero && mtE tb N hi sc y | [z] => notStar z && mtE tb N lo sc y && mtE tb N hi sc z | _ => false)
          | none => false)
      | none => false)
  | .whl _ t b, sc, st => (match asWhile st with | some (c, x) => !t.isIte && mtE tb N t sc c && mtSs b sc x | none => false)
  | .ret _ e, sc, st => (match asRet st with | some v => mtE tb N e sc v | none => false)
  | .rtn, _, st => isRetN st
  | .rse c, sc, st => (match asRaise st with | some x => decide (tb.cn c = some x) && gloB sc x && okN x | none => false)
  | .tr L j e c h, sc, st => (match asTry st, h with
      | some (t, v, x, n, y, m), .exc i l => L.isEmpty && notComp v && nameIs N sc j t && mtE tb N e sc v && decide (tb.cn c = some x) && gloB sc x && okN x && decide (N[i]? = some n) && decide (sc.names.lookup n = some .local) && okN n && decide (N[l]? = some y) && decide (sc.names.lookup y = some .local) && decide (m = n)
      | _, _ => false)
  | .pas, _, st => isPass st
  | .cnt, _, st => isCont st
  | .brk, _, st => isBrk st
def mtSs : CSs → Scope → List Stmt → Bool
  | .nil, _, ss => ss.isEmpty
  | .cons c cs, sc, ss => (match c with
      | .lkd _ => mtSs cs sc ss
      | c => (match ss with | [] => false | s :: r => mtS c sc s && mtSs cs sc r))
end
end
theorem asAsg_eq {st : Stmt} {t v : Expr} {p : Pos} (h : asAsg st = some (t, v, p)) : st = .Assign [t] v p := by
  unfold asAsg at h
  split at h
  · cases h
    rfl
  · cases h
theorem asExprS_eq {st : Stmt} {e : Expr} (h : asExprS st = some e) : ∃ p, st = .Expr e p := by
  unfold asExprS at h
  split at h
  · cases h
    exact ⟨_, rfl⟩
  · cases h
theorem asIfS_eq {st : Stmt} {c : Expr} {a b : List Stmt} (h : asIfS st = some (c, a, b)) : ∃ p, st = .If c a b p := by
  unfold asIfS at h
  split at h
  · cases h
    exact ⟨_, rfl⟩
  · cases h
theorem asFor_eq {st : Stmt} {t i : Expr} {b : List Stmt} (h : asFor st = some (t, i, b)) : ∃ p, st = .For t i b [] p := by
  unfold asFor at h
  split at h
  · cases h
    exact ⟨_, rfl⟩
  · cases h
theorem asWhile_eq {st : Stmt} {c : Expr} {b : List Stmt} (h : asWhile st = some (c, b)) : ∃ p, st = .While c b [] p := by
  unfold asWhile at h
  split at h
  · cases h
    exact ⟨_, rfl⟩
  · cases h
theorem asRet_eq {st : Stmt} {e : Expr} (h : asRet st = some e) : ∃ p, st = .Return (some e) p := by
  unfold asRet at h
  split at h
  · cases h
    exact ⟨_, rfl⟩
  · cases h
theorem isRetN_eq {st : Stmt} (h : isRetN st = true) : ∃ p, st = .Return none p := by
  unfold isRetN at h
  split at h
  · exact ⟨_, rfl⟩
  · cases h
theorem asRaise_eq {st : Stmt} {x : Str} (h : asRaise st = some x) : ∃ p m k p2 p3 p4, st = .Raise (some (.Call (.Name x p) [.Constant (.str m) k p2] [] p3)) none p4 := by
  unfold asRaise at h
  split at h
  · cases h
    exact ⟨_, _, _, _, _, _, rfl⟩
  · cases h
theorem isPass_eq {st : Stmt} (h : isPass st = true) : ∃ p, st = .Pass p := by
  unfold isPass at h
  split at h
  · exact ⟨_, rfl⟩
  · cases h
theorem isCont_eq {st : Stmt} (h : isCont st = true) : ∃ p, st = .Continue p := by
  unfold isCont at h
  split at h
  · exact ⟨_, rfl⟩
  · cases h
theorem isBrk_eq {st : Stmt} (h : isBrk st = true) : ∃ p, st = .Break p := by
  unfold isBrk at h
  split at h
  · exact ⟨_, rfl⟩
  · cases h
theorem asMeth_eq {e : Expr} {x m : Str} {ys : List Expr} (h : asMeth e = some (x, m, ys)) : ∃ p a c, e = .Call (.Attribute (.Name x p) m a) ys [] c ∧ (a.endLine == c.line) = true := by
  unfold asMeth at h
  split at h
  · split at h
    · rename_i hl
      cases h
      exact ⟨_, _, _, rfl, hl⟩
    · cases h
  · cases h
theorem sw_not {v : Expr} {t : Option Expr} {l : Nat} {env : Env} (h : notComp v = true) : swapsWith v t l env = pure false := by
  cases v <;> first | rfl | cases h
theorem sw_tup {v : Expr} {es : List Expr} {k : Nat} {p : Pos} {l : Nat} {env : Env} : swapsWith v (some (.Tuple es k p)) l env = pure false := by
  cases v <;> rfl
theorem sw_lc {el : Expr} {gs : List Comprehension} {scope : Scope} {pos px : Pos} {x : Str} {l : Nat} {env : Env} : ∃ b, swapsWith (.ListComp el gs scope pos) (some (.Name x px)) l env = pure b ∧ (b = true → env.kindOf x = some .local) := by
  refine ⟨_, rfl, fun h => ?_⟩
  simp only [Bool.and_eq_true, beq_iff_eq] at h
  exact h.1.1.2
theorem stars_any (vs : List Expr) : (vs.any fun | .Starred _ _ => true | _ => false) = vs.any fun e => !notStar e := by
  congr 1
  funext e
  cases e <;> rfl
theorem fm_congr {α β : Type} {f g : α → Option β} : ∀ {l : List α}, (∀ x ∈ l, f x = g x) → l.filterMap f = l.filterMap g
  | [], _ => rfl
  | x :: l, h => by
    rw [List.filterMap_cons, List.filterMap_cons, h x List.mem_cons_self, fm_congr fun y hy => h y (List.mem_cons_of_mem _ hy)]
theorem swStores {sc : Scope} {X : Cx} {ts vs : List Expr} {k k2 : Nat} {p p2 : Pos} {r : Option (List Str)} (fk : X.env.scope.kind = .function) (hn : ∀ t ∈ ts, ∃ x p, t = .Name x p ∧ (X.env.kindOf x == some .local) = (sc.names.lookup x == some .local)) (h : swSt sc ts vs = some r) :
    swappedStores [.Tuple ts k p] (.Tuple vs k2 p2) X.env = pure r := by
  have hb : X.env.blockKind = .function := by
    unfold Env.blockKind
    rw [fk]
    rfl
  have hN : (ts.filterMap fun
    | .Name id pos => if X.env.kindOf id == some .local && pos.line == (ts.head?.map (·.pos.line)).getD 0 then some id else none
    | _ => none) = swNames sc ts := by
    unfold swNames
    refine fm_congr fun t ht => ?_
    obtain ⟨x, p, rfl, e⟩ := hn t ht
    dsimp only
    rw [e]
  unfold swSt at h
  have key : ∀ (names : List Str) (st : Bool), names = swNames sc ts → st = (vs.any fun e => !notStar e) →
      (if (!(ts.length == 2 || ts.length == 3) || vs.length != ts.length || ScopeKind.function != ScopeKind.function) = true then (pure none : Sem (Option (List Str)))
      else if st = true then pure none
      else if (names.length != ts.length || names.eraseDups.length != names.length) = true then pure none
      else if vs.all (foldedForSure 8) = true then pure none
      else if vs.all (constantsAlone 8) = true then (do unsupported "assign.tuple-of-constant-expressions:order-of-the-stores"; pure (some names))
      else pure (some names)) = pure r := by
    intro names st e1 e2
    subst e1 e2
    have e3 : (!(ts.length == 2 || ts.length == 3) || vs.length != ts.length || ScopeKind.function != ScopeKind.function) = (!(ts.length == 2 || ts.length == 3) || vs.length != ts.length) := by
      rw [show (ScopeKind.function != ScopeKind.function) = false from by decide, Bool.or_false]
    rw [e3]
    split at h
    · rename_i q
      cases h
      rw [if_pos q]
    · rename_i q
      rw [if_neg q]
      split at h
      · rename_i q
        cases h
        rw [if_pos q]
      · rename_i q
        rw [if_neg q]
        split at h
        · rename_i q
          cases h
          rw [if_pos q]
        · rename_i q
          rw [if_neg q]
          split at h
          · rename_i q
            cases h
            rw [if_pos q]
          · rename_i q
            rw [if_neg q]
            split at h
            · cases h
            · rename_i q
              rw [if_neg q]
              cases h
              rfl
  unfold swappedStores
  dsimp only [pure_bind]
  rw [hb]
  exact key _ _ hN (stars_any vs)
end FR
/-! FrSndT: an error caught and kept beyond its except suite. -/
namespace FR
open PySem PySem.Spec PyProof.Rows L2
theorem exV_ok {P : Program} {w : World} {H : Hp} {h : Heap} {a : Addr} {cls : Value} {oe : Obj} {vs : Array Value} (e : h.get? a = some oe) (z : Zc cls none oe) (d : oe.data = .fields vs) : ObjOk P w H h a (ExV cls a) :=
  ⟨⟨oe, vs, e, z, d⟩, ⟨oe, e⟩, fun _ _ ⟨o, v, q, r⟩ k => ⟨o, v, k o q, r⟩⟩
section
variable {X : Cx} {pins : List (Addr × Obj)} {s : Shared} {σ : L2.St} {H : Hp}
/-- an object that came meanwhile is tracked from now on -/
theorem inv_lay {a : Addr} {o : HO} (I : Inv X pins σ H s) (hn : H a = none) (n0 : X.s_0.heap.get? a = none) (nL : a ≠ X.env.locals) (nC : ∀ x c, X.env.cells.lookup x = some c → c ≠ a) (np : ∀ p ∈ X.pn ++ pins, p.1 ≠ a)
    (new : ObjOk X.prog X.w (upd H a o) s.heap a o) : Inv X pins σ (upd H a o) s where
  ok := I.ok
  os := I.os
  bare := I.bare
  base := ⟨I.base.keep, I.base.slot, fun b u q n x => by
      rw [upd_ne (fun z => by rw [z, n0] at q; cases q)]
      exact I.base.free b u q n x, I.base.there, fun b xs q => by
      have z := I.base.tups b xs q
      rw [upd_ne (ne_of_none z hn)]
      exact z, fun b u v q => by
      have z := I.base.frzs b u v q
      rw [upd_ne (ne_of_none z hn)]
      exact z, fun b ps q => by
      obtain ⟨m, z⟩ := I.base.tbls b ps q
      exact ⟨m, by rw [upd_ne (ne_of_none z hn)]; exact z⟩⟩
  loc := I.loc
  cell := I.cell
  free := by
    rw [upd_ne (Ne.symm nL)]
    exact I.free
  freeC := fun x c e => by
    rw [upd_ne (nC x c e)]
    exact I.freeC x c e
  pin := fun p hp => by
    obtain ⟨p1, p2, p3⟩ := I.pin p hp
    exact ⟨p1, by rw [upd_ne (np p hp)]; exact p2, p3⟩
  hok := fun b u e => by
    by_cases hb : b = a
    · subst hb
      rw [upd_same] at e
      cases e
      exact new
    · rw [upd_ne hb] at e
      exact (I.hok b u e).stay (fun _ _ _ q => q) (fun c q => by rw [upd_ne (ne_of_none q hn)]; exact q) fun c xs q => by rw [upd_ne (ne_of_none q hn)]; exact q
  len := I.len
end
/-- where a caught error lies: at none of our places, new since the entry -/
structure NewAt (X : Cx) (pins : List (Addr × Obj)) (a : Addr) : Prop where
  loc : a ≠ X.env.locals
  frm : a ∉ X.fs
  old : X.s_0.heap.get? a = none
  pin : ∀ p ∈ X.pn ++ pins, p.1 ≠ a
theorem newAt {X : Cx} {pins : List (Addr × Obj)} {σ : L2.St} {H : Hp} {t : Shared} {a : Addr} {B g : Heap} {Z : Obj → Prop} (hs : X.stack = X.env :: X.outer) (hf : X.env.frame = some X.env.locals) (hx : X.ex = []) (J : Inv X pins σ H t)
    (nb : ∀ b o, t.heap.get? b = some o → b ∉ frs X.stack → B.get? b = some o) (fl : HandSPX.FlyingZ B (X.env :: X.outer) a Z g) : NewAt X pins a := by
  obtain ⟨oz, wz, q1, _, q2⟩ := fl.there
  have out : a ∉ frs (X.env :: X.outer) := by
    intro m
    obtain ⟨_, ou, e, no⟩ := fl.2.2.1.mem m
    cases q1.symm.trans e
    exact no wz q2
  have gone : t.heap.get? a = none := Option.eq_none_iff_forall_ne_some.mpr fun o e => by
    have z := (nb a o e (hs ▸ out)).symm.trans fl.2.1
    cases z
  refine ⟨?_, ?_, Option.eq_none_iff_forall_ne_some.mpr ?_, ?_⟩
  · rintro rfl
    exact out (List.mem_filterMap.mpr ⟨_, .head _, hf⟩)
  · intro m
    obtain ⟨en, m1, m2⟩ := List.mem_filterMap.mp m
    exact out (List.mem_filterMap.mpr ⟨en, .tail _ m1, m2⟩)
  · intro o e
    obtain ⟨_, z⟩ := J.base.there a o e (hx ▸ List.not_mem_nil)
    cases gone.symm.trans z
  · rintro p m rfl
    cases gone.symm.trans (J.pin p m).1
/-- the class's name, asked in the suite -/
theorem ask_cls {Y : Cx} {q : List (Addr × Obj)} {σ : L2.St} {H : Hp} {t : Shared} {x : Str} {c : Value} {np : Pos} {X : Cx} (I : Inv Y q σ H t) (hc : Names X x c) (e1 : Gl X x → Gl Y x) (e2 : Y.mg = X.mg) {Q E : Value → Shared → Prop} (h : Q c t) : wpAny (model Y.prog Y.w) Y.A (eval (.Name x np) Y.env) Q E t := by
  rcases hc with ⟨g, nd, c1 | ⟨c1, c2, c3⟩⟩
  · exact ld_glob I (e1 g) (e2 ▸ c1) h nd
  · exact ld_blt I (e1 g) (e2 ▸ c1) c2 h c3 nd
/-- the error goes on, no clause of ours being its -/
theorem go_on {X : Cx} {a : Addr} {B : Heap} {t : Shared} {Z : Obj → Prop} {Q : Flow → Shared → Prop} (hf : X.env.frame = some X.env.locals) (fl : HandSPX.FlyingZ B (X.env :: X.outer) a Z t.heap)
    (out : ∀ g, HandSPX.HeldZ B (X.env :: X.outer) a Z X.env.locals g → t.heap.UpToSlots g → X.xe (.ref a) { t with heap := g }) : wpAny (model X.prog X.w) X.A (handleBy (.ref a) X.env []) Q X.xe t := by
  apply wpAny_handleBy_nil
  have fl' := fl
  obtain ⟨_, _, _, ob, fs, tb, _, _, g1, _, g2, g3, _⟩ := fl'
  have up : wpAny (model X.prog X.w) X.A (setFlight (.ref a) X.env.frame) (fun _ u => wpAny (model X.prog X.w) X.A (throw (.ref a) : Sem Flow) Q X.xe u) X.xe t := by
    rw [hf]
    exact HandSPX.setFlight_upZ fl fun g hg ug => wpAny_throw (out g hg ug)
  have nn : ¬ ((Value.ref tb == Value.none) = true) := by simp
  unfold PySem.passOn
  refine wpAny_bind (wpAny_field g1 g2 g3 ?_)
  rw [if_neg nn]
  first
    | exact wpAny_bind up
    | exact wpAny_bind (wpAny_pure (wpAny_bind up))
/-- what 'except x as n: y = n' wishes: n's slot i, y's slot k -/
def wVal (K : PySem.W.Frag) (c : Value) (i k : Nat) (Wout : WX) (D : Ends) : WX := fun cls d σ H =>
  ∃ b, PySem.W.exmOne K cls c = some b ∧ (b = true → d = none ∧ ∀ a, H a = none → D.nx (((σ.set i (some (.ref a))).set k (some (.ref a))).set i none) (upd H a (ExV cls a))) ∧ (b = false → Wout cls d σ H)
section
variable {X : Cx} {x n y : Str} {c : Value} {i k : Nat} {body : List Stmt} {np py pn' pa pos pos' : Pos} {tb : WX → TS} {Wout : WX}
/-- n is set, y = n runs, n goes: y holds the error -/
theorem keep_err {pins : List (Addr × Obj)} {σ : L2.St} {H : Hp} {t : Shared} {a : Addr} {ob : Obj} {fs : Array Value} {cls : Value} {D : Ends} (hN : X.N.Nodup) (hi : X.N[i]? = some n) (hln : X.env.kindOf n = some .local) (hk : X.N[k]? = some y) (hly : X.env.kindOf y = some .local)
    (hd1 : (n == ("__debug__" : Str)) = false) (hd2 : (n == ("__classdict__" : Str)) = false) (J : Inv X pins σ H t) (no : H a = none) (nw : NewAt X pins a) (g1 : t.heap.get? a = some ob) (g2 : Zc cls none ob) (g3 : ob.data = .fields fs)
    (h : D.nx (((σ.set i (some (.ref a))).set k (some (.ref a))).set i none) (upd H a (ExV cls a))) {E : Value → Shared → Prop} {Q : Shared → Prop} (fin : ∀ s7, SP X pins D .next s7 → Q s7) :
    ∀ s5, Inv (X.suite a ((a, ob) :: (X.pn ++ pins))) [] (σ.set i (some (.ref a))) H s5 → wpAny (model X.prog X.w) (X.A.mark (some (.ref a))) (execs [.Assign [.Name y py] (.Name n pn') pa] X.env) (fun f s6 => f = .next ∧ wpAny (model X.prog X.w) X.A (do bindName X.env n .none; unbindBehindTheSuite X.env n pos') (fun _ s7 => Q s7) X.xe s6) E s5 := by
  intro s5 S5
  have run : PSs (X.suite a ((a, ob) :: (X.pn ++ pins))) [.Assign [.Name y py] (.Name n pn') pa] (tAsg (tVar i) (gName k)) := pss_one (ps_set hN hk (.inl hly) (pe_var hi (.inl hln) hd1 hd2) rfl (.inr hly))
  have li : i < σ.length := J.len ▸ (List.getElem?_eq_some_iff.mp hi).1
  refine wpAny_mono (run.run [] s5 _ H { nx := fun σ6 H6 => σ6 = (σ.set i (some (.ref a))).set k (some (.ref a)) ∧ H6 = H, rt := fun _ _ => False, bk := fun _ _ => False, ct := fun _ _ => False } S5 ⟨_, List.getElem?_set_self li, rfl, rfl⟩) (fun f s6 r => ?_) fun _ _ z => z.elim
  cases f with
  | next =>
    obtain ⟨_, _, S6, rfl, rfl⟩ := r
    refine ⟨rfl, gone_ok (X := X.suite a ((a, ob) :: (X.pn ++ pins))) S6 hN hi hln fun s7 S7 => fin s7 ?_⟩
    have J7 := S7.unsuite J.ok
    have at7 := (S7.pin (a, ob) (List.mem_append_left _ (.head _))).1
    refine ⟨_, _, inv_lay J7 no nw.old nw.loc (fun v cl e z => ?_) nw.pin (exV_ok at7 g2 g3), h⟩
    obtain ⟨_, oc, r1, r2⟩ := J7.cell v cl e
    subst z
    cases at7.symm.trans r1
    cases g3.symm.trans r2
  | brk =>
    obtain ⟨_, _, _, z⟩ := r
    exact z.elim
  | cont =>
    obtain ⟨_, _, _, z⟩ := r
    exact z.elim
  | ret u =>
    obtain ⟨_, _, _, _, _, z⟩ := r
    exact z.elim
/-- what is done with an error of the body -/
abbrev onErr (X : Cx) (cl : List ExceptHandler) (P : Flow → Shared → Prop) : Value → Shared → Prop := fun e t => wpAny (model X.prog X.w) X.A (noteFrame e X.env)
  (fun _ u => wpAny (model X.prog X.w) X.A (setFlight e none) (fun _ v => wpAny (model X.prog X.w) X.A (handleBy e X.env cl) P X.xe v) X.xe u) X.xe t
theorem ps_try_val (hs : X.stack = X.env :: X.outer) (hf : X.env.frame = some X.env.locals) (hx : X.ex = []) (hN : X.N.Nodup) (hi : X.N[i]? = some n) (hln : X.env.kindOf n = some .local) (hk : X.N[k]? = some y) (hly : X.env.kindOf y = some .local)
    (hd1 : (n == ("__debug__" : Str)) = false) (hd2 : (n == ("__classdict__" : Str)) = false) (hc : Names X x c) (tk : Takes X Wout)
    (hb : ∀ (V : WX) (pl : List (Addr × Obj)) (xe : Value → Shared → Prop), Takes (X.tr pl xe) V → PassesOwn (model X.prog X.w) X.A X.env xe → PSs (X.tr pl xe) body (tb V)) :
    PS X (.Try body [.ExceptHandler (some (.Name x np)) (some n) [.Assign [.Name y py] (.Name n pn') pa] pos'] [] [] pos) (fun D σ H => tb (wVal X.K c i k Wout D) D σ H) := by
  constructor
  intro pins s0 σ0 H0 D I0 h0
  have fr : X.A.frames = some (X.env :: X.outer) := I0.ok.frames.trans (congrArg some hs)
  apply wpAny_Try_except
  have bodyRun := (hb (wVal X.K c i k Wout D) (X.pn ++ pins) (onErr X [.ExceptHandler (some (.Name x np)) (some n) [.Assign [.Name y py] (.Name n pn') pa] pos'] (SP X pins D)) (fun u t1 air => ?caught) PassesOwn.looking).run [] s0 σ0 H0 D (I0.toTry _) h0
  · refine wpAny_mono bodyRun (fun f t1 r => ?_) fun _ _ z => z
    cases f with
    | next => exact wpAny_execs_nil (r.imp fun _ ⟨H2, J2, q⟩ => ⟨H2, J2.ofTry I0.ok, q⟩)
    | brk => exact r.imp fun _ ⟨H2, J2, q⟩ => ⟨H2, J2.ofTry I0.ok, q⟩
    | cont => exact r.imp fun _ ⟨H2, J2, q⟩ => ⟨H2, J2.ofTry I0.ok, q⟩
    | ret u => exact r.imp fun _ ⟨σ2, H2, J2, q⟩ => ⟨σ2, H2, J2.ofTry I0.ok, q⟩
  case caught =>
    obtain ⟨a, B, tI, pl, σ1, H1, cls, d, rfl, JT, nb, up, sky, no, os, ag, b, mt, yes, nope⟩ := air
    have J1 : Inv X pins σ1 H1 tI := JT.ofTry I0.ok
    refine Sky.land Zc.steady fr hf (show Sky B (X.env :: X.outer) a (Zc cls d) X.env.locals t1.heap from hs ▸ sky) fun g3 f3 u3 => ?_
    have K3 : Inv X pins σ1 H1 { t1 with heap := g3 } := J1.landed nb f3.1 (up.trans u3) os ag
    have nw := newAt hs hf hx J1 nb f3
    obtain ⟨o3, w3, p1, p2, p3⟩ := f3.there
    have inS := K3.suite p1 p3 no nw.loc nw.frm
    have typ : PySem.W.Looks (model X.prog X.w) g3 (typeOf (.ref a)) cls := fun _ _ _ _ kp q => wpAny_typeOf_ref (kp _ _ p1) (p2.1 ▸ q)
    refine wpAny_handleBy_cons (codeAny_handlers_test (ask_cls (X := X) inS hc id rfl ((PySem.W.exm_one K3.kIn typ mt).here ?_))) nofun
    cases b with
    | false => exact go_on hf f3 fun g4 hg ug => tk _ _ ⟨a, B, tI, pins, σ1, H1, cls, d, rfl, J1, nb, (up.trans u3).trans ug, .inr (.inr (hs ▸ hg)), no, os, ag, nope rfl⟩
    | true =>
      obtain ⟨d0, yes1⟩ := yes rfl
      subst d0
      apply codeAny_handlers_suite_as
      refine HandSPX.lands_againZ f3 fun g4 f4 u4 => ?_
      have K4 : Inv X pins σ1 H1 { t1 with heap := g4 } := J1.landed nb f4.1 ((up.trans u3).trans u4) os ag
      obtain ⟨o4, w4, r1, r2, r3⟩ := f4.there
      refine store_ok (X := X.suite a ((a, o4) :: (X.pn ++ pins))) (v := .ref a) (K4.suite r1 r3 no nw.loc nw.frm) hN hi (.inl hln) rfl (fun s5 S5 => ?_) (.inr hln)
      refine wpAny_mono (keep_err (pos' := pos') (Q := SP X pins D .next) hN hi hln hk hly hd1 hd2 K4 no nw r1 r2 r3 (yes1 a no) (fun _ q => q) s5 S5) (fun f s6 q => ?_) fun _ _ z => z
      obtain ⟨rfl, q⟩ := q
      exact q
end
end FR
/-! FrSnd12: the theorem for statements, for defs. -/
namespace FR
open PySem PySem.Spec PyProof.Rows L2
section
variable {tb : Tb} {k : Nat} {Z : Gd} {H0 : Ent} {N : List Str}
/-- a def's body: the context -/
structure Bd (tb : Tb) (k : Nat) (Z : Gd) (N : List Str) (sc : Scope) (X : Cx) (W : WX) : Prop where
  gr : Gr tb k Z X
  so : ScOk sc X
  tk : Takes X W
  po : PassesOwn (model X.prog X.w) X.A X.env X.xe
  hN : X.N = N
  fk : X.env.scope.kind = .function
  ex : X.ex = []
  hs : X.stack = X.env :: X.outer
  hf : X.env.frame = some X.env.locals
theorem isL_lst {en : En} {es : CEs} : isL (evE en (.lst es)) := isL_bind (o := evEs en es) (f := fun _ ds s => if ds.length ≤ SZ then some (.ok (.lst ds), s) else none) fun g ds s d s' e => by
  split at e
  · cases e
    exact ⟨_, rfl⟩
  · cases e
theorem isDc_0 {en : En} : isDc (evE en .dct0) := fun g s d s' e => by
  cases e
  exact ⟨_, rfl⟩
theorem dict_ev {en : En} {a : CE} {g : G} {s : S} : evE en (.bif .dict (.cons a .nil)) g s = rb (evE en a g s) fun d s => rp (dictD d s) s := by
  show rb (rb (evE en a g s) fun d s => rb (some (.ok [], s)) fun ds s => some (.ok (d :: ds), s)) (fun ds s => rp (bifD .dict ds s) s) = _
  rw [rb_rb]
  rfl
theorem sorted_ev {en : En} {a : CE} {g : G} {s : S} : evE en (.bif .sorted (.cons a .nil)) g s = rb (evE en a g s) fun d s => rp (sortedD d s) s := by
  show rb (rb (evE en a g s) fun d s => rb (some (.ok [], s)) fun ds s => some (.ok (d :: ds), s)) (fun ds s => rp (bifD .sorted ds s) s) = _
  rw [rb_rb]
  rfl
theorem list_ev {en : En} {a : CE} {g : G} {s : S} : evE en (.bif .list (.cons a .nil)) g s = rb (evE en a g s) fun d s => rp (listD d s) s := by
  show rb (rb (evE en a g s) fun d s => rb (some (.ok [], s)) fun ds s => some (.ok (d :: ds), s)) (fun ds s => rp (bifD .list ds s) s) = _
  rw [rb_rb]
  rfl
theorem isL_of1 {f : D → S → Option D} (hf : ∀ d s e, f d s = some e → ∃ ds, e = .lst ds) {ev : G → S → EV D} {ea : G → S → EV D} (he : ∀ g s, ev g s = rb (ea g s) fun d s => rp (f d s) s) : isL ev := fun g s d s' e => by
  rw [he] at e
  cases q : ea g s with
  | none =>
    rw [q] at e
    cases e
  | some p =>
    obtain ⟨r, s1⟩ := p
    rw [q] at e
    cases r with
    | exn c => cases e
    | ok x =>
      rw [rb_ok] at e
      cases q2 : f x s1 with
      | none =>
        rw [q2] at e
        cases e
      | some y =>
        rw [q2] at e
        cases e
        exact hf _ _ _ q2
theorem sortedD_l (d : D) (s : S) (e : D) (h : sortedD d s = some e) : ∃ ds, e = .lst ds := by
  unfold sortedD at h
  split at h
  · unfold sortedL at h
    split at h
    · split at h
      · cases h
        exact ⟨_, rfl⟩
      · cases h
    · split at h
      · split at h
        · cases h
          exact ⟨_, rfl⟩
        · cases h
      · cases h
  · obtain ⟨ks, _, _, rfl⟩ := keySort_eq h
    exact ⟨_, rfl⟩
  · cases h
theorem listD_l (d : D) (s : S) (e : D) (h : listD d s = some e) : ∃ ds, e = .lst ds := by
  unfold listD at h
  split at h
  · cases h
    exact ⟨_, rfl⟩
  · cases h
    exact ⟨_, rfl⟩
  · cases h
theorem isDc_d {en : En} {a : CE} : isDc (evE en (.bif .dict (.cons a .nil))) := fun g s d s' e => by
  rw [dict_ev] at e
  cases q : evE en a g s with
  | none =>
    rw [q] at e
    cases e
  | some p =>
    obtain ⟨r, s1⟩ := p
    rw [q] at e
    cases r with
    | exn c => cases e
    | ok x =>
      rw [rb_ok] at e
      cases q2 : dictD x s1 with
      | none =>
        rw [q2] at e
        cases e
      | some y =>
        rw [q2] at e
        cases e
        unfold dictD at q2
        split at q2
        · obtain ⟨ps, _, e3⟩ := Option.bind_eq_some_iff.mp q2
          split at e3
          · cases e3
            exact ⟨_, rfl⟩
          · cases e3
        · cases q2
          exact ⟨_, rfl⟩
        · cases q2
theorem nameIs_eq {sc : Scope} {i : Nat} {t : Expr} (h : nameIs N sc i t = true) : ∃ x p, t = .Name x p ∧ N[i]? = some x ∧ locB sc x = true := by
  unfold nameIs at h
  split at h
  · rw [Bool.and_eq_true, decide_eq_true_eq] at h
    exact ⟨_, _, rfl, h.1, h.2⟩
  · cases h
/-- name = an expression: what the rule of the statement asks -/
theorem asgT {X : Cx} {W : WX} {sc : Scope} {i : Nat} {t v : Expr} {p : Pos} {te : TE} (b : Bd tb k Z N sc X W) (ht : nameIs N sc i t = true) (hv : notComp v = true) (h : PE X v te) : PS X (.Assign [t] v p) (tAsg te (gName i)) := by
  obtain ⟨x, px, rfl, h1, h2⟩ := nameIs_eq ht
  obtain ⟨h3, h4⟩ := b.so.lc h2
  exact ps_set b.gr.nd (by rw [b.hN]; exact h1) h3 h (sw_not hv) h4
theorem asgC {X : Cx} {W : WX} {sc : Scope} {i : Nat} {t v : Expr} {p : Pos} {ev : G → S → EV D} (b : Bd tb k Z N sc X W) (ht : nameIs N sc i t = true) (h : CompOk Z W H0 X v ev) :
    ∃ te, PS X (.Assign [t] v p) (tAsg te (gName i)) ∧ ∀ σ H Q, tF Z W H0 ev σ H Q → te σ H Q := by
  obtain ⟨x, px, rfl, h1, h2⟩ := nameIs_eq ht
  obtain ⟨h3, h4⟩ := b.so.lc h2
  obtain ⟨el, t, j, fs, scope, pos, own, wi, g, tt, te, rfl, q1, q2, q3, q4, q5, q6, q7⟩ := h
  obtain ⟨sw, e1, e2⟩ := sw_lc (el := el) (gs := [⟨t, j, fs, 0⟩]) (scope := scope) (pos := pos) (px := px) (x := x) (l := p.line) (env := X.env)
  cases sw with
  | true => exact ⟨_, ps_setLc b.gr.calm b.gr.nd (by rw [b.hN]; exact h1) (e2 rfl) e1 q1 q2 q3 q4 q5 q6, q7⟩
  | false => exact ⟨_, ps_set b.gr.nd (by rw [b.hN]; exact h1) h3 (pe_lc b.gr.calm b.gr.nd q1 q2 q3 q4 q5 q6) e1 h4, q7⟩
theorem compOk_of {c : CE} {X : Cx} {W : WX} {sc : Scope} {v : Expr} (b : Bd tb k Z N sc X W) (h : mtE tb N c sc v = true) (hc : notComp v = false) : ∃ ev, CompOk Z W H0 X v ev ∧ isL ev ∧ ∀ g s, evE (enOf tb k) c g s = ev g s := by
  have nc : ∀ {c : CE}, mtE tb N c sc v = true → (asComp v).isSome = true ∨ True := fun _ => .inr trivial
  cases c with
  | comp tg it ifs elt => exact ⟨_, fCompS (snd it) (snd ifs) (snd elt) b.gr b.so b.tk b.hN h, isL_comp, comp_eq⟩
  | compR tg lo hi ifs elt => exact ⟨_, fCompR (snd lo) (snd hi) (snd ifs) (snd elt) b.gr b.so b.tk b.hN h, isL_comp, compR_eq⟩
  | compK tg it ifs elt => exact ⟨_, fCompK (snd it) (snd ifs) (snd elt) b.gr b.so b.tk b.hN h, isL_comp, compK_eq⟩
  | _ =>
    exfalso
    cases v <;> first | (cases hc; done) | (simp [mtE, asConst, asName, asBin, asUn, asCmp1, asCmp2, asBoolOp, asIf, asTup, asLst, asIdx, asSlc, asRev, asCall, asMth, asCall2, asDict1] at h; done)
theorem names_loc {X : Cx} {sc : Scope} (so : ScOk sc X) : ∀ {is : List Nat} {ts : List Expr}, namesAre N sc is ts = true → ∀ t ∈ ts, ∃ x p, t = .Name x p ∧ (X.env.kindOf x == some .local) = (sc.names.lookup x == some .local)
  | [], [], _, t, ht => nomatch ht
  | i :: is, e :: es, h, t, ht => by
    unfold namesAre at h
    rw [Bool.and_eq_true] at h
    rcases List.mem_cons.mp ht with rfl | ht
    · obtain ⟨x, p, rfl, _, h2⟩ := nameIs_eq h.1
      refine ⟨x, p, rfl, ?_⟩
      unfold locB at h2
      split at h2
      · rename_i q
        show (X.env.scope.names.lookup x == _) = _
        rw [so.loc x q, q]
      · rename_i q
        show (X.env.scope.names.lookup x == _) = _
        rw [(so.cell x q).1, q]
      · cases h2
    · exact names_loc so h.2 t ht
theorem swTup {X : Cx} {ts : List Expr} {kt : Nat} {pt : Pos} {v : Expr} (hv : asTup v = none) : swappedStores [.Tuple ts kt pt] v X.env = pure none := by
  cases v <;> first | rfl | cases hv
/-- x.m(..) of our own list -/
theorem methE {X : Cx} {W : WX} {sc : Scope} {i : Nat} {x : Str} {p : Pos} (b : Bd tb k Z N sc X W) (h : nameB N sc i x = true) : PE X (.Name x p) (tVar i) := by
  unfold nameB at h
  simp only [Bool.and_eq_true, decide_eq_true_eq] at h
  exact pv_of b.so (by rw [b.hN]; exact h.1.1) h.1.2 h.2
theorem few1 {e : Expr} (h : notStar e = true) (env : Env) (c : Pos) : ((backTo c (starEach [e] env)).all (fun x => !x.1) && (backToKw c (keywordEach [] env)).all (fun x => x.1.isSome) && decide ([e].length + ([] : List Keyword).length + (if ([] : List Keyword).isEmpty then 0 else 1) < 30)) = true := by
  rw [star1 h]
  rfl
theorem tyList {K : PySem.W.Frag} {H : Hp} {a : Addr} {xs : List V} (h : H a = some (.lst xs)) : tyV K "list" (.ref a) H := .inl ⟨rfl, _, SqL.of h⟩
theorem swNames2 {sc : Scope} {x y : Str} {px py : Pos} (h : (swNames sc [.Name x px, .Name y py]).length = [Expr.Name x px, .Name y py].length) : swNames sc [.Name x px, .Name y py] = [x, y] := by
  unfold swNames at h ⊢
  simp only [List.filterMap_cons, List.filterMap_nil] at h ⊢
  split at h <;> split at h <;> simp_all
theorem swNames3 {sc : Scope} {x y z : Str} {px py pz : Pos} (h : (swNames sc [.Name x px, .Name y py, .Name z pz]).length = [Expr.Name x px, .Name y py, .Name z pz].length) : swNames sc [.Name x px, .Name y py, .Name z pz] = [x, y, z] := by
  unfold swNames at h ⊢
  simp only [List.filterMap_cons, List.filterMap_nil] at h ⊢
  split at h <;> split at h <;> split at h <;> simp_all
theorem RepL.init {h : Hp} : ∀ {ds : List D} {vs : List V}, RepL Z h ds vs → RepL Z h ds.dropLast vs.dropLast
  | _, _, .nil => .nil
  | _, _, .cons x .nil => .nil
  | _, _, .cons x (.cons y z) => .cons x (RepL.init (.cons y z))
theorem rForR {X : Cx} {W : WX} {en : En} {L : List Nat} {elo ehi : CE} {tg iter : Expr} {tgt : Tgt} {b : List Stmt} {pos : Pos} {fb : G → S → EV Fl} (hp : PassesOwn (model X.prog X.w) X.A X.env X.xe) (hc : X.calm = true) (hi : PI X tg iter (tI Z W H0 (evRng (evE en elo) (evE en ehi)))) (hg : PG X tg (gSet Z.K tgt)) (hb : PSs X b (tS Z W H0 fb))
    (hs : ∀ x, foldedSetIterable iter X.env x = pure x) : PS X (.For tg iter b [] pos) (tS Z W H0 fun g s => rb (evE en elo (frz g L) s) fun x s => rb (evE en ehi (frz g L) s) fun y s => rb (rp (rngD x y) s) fun ds s => forL tgt fb ds (frz g L) s) :=
  psW (ps_for hp hc hi hg hb hs) fun D σ H ⟨g, s, Sh, ok, h⟩ => by
    dsimp only at h
    obtain ⟨Sh1, k1, fz⟩ := ok.frz L
    refine ⟨_, s, Sh1, k1, ?_⟩
    unfold EvI evRng
    cases q : evE en elo (frz g L) s with
    | none =>
      rw [q] at h
      exact h.elim
    | some p =>
      obtain ⟨r, s1⟩ := p
      rw [q] at h
      cases r with
      | exn c => exact fun H' Sh' x => h σ H' Sh' (k1.ent.trans x)
      | ok x =>
        rw [rb_ok] at h ⊢
        cases q1 : evE en ehi (frz g L) s1 with
        | none =>
          rw [q1] at h
          exact h.elim
        | some p =>
          obtain ⟨r, s2⟩ := p
          rw [q1] at h
          cases r with
          | exn c => exact fun H' Sh' x => h σ H' Sh' (k1.ent.trans x)
          | ok y =>
            rw [rb_ok] at h ⊢
            cases q2 : rngD x y with
            | none =>
              rw [q2] at h
              exact h.elim
            | some ds =>
              rw [q2, rp_some, rb_ok] at h
              exact ⟨ds, rfl, fun J H1 Sh2 x2 wk => rForB (tg := tg) (iter := iter) (b := b) (pos := pos) (k1.ext x2) wk (EvS.mono h (fz.shs.trans x2.shs))⟩
theorem rForK {X : Cx} {W : WX} {en : En} {L : List Nat} {it : CE} {tg iter : Expr} {tgt : Tgt} {b : List Stmt} {pos : Pos} {fb : G → S → EV Fl} (hp : PassesOwn (model X.prog X.w) X.A X.env X.xe) (hc : X.calm = true) (hi : PI X tg iter (tI Z W H0 (evKeys (evE en it)))) (hg : PG X tg (gSet Z.K tgt)) (hb : PSs X b (tS Z W H0 fb))
    (hs : ∀ x, foldedSetIterable iter X.env x = pure x) : PS X (.For tg iter b [] pos) (tS Z W H0 fun g s => rb (evE en it (frz g L) s) fun x s => rb (rp (keysD x) s) fun ds s => forL tgt fb ds (frz g L) s) :=
  psW (ps_for hp hc hi hg hb hs) fun D σ H ⟨g, s, Sh, ok, h⟩ => by
    dsimp only at h
    obtain ⟨Sh1, k1, fz⟩ := ok.frz L
    refine ⟨_, s, Sh1, k1, ?_⟩
    unfold EvI evKeys
    cases q : evE en it (frz g L) s with
    | none =>
      rw [q] at h
      exact h.elim
    | some p =>
      obtain ⟨r, s1⟩ := p
      rw [q] at h
      cases r with
      | exn c => exact fun H' Sh' x => h σ H' Sh' (k1.ent.trans x)
      | ok x =>
        rw [rb_ok] at h ⊢
        cases q2 : keysD x with
        | none =>
          rw [q2] at h
          exact h.elim
        | some ds =>
          rw [q2, rp_some, rb_ok] at h
          exact ⟨ds, rfl, fun J H1 Sh2 x2 wk => rForB (tg := tg) (iter := iter) (b := b) (pos := pos) (k1.ext x2) wk (EvS.mono h (fz.shs.trans x2.shs))⟩
theorem asg_sub {o z : Expr} {pos : Pos} {env : Env} (h : notSlice z = true) (w : Value) : assign (.Subscript o z pos) env w = (do
    let ov ← holding [w] (eval o env)
    let iv ← holding [w, ov] (eval z env)
    standAt pos
    holding [w, ov, iv] (setItem ov iv w)
    release [w, ov, iv] []) := by
  cases z <;> first | rfl | cases h
theorem sw_subs {a1 a2 b1 b2 vs1 vs2 : Expr} {q1 q2 : Pos} {k1 k2 : Nat} {p1 p2 : Pos} {env : Env} (h1 : notStar vs1 = true := by rfl) (h2 : notStar vs2 = true := by rfl) : swappedStores [.Tuple [.Subscript a1 b1 q1, .Subscript a2 b2 q2] k1 p1] (.Tuple [vs1, vs2] k2 p2) env = pure none := by
  unfold swappedStores
  simp
theorem sw_sub {v o i : Expr} {p : Pos} {l : Nat} {env : Env} : swapsWithSole [.Subscript o i p] v l env = pure false := by
  cases v <;> rfl
/-- a slot forgotten -/
theorem Ok.forget {H Sh : Hp} {σ : L2.St} {g : G} {s : S} (k : Ok Z H0 σ g H Sh s) (i : Nat) (o : Option V) : Ok Z H0 (σ.set i o) (g.set i .un) H Sh s where
  ent := k.ent
  len := by rw [List.length_set, List.length_set, k.len]
  slot := fun j x u e1 e2 => by
    by_cases e : j = i
    · subst e
      have hl : j < g.length := by
        have := (List.getElem?_eq_some_iff.mp e1).1
        rwa [List.length_set] at this
      rw [List.getElem?_set_self hl] at e1
      cases e1
      trivial
    · rw [List.getElem?_set_ne (Ne.symm e)] at e1 e2
      exact k.slot j x u e1 e2
  dist := fun j l x y u e1 e2 o1 o2 e3 e4 => by
    have ne : ∀ {j : Nat} {x : Sl}, (g.set i Sl.un)[j]? = some x → isOwn x = true → j ≠ i := fun {j x} e h z => by
      subst z
      have hl : j < g.length := by
        have := (List.getElem?_eq_some_iff.mp e).1
        rwa [List.length_set] at this
      rw [List.getElem?_set_self hl] at e
      cases e
      cases h
    have n1 := ne e1 o1
    have n2 := ne e2 o2
    rw [List.getElem?_set_ne (Ne.symm n1)] at e1 e3
    rw [List.getElem?_set_ne (Ne.symm n2)] at e2 e4
    exact k.dist j l x y u e1 e2 o1 o2 e3 e4
theorem Bd.try_ {X : Cx} {sc : Scope} {W V : WX} {pl : List (Addr × Obj)} {xe : Value → Shared → Prop} (b : Bd tb k Z N sc X W) (tk : Takes (X.tr pl xe) V) (po : PassesOwn (model X.prog X.w) X.A X.env xe) : Bd tb k Z N sc (X.tr pl xe) V where
  gr := ⟨b.gr.hk, b.gr.room, b.gr.hu, b.gr.blt, b.gr.glo, b.gr.fn, b.gr.exc, b.gr.exm, b.gr.exi, b.gr.calm, b.gr.nd, b.gr.fnF, b.gr.fnO⟩
  so := ⟨b.so.loc, b.so.cell, b.so.free, b.so.glob⟩
  tk := tk
  po := po
  hN := b.hN
  fk := b.fk
  ex := b.ex
  hs := b.hs
  hf := b.hf
/-- try .. except x as n: y = n -/
theorem rTry {X : Cx} {sc : Scope} {W : WX} {st : Stmt} {j i l c : Nat} {e : CE} (b : Bd tb k Z N sc X W) (h : PS X st fun D σ H => tAsg (tV Z (wVal X.K (.ref (Z.cA c)) i l W D) H0 (evE (enOf tb k) e)) (gName j) D σ H) : PS X st (tS Z W H0 (evS (enOf tb k) (.tr [] j e c (.exc i l)))) :=
  psW h fun D σ H ⟨g, s, Sh, ok, h⟩ => by
    refine ⟨g, s, Sh, ok, ?_⟩
    have h : EvS Z W H0 Sh (trK tb.sub c (.exc i l) g (exE (enOf tb k) [] e g s fun d g s => some (.ok (.nx (g.set j (.dat d))), s))) D := h
    unfold FR.exE at h
    rw [show FR.frz g [] = g from rfl] at h
    unfold EvX
    cases q : evE (enOf tb k) e g s with
    | none =>
      rw [q] at h
      exact h.elim
    | some p =>
      obtain ⟨r, s1⟩ := p
      rw [q] at h
      cases r with
      | ok d =>
        intro v H' Sh' x r
        have h2 : EvS Z W H0 Sh (some (.ok (.nx ((if d.lf = true then g else g).set j (.dat d))), s1)) D := h
        rw [show (if d.lf = true then g else g) = g from by split <;> rfl] at h2
        exact h2 _ H' Sh' x.shs ((ok.ext x).set r j)
      | exn c' =>
        intro H' Sh' x
        have h2 : EvS Z W H0 Sh (trK tb.sub c (.exc i l) g (some (.exn c', s1))) D := h
        unfold trK at h2
        dsimp only at h2
        cases q2 : tb.sub c' c with
        | none =>
          rw [q2] at h2
          exact h2.elim
        | some bb =>
          rw [q2] at h2
          refine ⟨bb, b.gr.exm c c' bb q2, fun hb => ?_, fun hb => ?_⟩
          · subst hb
            refine ⟨rfl, fun a ha => ?_⟩
            have k1 := (ok.ext x).ext (Ext.alloc x.sub x.town ha (ExV (.ref (Z.cA c')) a))
            have k2 := ((k1.forget i (some (.ref a))).set (d := .exc c') (v := .ref a) (.exc c' upd_same) l).forget i none
            exact h2 _ _ _ (x.shs.trans (same_fresh (same_none x.sub ha))) k2
          · subst hb
            exact h2 σ H' Sh' (ok.ent.trans x)
mutual
theorem sndS : ∀ (c : CS) (X : Cx) (sc : Scope) (st : Stmt) (W : WX), Bd tb k Z N sc X W → mtS tb N c sc st = true → PS X st (tS Z W H0 (evS (enOf tb k) c))
  | .asg L i e, X, sc, st, W, b, h => by
    simp only [mtS] at h
    cases q : asAsg st with
    | none => rw [q] at h; cases h
    | some pq =>
      obtain ⟨t, v, p⟩ := pq
      rw [q] at h
      rw [asAsg_eq q]
      simp only [Bool.and_eq_true] at h
      cases hc : notComp v with
      | true => exact rAsg (asgT b h.1 hc (snd e X sc v W b.gr b.so b.tk b.hN h.2).1) fun D σ H h => h
      | false =>
        obtain ⟨ev, c1, c2, c3⟩ := compOk_of (H0 := H0) b h.2 hc
        obtain ⟨te, h1, h2⟩ := asgC (p := p) b h.1 c1
        refine rAsg h1 fun D σ H h => h2 σ H _ (tF_of c2 ?_)
        have e2 : evE (enOf tb k) e = ev := by
          funext g s
          exact c3 g s
        rw [← e2]
        exact h
  | .own L i e, X, sc, st, W, b, h => by
    simp only [mtS] at h
    cases q : asAsg st with
    | none => rw [q] at h; cases h
    | some pq =>
      obtain ⟨t, v, p⟩ := pq
      rw [q] at h
      rw [asAsg_eq q]
      simp only [Bool.and_eq_true] at h
      obtain ⟨⟨h0, h1⟩, h2⟩ := h
      cases hc : notComp v with
      | false =>
        obtain ⟨ev, c1, c2, c3⟩ := compOk_of (H0 := H0) b h2 hc
        obtain ⟨te, h3, h4⟩ := asgC (p := p) b h1 c1
        have e2 : evE (enOf tb k) e = ev := by
          funext g s
          exact c3 g s
        refine rOwn h3 (by rw [e2]; exact c2) fun D σ H h => h4 σ H _ ?_
        rw [← e2]
        exact h
      | true =>
        cases e with
        | lst es =>
          simp only [mtE] at h2
          cases q2 : asLst v with
          | none => rw [q2] at h2; cases h2
          | some xs =>
            rw [q2] at h2
            obtain ⟨pos, rfl⟩ := asLst_eq q2
            exact rOwn (asgT b h1 hc (fLst (sndL es X sc xs W b.gr b.so b.tk b.hN h2))) isL_lst fun D σ H h => h
        | comp tg it ifs elt =>
          exfalso
          simp only [mtE] at h2
          cases q2 : asComp v with
          | none => rw [q2] at h2; cases h2
          | some xs =>
            obtain ⟨a1, a2, a3, a4, a5⟩ := xs
            obtain ⟨pos, rfl⟩ := asComp_eq q2
            cases hc
        | compR tg lo hi ifs elt =>
          exfalso
          simp only [mtE] at h2
          cases q2 : asComp v with
          | none => rw [q2] at h2; cases h2
          | some xs =>
            obtain ⟨a1, a2, a3, a4, a5⟩ := xs
            obtain ⟨pos, rfl⟩ := asComp_eq q2
            cases hc
        | compK tg it ifs elt =>
          exfalso
          simp only [mtE] at h2
          cases q2 : asComp v with
          | none => rw [q2] at h2; cases h2
          | some xs =>
            obtain ⟨a1, a2, a3, a4, a5⟩ := xs
            obtain ⟨pos, rfl⟩ := asComp_eq q2
            cases hc
        | dct0 =>
          simp only [mtE] at h2
          split at h2
          · exact rOwnD (en := enOf tb k) (asgT b h1 hc fDct0) isDc_0 fun D σ H h => h
          · cases h2
        | «bif» f es =>
          cases f with
          | dict =>
            cases es with
            | nil => cases h0
            | cons a as =>
              cases as with
              | cons _ _ => cases h0
              | nil =>
                simp only [mtE] at h2
                cases q2 : asCall v with
                | none => rw [q2] at h2; cases h2
                | some pq =>
                  obtain ⟨x, y, ys⟩ := pq
                  rw [q2] at h2
                  obtain ⟨p1, p2, rfl⟩ := asCall_eq q2
                  simp only [Bool.and_eq_true, decide_eq_true_eq, mtEs] at h2
                  obtain ⟨⟨e0, h3⟩, ⟨h4, h5⟩, h6⟩ := h2
                  cases e0
                  cases ys with
                  | cons _ _ => cases h6
                  | nil => exact rOwnD (asgT b h1 hc (fDict b.gr (b.so.gl h3) h4 (snd a X sc y W b.gr b.so b.tk b.hN h5).1)) isDc_d fun D σ H ⟨g, s, Sh, ok, h⟩ => ⟨g, s, Sh, ok, by rw [dict_ev] at h; exact h⟩
          | sorted =>
            cases es with
            | nil => cases h0
            | cons a as =>
              cases as with
              | cons _ _ => cases h0
              | nil =>
                simp only [mtE] at h2
                cases q2 : asCall v with
                | none => rw [q2] at h2; cases h2
                | some pq =>
                  obtain ⟨x, y, ys⟩ := pq
                  rw [q2] at h2
                  obtain ⟨p1, p2, rfl⟩ := asCall_eq q2
                  simp only [Bool.and_eq_true, decide_eq_true_eq, mtEs] at h2
                  obtain ⟨⟨e0, h3⟩, ⟨h4, h5⟩, h6⟩ := h2
                  cases e0
                  cases ys with
                  | cons _ _ => cases h6
                  | nil => exact rOwn (asgT b h1 hc (fSorted b.gr (b.so.gl h3) h4 (snd a X sc y W b.gr b.so b.tk b.hN h5).1)) (isL_of1 sortedD_l fun g s => sorted_ev) fun D σ H ⟨g, s, Sh, ok, h⟩ => ⟨g, s, Sh, ok, by rw [sorted_ev] at h; exact h⟩
          | list =>
            cases es with
            | nil => cases h0
            | cons a as =>
              cases as with
              | cons _ _ => cases h0
              | nil =>
                simp only [mtE] at h2
                cases q2 : asCall v with
                | none => rw [q2] at h2; cases h2
                | some pq =>
                  obtain ⟨x, y, ys⟩ := pq
                  rw [q2] at h2
                  obtain ⟨p1, p2, rfl⟩ := asCall_eq q2
                  simp only [Bool.and_eq_true, decide_eq_true_eq, mtEs] at h2
                  obtain ⟨⟨e0, h3⟩, ⟨h4, h5⟩, h6⟩ := h2
                  cases e0
                  cases ys with
                  | cons _ _ => cases h6
                  | nil => exact rOwn (asgT b h1 hc (fList b.gr (b.so.gl h3) h4 (snd a X sc y W b.gr b.so b.tk b.hN h5).1)) (isL_of1 listD_l fun g s => list_ev) fun D σ H ⟨g, s, Sh, ok, h⟩ => ⟨g, s, Sh, ok, by rw [list_ev] at h; exact h⟩
          | _ => cases h0
        | _ => cases h0
  | .oif i t e, X, sc, st, W, b, h => by
    simp only [mtS] at h
    cases q : asAsg st with
    | none => rw [q] at h; cases h
    | some pq =>
      obtain ⟨x, v, p⟩ := pq
      rw [q] at h
      rw [asAsg_eq q]
      simp only [Bool.and_eq_true] at h
      obtain ⟨h0, h1⟩ := h
      cases q2 : asIf v with
      | none => rw [q2] at h1; cases h1
      | some pq =>
        obtain ⟨c, a, z⟩ := pq
        rw [q2] at h1
        obtain ⟨pos, rfl⟩ := asIf_eq q2
        cases e with
        | lst es =>
          simp only [Bool.and_eq_true, Bool.not_eq_true'] at h1
          obtain ⟨⟨⟨h2, h3⟩, h4⟩, h5⟩ := h1
          cases q3 : asName z with
          | none => rw [q3] at h5; cases h5
          | some y =>
            rw [q3] at h5
            obtain ⟨py, rfl⟩ := asName_eq q3
            simp only [mtE] at h4
            cases q4 : asLst a with
            | none => rw [q4] at h4; cases h4
            | some xs =>
              rw [q4] at h4
              obtain ⟨pl, rfl⟩ := asLst_eq q4
              exact rOif (c := c) (asgT b h0 rfl (pe_ifExp ((snd t X sc c W b.gr b.so b.tk b.hN h3).2 h2) (fLst (sndL es X sc xs W b.gr b.so b.tk b.hN h4)) (methE b h5))) isL_lst fun D σ H h => h
        | _ => cases h1
  | .tas L is e, X, sc, st, W, b, h => by
    simp only [mtS] at h
    cases q : asAsg st with
    | none => rw [q] at h; cases h
    | some pq =>
      obtain ⟨t, v, p⟩ := pq
      rw [q] at h
      dsimp only at h
      rw [asAsg_eq q]
      cases q1 : asTup t with
      | none => rw [q1] at h; cases h
      | some ts =>
        rw [q1] at h
        obtain ⟨kt, pt, rfl⟩ := asTup_eq q1
        simp only [Bool.and_eq_true] at h
        obtain ⟨⟨h1, h2⟩, h3⟩ := h
        have hw : swappedStores [.Tuple ts kt pt] v X.env = pure none := by
          cases q2 : asTup v with
          | none => exact swTup q2
          | some vs =>
            rw [q2] at h3
            obtain ⟨k2, p2, rfl⟩ := asTup_eq q2
            exact swStores b.fk (names_loc b.so h1) (of_decide_eq_true h3)
        exact rTas (ps_asg (snd e X sc v W b.gr b.so b.tk b.hN h2).1 (sTgt (tg := .tp is) b.gr.hk b.gr.calm b.gr.nd b.so b.hN h1) (show swapsWithSole [.Tuple ts kt pt] v p.line X.env = pure false from sw_tup (v := v) (es := ts) (k := kt) (p := pt) (l := p.line) (env := X.env)) hw rfl) fun D σ H h => h
  | .par L is es, X, sc, st, W, b, h => by
    simp only [mtS] at h
    cases q : asAsg st with
    | none => rw [q] at h; cases h
    | some pq =>
      obtain ⟨t, v, p⟩ := pq
      rw [q] at h
      dsimp only at h
      rw [asAsg_eq q]
      cases q1 : asTup t with
      | none => rw [q1] at h; cases h
      | some ts =>
        cases q2 : asTup v with
        | none => rw [q1, q2] at h; cases h
        | some vs =>
          rw [q1, q2] at h
          obtain ⟨kt, pt, rfl⟩ := asTup_eq q1
          obtain ⟨k2, p2, rfl⟩ := asTup_eq q2
          simp only [Bool.and_eq_true, decide_eq_true_eq, Bool.or_eq_true] at h
          obtain ⟨⟨⟨⟨⟨⟨h1, h2⟩, h3⟩, h4⟩, h5⟩, h6⟩, h7⟩ := h
          have hw := swStores (k := kt) (k2 := k2) (p := pt) (p2 := p2) b.fk (names_loc b.so h1) h4
          have hA := sndL es X sc vs W b.gr b.so b.tk b.hN h3 (H0 := H0)
          have hT := names_len h1
          rcases h6 with h6 | h6
          · obtain ⟨i, j, rfl⟩ : ∃ i j, is = [i, j] := by
              match is, h6 with
              | [i, j], _ => exact ⟨i, j, rfl⟩
            obtain ⟨e1, e2, rfl⟩ : ∃ e1 e2, ts = [e1, e2] := by
              match ts, hT with
              | [a, b], _ => exact ⟨a, b, rfl⟩
            obtain ⟨v1, v2, rfl⟩ : ∃ e1 e2, vs = [e1, e2] := by
              match vs, h5 with
              | [a, b], _ => exact ⟨a, b, rfl⟩
            simp only [namesAre, Bool.and_eq_true] at h1
            obtain ⟨x, px, rfl, n1, l1⟩ := nameIs_eq h1.1
            obtain ⟨y, py, rfl, n2, l2⟩ := nameIs_eq h1.2.1
            simp only [allLoc, List.all_cons, List.all_nil, Bool.and_true, Bool.and_eq_true, decide_eq_true_eq] at h2
            have hnm : swNames sc [.Name x px, .Name y py] = [x, y] := by
              have hs := h4
              unfold swSt at hs
              split at hs
              · cases hs
              · split at hs
                · cases hs
                · split at hs
                  · cases hs
                  · rename_i q3
                    simp only [Bool.or_eq_true, not_or, bne_iff_ne, ne_eq, Decidable.not_not] at q3
                    exact swNames2 q3.1
            rw [hnm] at hw
            have hij : i ≠ j := by
              intro z
              subst z
              simp at h7
            refine rPar (ps_par b.gr.calm b.gr.nd (by rw [b.hN]; exact n1) (by rw [b.hN]; exact n2) hij (b.so.loc x h2.1) (b.so.loc y h2.2) hA hw) fun D σ H h => ?_
            obtain ⟨g, s, Sh, ok, q⟩ := h
            refine ⟨g, s, Sh, ok, EvX.imp q fun us H1 hq => ?_⟩
            obtain ⟨hl, nx⟩ := hq
            match us, hl, nx with
            | [u, w], _, nx => exact ⟨u, w, rfl, nx⟩
          · obtain ⟨i, j, l, rfl⟩ : ∃ i j l, is = [i, j, l] := by
              match is, h6 with
              | [i, j, l], _ => exact ⟨i, j, l, rfl⟩
            obtain ⟨e1, e2, e3, rfl⟩ : ∃ e1 e2 e3, ts = [e1, e2, e3] := by
              match ts, hT with
              | [a, b, c], _ => exact ⟨a, b, c, rfl⟩
            obtain ⟨v1, v2, v3, rfl⟩ : ∃ e1 e2 e3, vs = [e1, e2, e3] := by
              match vs, h5 with
              | [a, b, c], _ => exact ⟨a, b, c, rfl⟩
            simp only [namesAre, Bool.and_eq_true] at h1
            obtain ⟨x, px, rfl, n1, l1⟩ := nameIs_eq h1.1
            obtain ⟨y, py, rfl, n2, l2⟩ := nameIs_eq h1.2.1
            obtain ⟨z, pz, rfl, n3, l3⟩ := nameIs_eq h1.2.2.1
            simp only [allLoc, List.all_cons, List.all_nil, Bool.and_true, Bool.and_eq_true, decide_eq_true_eq] at h2
            have hnm : swNames sc [.Name x px, .Name y py, .Name z pz] = [x, y, z] := by
              have hs := h4
              unfold swSt at hs
              split at hs
              · cases hs
              · split at hs
                · cases hs
                · split at hs
                  · cases hs
                  · rename_i q3
                    simp only [Bool.or_eq_true, not_or, bne_iff_ne, ne_eq, Decidable.not_not] at q3
                    exact swNames3 q3.1
            rw [hnm] at hw
            have hnd : i ≠ j ∧ i ≠ l ∧ j ≠ l := by
              simp only [List.nodup_cons, List.mem_cons, List.not_mem_nil, or_false, not_or] at h7
              exact ⟨h7.1.1, h7.1.2, h7.2.1⟩
            refine rPar (ps_par3 b.gr.calm b.gr.nd (by rw [b.hN]; exact n1) (by rw [b.hN]; exact n2) (by rw [b.hN]; exact n3) hnd.1 hnd.2.1 hnd.2.2 (b.so.loc x h2.1) (b.so.loc y h2.2.1) (b.so.loc z h2.2.2) hA hw) fun D σ H h => ?_
            obtain ⟨g, s, Sh, ok, q⟩ := h
            refine ⟨g, s, Sh, ok, EvX.imp q fun us H1 hq => ?_⟩
            obtain ⟨hl, nx⟩ := hq
            match us, hl, nx with
            | [u, w, r], _, nx => exact ⟨u, w, r, rfl, nx⟩
  | .app L i e, X, sc, st, W, b, h => by
    simp only [mtS] at h
    cases q : asExprS st with
    | none => rw [q] at h; cases h
    | some c =>
      rw [q] at h
      dsimp only at h
      obtain ⟨p, rfl⟩ := asExprS_eq q
      cases q1 : asMeth c with
      | none => rw [q1] at h; cases h
      | some pq =>
        obtain ⟨x, m, ys⟩ := pq
        rw [q1] at h
        obtain ⟨px, pa, pc, rfl, hl⟩ := asMeth_eq q1
        cases ys with
        | nil => cases h
        | cons y ys =>
          cases ys with
          | cons _ _ => cases h
          | nil =>
            simp only [Bool.and_eq_true, decide_eq_true_eq] at h
            obtain ⟨⟨⟨rfl, h1⟩, h2⟩, h3⟩ := h
            refine rMut (ps_expr (pe_bm PySem.F.plainAttrs_list PySem.F.slot_list_append PySem.F.type_list_append mt_append (methE b h1) (pa_cons (snd (H0 := H0) e X sc y W b.gr b.so b.tk b.hN h3).1 pa_nil (star1 h2 _)) rfl (few1 h2 _ _) hl (star1 h2 _) rfl) rfl) fun D σ H ⟨a, xs, e1, e2, g, s, Sh, ok, q⟩ => ?_
            refine ⟨_, e1, tyList e2, g, s, Sh, ok, ?_⟩
            refine EvX.imp q fun y H1 hq => ?_
            obtain ⟨d, Sh', ds, es, xs2, sub, r, hf, rl, hH, nx⟩ := hq
            unfold appF at hf
            split at hf
            · rename_i hn
              cases hf
              refine ⟨_, _, _, rfl, rfl, hH, ?_, nx _ (rl.snoc r)⟩
              rw [← rl.length]
              exact szLt hn
            · cases hf
  | .tap i, X, sc, st, W, b, h => by
    simp only [mtS] at h
    cases q : asExprS st with
    | none => rw [q] at h; cases h
    | some c =>
      rw [q] at h
      dsimp only at h
      obtain ⟨p, rfl⟩ := asExprS_eq q
      cases q1 : asMeth c with
      | none => rw [q1] at h; cases h
      | some pq =>
        obtain ⟨x, m, ys⟩ := pq
        rw [q1] at h
        obtain ⟨px, pa, pc, rfl, hl⟩ := asMeth_eq q1
        cases ys with
        | nil => cases h
        | cons y ys =>
          cases ys with
          | cons _ _ => cases h
          | nil =>
            simp only [Bool.and_eq_true, decide_eq_true_eq] at h
            obtain ⟨⟨rfl, h1⟩, h2⟩ := h
            obtain ⟨j, p5, rfl⟩ := asConst_eq h2
            refine rTap (ps_expr (pe_bm PySem.F.plainAttrs_list PySem.F.slot_list_append PySem.F.type_list_append mt_append (methE b h1) (pa_cons pe_int pa_nil) rfl (few1 rfl _ _) hl rfl rfl) rfl) fun D σ H ⟨a, xs, e1, e2, hn, nx⟩ => ?_
            exact ⟨_, e1, tyList e2, _, _, _, rfl, rfl, e2, hn, nx⟩
  | .ext L i e, X, sc, st, W, b, h => by
    simp only [mtS] at h
    cases q : asExprS st with
    | none => rw [q] at h; cases h
    | some c =>
      rw [q] at h
      dsimp only at h
      obtain ⟨p, rfl⟩ := asExprS_eq q
      cases q1 : asMeth c with
      | none => rw [q1] at h; cases h
      | some pq =>
        obtain ⟨x, m, ys⟩ := pq
        rw [q1] at h
        obtain ⟨px, pa, pc, rfl, hl⟩ := asMeth_eq q1
        cases ys with
        | nil => cases h
        | cons y ys =>
          cases ys with
          | cons _ _ => cases h
          | nil =>
            simp only [Bool.and_eq_true, decide_eq_true_eq] at h
            obtain ⟨⟨⟨rfl, h1⟩, h2⟩, h3⟩ := h
            refine rMut (ps_expr (pe_bm PySem.F.plainAttrs_list PySem.F.slot_list_extend PySem.F.type_list_extend mt_extend (methE b h1) (pa_cons (snd (H0 := H0) e X sc y W b.gr b.so b.tk b.hN h3).1 pa_nil (star1 h2 _)) rfl (few1 h2 _ _) hl (star1 h2 _) rfl) rfl) fun D σ H ⟨a, xs, e1, e2, g, s, Sh, ok, q⟩ => ?_
            refine ⟨_, e1, tyList e2, g, s, Sh, ok, ?_⟩
            refine EvX.imp q fun y H1 hq => ?_
            obtain ⟨d, Sh', ds, es, xs2, sub, r, hf, rl, hH, nx⟩ := hq
            unfold extF at hf
            split at hf
            · split at hf
              · rename_i hn
                cases hf
                cases r with
                | lst x1 y1 =>
                  refine ⟨_, _, _, _, rfl, rfl, hH, sub _ _ x1, ?_, nx _ (rl.app y1)⟩
                  rw [← rl.length, ← y1.length]
                  exact Nat.le_of_lt (szLt hn)
              · cases hf
            · cases hf
  | .pop i, X, sc, st, W, b, h => by
    simp only [mtS] at h
    cases q : asExprS st with
    | none => rw [q] at h; cases h
    | some c =>
      rw [q] at h
      dsimp only at h
      obtain ⟨p, rfl⟩ := asExprS_eq q
      cases q1 : asMeth c with
      | none => rw [q1] at h; cases h
      | some pq =>
        obtain ⟨x, m, ys⟩ := pq
        rw [q1] at h
        obtain ⟨px, pa, pc, rfl, hl⟩ := asMeth_eq q1
        cases ys with
        | cons _ _ => cases h
        | nil =>
          simp only [Bool.and_eq_true, decide_eq_true_eq] at h
          obtain ⟨rfl, h1⟩ := h
          refine rMut0 (ps_expr (pe_bm0 PySem.F.plainAttrs_list PySem.F.slot_list_pop PySem.F.type_list_pop mt_pop (methE b h1) rfl hl) rfl) fun D σ H ⟨a, xs, ds, es, Sh, e1, e2, hf, r, nx⟩ => ?_
          cases r with
          | nil => cases hf
          | cons r1 r2 =>
            cases hf
            refine ⟨_, e1, tyList e2, _, _, _, rfl, rfl, e2, List.getElem?_eq_getElem (by simp), ?_⟩
            exact nx _ ((RepL.cons r1 r2).init)
  | .pop0 i is, X, sc, st, W, b, h => by
    simp only [mtS] at h
    cases q : asAsg st with
    | none => rw [q] at h; cases h
    | some pq =>
      obtain ⟨t, v, p⟩ := pq
      rw [q] at h
      rw [asAsg_eq q]
      dsimp only at h
      cases q1 : asTup t with
      | none => rw [q1] at h; cases h
      | some ts =>
        cases q2 : asMeth v with
        | none => rw [q1, q2] at h; cases h
        | some pq =>
          obtain ⟨x, m, ys⟩ := pq
          rw [q1, q2] at h
          cases ys with
          | nil => cases h
          | cons y ys =>
            cases ys with
            | cons _ _ => cases h
            | nil =>
              simp only [Bool.and_eq_true, decide_eq_true_eq] at h
              obtain ⟨⟨⟨h1, rfl⟩, h2⟩, h3⟩ := h
              obtain ⟨j, p5, rfl⟩ := asConst_eq h3
              obtain ⟨px, pa, pc, rfl, hl⟩ := asMeth_eq q2
              obtain ⟨kt, pt, rfl⟩ := asTup_eq q1
              have hg : mtG N sc (.tp is) (.Tuple ts kt pt) = true := h1
              refine rPop0 (ps_asg (pe_bm PySem.F.plainAttrs_list PySem.F.slot_list_pop PySem.F.type_list_pop mt_popAt (methE b h2) (pa_cons pe_int pa_nil) rfl (few1 rfl _ _) hl rfl rfl) (sTgt b.gr.hk b.gr.calm b.gr.nd b.so b.hN hg) rfl (swTup rfl)) fun D σ H ⟨a, x, xs, e1, e2, hq⟩ => ?_
              exact ⟨_, e1, tyList e2, a, x :: xs, 0, 0, x, rfl, rfl, e2, by decide, by decide, by simp [seqIndex?], rfl, hq⟩
  | .sti L i e v, X, sc, st, W, b, h => by
    simp only [mtS] at h
    cases q : asAsg st with
    | none => rw [q] at h; cases h
    | some pq =>
      obtain ⟨t, u, p⟩ := pq
      rw [q] at h
      rw [asAsg_eq q]
      dsimp only at h
      cases q1 : asIdx t with
      | none => rw [q1] at h; cases h
      | some pq =>
        obtain ⟨a, z⟩ := pq
        rw [q1] at h
        obtain ⟨pos, rfl⟩ := asIdx_eq q1
        simp only [Bool.and_eq_true] at h
        obtain ⟨⟨⟨h0, h1⟩, h2⟩, h3⟩ := h
        cases q2 : asName a with
        | none => rw [q2] at h1; cases h1
        | some y =>
          rw [q2] at h1
          obtain ⟨p2, rfl⟩ := asName_eq q2
          refine rSti (ps_asg (snd (H0 := H0) v X sc u W b.gr b.so b.tk b.hN h3).1 (pg_sub (methE b h1) (snd (H0 := H0) e X sc z W b.gr b.so b.tk b.hN h2).1 (PSet.or set_list (set_dict (by have := b.gr.hu; omega))) (asg_sub h0)) sw_sub rfl rfl) fun D σ H ⟨a, e1, hq⟩ => ?_
          obtain ⟨g, s, Sh, ok, q3⟩ := hq
          exact ⟨g, s, Sh, ok, EvX.imp q3 fun x H1 hq => ⟨_, e1, hq⟩⟩
  | .popk L i e, X, sc, st, W, b, h => by
    simp only [mtS] at h
    cases q : asExprS st with
    | none => rw [q] at h; cases h
    | some c =>
      rw [q] at h
      dsimp only at h
      obtain ⟨p, rfl⟩ := asExprS_eq q
      cases q1 : asMeth c with
      | none => rw [q1] at h; cases h
      | some pq =>
        obtain ⟨x, m, ys⟩ := pq
        rw [q1] at h
        obtain ⟨px, pa, pc, rfl, hl⟩ := asMeth_eq q1
        cases ys with
        | nil => cases h
        | cons y ys =>
          cases ys with
          | cons _ _ => cases h
          | nil =>
            simp only [Bool.and_eq_true, decide_eq_true_eq] at h
            obtain ⟨⟨⟨rfl, h1⟩, h2⟩, h3⟩ := h
            refine rPopk (ps_expr (pe_dpop1 (methE b h1) (snd (H0 := H0) e X sc y W b.gr b.so b.tk b.hN h3).1 ⟨rfl, few1 h2 _ _, hl, by rw [star1 h2]; rfl⟩) rfl) fun D σ H ⟨a, e1, e2, hq⟩ => ?_
            exact ⟨_, e1, a, rfl, e2, hq⟩
  | .swp i ja jb, X, sc, st, W, b, h => by
    simp only [mtS] at h
    cases q : asSwap st with
    | none => rw [q] at h; cases h
    | some pq =>
      obtain ⟨x, y, z⟩ := pq
      rw [q] at h
      simp only [Bool.and_eq_true] at h
      obtain ⟨⟨h0, h1⟩, h2⟩ := h
      obtain ⟨p1, p2, p3, p4, p5, p6, k1, p7, p8, p9, p10, p11, p12, p13, k2, p14, p15, rfl⟩ := asSwap_eq q
      refine rSwp (ps_asg (pe_tup (pa_cons (pe_ix ix_list (methE b h0) (methE b h2) (fun _ _ => rfl)) (pa_cons (pe_ix ix_list (methE b h0) (methE b h1) (fun _ _ => rfl)) pa_nil))) (pg_tup b.gr.calm (pgs_cons (pg_sub (methE b h0) (methE b h1) set_list) (pgs_cons (pg_sub (methE b h0) (methE b h2) set_list) pgs_nil))) rfl sw_subs) fun D σ H ⟨a, p, q, xs, m, n, u, w, e1, ea, eb, q4, hm, hn, hu, hw, nx⟩ => ?_
      have at_ : ∀ {j : Int} {l : Nat} {v : V}, ixN xs.length j = some l → xs[l]? = some v → L2.atI xs j = some v := fun {j l v} h1 h2 => by
        unfold L2.atI
        rw [h1]
        exact h2
      refine ⟨_, e1, _, eb, a, xs, q, u, rfl, rfl, SqL.of q4, at_ hn hu, _, e1, _, ea, a, xs, p, w, rfl, rfl, SqL.of q4, at_ hm hw, by show (2 : Nat) ≤ sizeLine; decide, fun T hT => ⟨T, _, rfl, SqT.of upd_same, rfl, ?_⟩⟩
      have q5 : L2.upd H T (.tup [u, w]) a = some (.lst xs) := by
        rw [upd_ne (ne_of_none q4 hT)]
        exact q4
      refine ⟨u, [w], rfl, _, e1, _, ea, a, xs, p, m, rfl, rfl, q5, hm, w, [], rfl, _, e1, _, eb, a, xs.set m u, q, n, rfl, rfl, upd_same, by rw [List.length_set]; exact hn, ?_⟩
      rw [upd_upd2]
      exact ⟨rfl, nx T hT⟩
  | .lkd _, X, sc, st, W, b, h => by simp [mtS] at h
  | .forK L tg it bd, X, sc, st, W, b, h => by
    simp only [mtS] at h
    cases q : asFor st with
    | none => rw [q] at h; cases h
    | some pq =>
      obtain ⟨t, i, x⟩ := pq
      rw [q] at h
      dsimp only at h
      obtain ⟨p, rfl⟩ := asFor_eq q
      simp only [Bool.and_eq_true] at h
      obtain ⟨⟨h0, h1⟩, h2⟩ := h
      cases q2 : asKeys i with
      | none => rw [q2] at h1; cases h1
      | some o =>
        rw [q2] at h1
        obtain ⟨pa, pc, rfl, hl, hb⟩ := asKeys_eq q2
        exact rForK b.po b.gr.calm (sKeys (snd it X sc o W b.gr b.so b.tk b.hN h1).1 (plain_base hb) hl) (sTgt b.gr.hk b.gr.calm b.gr.nd b.so b.hN h0) (sndSs bd X sc x W b h2) (fold0 rfl _)
  | .ex L e, X, sc, st, W, b, h => by
    simp only [mtS] at h
    cases q : asExprS st with
    | none => rw [q] at h; cases h
    | some c =>
      rw [q] at h
      obtain ⟨p, rfl⟩ := asExprS_eq q
      simp only [Bool.and_eq_true] at h
      obtain ⟨pq, q1⟩ := Option.isSome_iff_exists.mp h.1
      obtain ⟨x, y, ys⟩ := pq
      obtain ⟨p1, p2, rfl⟩ := asCall_eq q1
      exact rEx (ps_expr (snd e X sc _ W b.gr b.so b.tk b.hN h.2).1 rfl) fun D σ H h => h
  | .ifs L t a c, X, sc, st, W, b, h => by
    simp only [mtS] at h
    cases q : asIfS st with
    | none => rw [q] at h; cases h
    | some pq =>
      obtain ⟨e, x, y⟩ := pq
      rw [q] at h
      obtain ⟨p, rfl⟩ := asIfS_eq q
      simp only [Bool.and_eq_true, Bool.not_eq_true'] at h
      obtain ⟨⟨⟨h0, h1⟩, h2⟩, h3⟩ := h
      exact rIf ((snd t X sc e W b.gr b.so b.tk b.hN h1).2 h0) (sndSs a X sc x W b h2) (sndSs c X sc y W b h3)
  | .for_ L tg it bd, X, sc, st, W, b, h => by
    simp only [mtS] at h
    cases q : asFor st with
    | none => rw [q] at h; cases h
    | some pq =>
      obtain ⟨t, i, x⟩ := pq
      rw [q] at h
      obtain ⟨p, rfl⟩ := asFor_eq q
      simp only [Bool.and_eq_true] at h
      obtain ⟨⟨⟨h0, h1⟩, h2⟩, h3⟩ := h
      exact rFor b.po b.gr.calm (sIter b.gr.hk (snd it X sc i W b.gr b.so b.tk b.hN h2).1) (sTgt b.gr.hk b.gr.calm b.gr.nd b.so b.hN h0) (sndSs bd X sc x W b h3) (fold0 h1 _)
  | .forR L tg lo hi bd, X, sc, st, W, b, h => by
    simp only [mtS] at h
    cases q : asFor st with
    | none => rw [q] at h; cases h
    | some pq =>
      obtain ⟨t, i, x⟩ := pq
      rw [q] at h
      dsimp only at h
      obtain ⟨p, rfl⟩ := asFor_eq q
      simp only [Bool.and_eq_true] at h
      obtain ⟨⟨h0, h1⟩, h2⟩ := h
      cases q2 : asCall i with
      | none => rw [q2] at h2; cases h2
      | some pq =>
        obtain ⟨r, y, ys⟩ := pq
        rw [q2] at h2
        obtain ⟨p1, p2, rfl⟩ := asCall_eq q2
        simp only [Bool.and_eq_true, decide_eq_true_eq] at h2
        obtain ⟨⟨⟨rfl, h3⟩, h4⟩, h5⟩ := h2
        have hi : PI X t (.Call (.Name "range" p1) (y :: ys) [] p2) (tI Z W H0 (evRng (evE (enOf tb k) lo) (evE (enOf tb k) hi))) := by
          split at h5
          · simp only [Bool.and_eq_true] at h5
            cases isZero_eq h5.1
            exact sRng1 (b.so.gl h3) (b.gr.blt _ (by decide)) h4 (snd hi X sc y W b.gr b.so b.tk b.hN h5.2).1
          · rename_i z
            simp only [Bool.and_eq_true] at h5
            exact sRng2 (b.so.gl h3) (b.gr.blt _ (by decide)) h4 h5.1.1 (snd lo X sc y W b.gr b.so b.tk b.hN h5.1.2).1 (snd hi X sc z W b.gr b.so b.tk b.hN h5.2).1
          · cases h5
        exact rForR b.po b.gr.calm hi (sTgt b.gr.hk b.gr.calm b.gr.nd b.so b.hN h0) (sndSs bd X sc x W b h1) (fold0 rfl _)
  | .whl L t bd, X, sc, st, W, b, h => by
    simp only [mtS] at h
    cases q : asWhile st with
    | none => rw [q] at h; cases h
    | some pq =>
      obtain ⟨e, x⟩ := pq
      rw [q] at h
      obtain ⟨p, rfl⟩ := asWhile_eq q
      simp only [Bool.and_eq_true, Bool.not_eq_true'] at h
      obtain ⟨⟨h0, h1⟩, h2⟩ := h
      exact rWhile b.po ((snd t X sc e W b.gr b.so b.tk b.hN h1).2 h0) (sndSs bd X sc x W b h2)
  | .ret L e, X, sc, st, W, b, h => by
    simp only [mtS] at h
    cases q : asRet st with
    | none => rw [q] at h; cases h
    | some v =>
      rw [q] at h
      obtain ⟨p, rfl⟩ := asRet_eq q
      exact rRet (ps_ret (snd e X sc v W b.gr b.so b.tk b.hN h).1) fun D σ H h => h
  | .rtn, X, sc, st, W, b, h => by
    simp only [mtS] at h
    obtain ⟨p, rfl⟩ := isRetN_eq h
    exact psW ps_retN fun D σ H ⟨g, s, Sh, ok, h⟩ => h .non H Sh ok.ent .non
  | .rse c, X, sc, st, W, b, h => by
    simp only [mtS] at h
    cases q : asRaise st with
    | none => rw [q] at h; cases h
    | some x =>
      rw [q] at h
      obtain ⟨p, m, j, p2, p3, p4, rfl⟩ := asRaise_eq q
      simp only [Bool.and_eq_true, decide_eq_true_eq] at h
      obtain ⟨⟨h0, h1⟩, h2⟩ := h
      obtain ⟨e1, e2, e3, e4, e5⟩ := b.gr.exc c x h0
      exact psW (ps_raise b.gr.calm b.tk (pmk_own PySem.F.excBase_ValueError e2 e1 e3 (raises_own e4 e5) (b.so.gl h1) (okN_of h2).1)) fun D σ H ⟨g, s, Sh, ok, h⟩ => h σ H Sh ok.ent
  | .tr L j e c hd, X, sc, st, W, b, h => by
    simp only [mtS] at h
    cases q : asTry st with
    | none => rw [q] at h; cases h
    | some pq =>
      obtain ⟨t, v, x, n, y, m⟩ := pq
      rw [q] at h
      cases hd with
      | cst _ _ => cases h
      | exc i l =>
        simp only [Bool.and_eq_true, decide_eq_true_eq] at h
        obtain ⟨⟨⟨⟨⟨⟨⟨⟨⟨⟨⟨⟨h0, h1⟩, h2⟩, h3⟩, h4⟩, h5⟩, h6⟩, h7⟩, h8⟩, h9⟩, h10⟩, h11⟩, rfl⟩ := h
        have hL : L = [] := by
          cases L with
          | nil => rfl
          | cons _ _ => cases h0
        subst hL
        obtain ⟨p1, p2, p3, p4, p5, p6, p7, rfl⟩ := asTry_eq q
        refine rTry b (ps_try_val b.hs b.hf b.ex b.gr.nd (by rw [b.hN]; exact h7) (b.so.loc _ h8) (by rw [b.hN]; exact h10) (b.so.loc _ h11) (okN_of h9).1 (okN_of h9).2.1 ⟨b.so.gl h5, (okN_of h6).1, .inl (b.gr.exc c x h4).1⟩ b.tk (tb := fun V => tAsg (tV Z V H0 (evE (enOf tb k) e)) (gName j)) fun V pl xe tk po => ?_)
        have b' := b.try_ tk po
        exact pss_one (asgT b' h2 h1 (snd e _ sc v V b'.gr b'.so b'.tk b'.hN h3).1)
  | .pas, X, sc, st, W, b, h => by
    simp only [mtS] at h
    obtain ⟨p, rfl⟩ := isPass_eq h
    exact psW ps_pass fun D σ H ⟨g, s, Sh, ok, h⟩ => h σ H Sh (Same.refl _) ok
  | .cnt, X, sc, st, W, b, h => by
    simp only [mtS] at h
    obtain ⟨p, rfl⟩ := isCont_eq h
    exact psW ps_continue fun D σ H ⟨g, s, Sh, ok, h⟩ => h σ H Sh (Same.refl _) ok
  | .brk, X, sc, st, W, b, h => by
    simp only [mtS] at h
    obtain ⟨p, rfl⟩ := isBrk_eq h
    exact psW ps_break fun D σ H ⟨g, s, Sh, ok, h⟩ => h σ H Sh (Same.refl _) ok
theorem sndSs : ∀ (c : CSs) (X : Cx) (sc : Scope) (st : List Stmt) (W : WX), Bd tb k Z N sc X W → mtSs tb N c sc st = true → PSs X st (tS Z W H0 (evSs (enOf tb k) c))
  | .nil, X, sc, st, W, b, h => by
    cases st with
    | nil => exact rNil
    | cons _ _ => simp [mtSs] at h
  | .cons c cs, X, sc, st, W, b, h => by
    by_cases hk : ∃ i, c = .lkd i
    · obtain ⟨i, rfl⟩ := hk
      simp only [mtSs] at h
      exact rLkd (i := i) (sndSs cs X sc st W b h)
    · cases st with
      | nil =>
        exfalso
        cases c <;> first | exact hk ⟨_, rfl⟩ | (simp only [mtSs] at h; cases h)
      | cons s r =>
        have h' : (mtS tb N c sc s && mtSs tb N cs sc r) = true := by
          cases c <;> first | exact absurd ⟨_, rfl⟩ hk | (simp only [mtSs] at h; exact h)
        rw [Bool.and_eq_true] at h'
        exact rCons (sndS c X sc s W b h'.1) (sndSs cs X sc r W b h'.2)
end
end
end FR
/-! FrSnd13: defs, the law. -/
namespace FR
open PySem PySem.Spec PyProof.Rows L2
section
variable {tb : Tb} {P : Program} {w : World} {K : PySem.W.Frag} {mg : Str → Option Value} {base : Heap} {cA fA : Nat → Addr}
/-- what the top has left: for each def of the table its object, its text matched; the names -/
structure Top (tb : Tb) (K : PySem.W.Frag) (mg : Str → Option Value) (cA fA : Nat → Addr) : Prop where
  fn : ∀ f fd, tb.fs f = some fd → mg fd.name = some (.ref (fA f)) ∧ ∃ (st : Stmt) (fdt : FuncData), FunD K fd.name fd.name (defArgs st) (defBody st) (defScope st) [] [] (fA f) fdt ∧ FnScope fd.N fd.ps (defScope st) ∧ Binds K fdt fd.ps [] ∧ mtSs tb fd.N fd.body (defScope st) (defBody st) = true
  blt : ∀ x ∈ bltNames, mg x = none
  glo : ∀ i x, tb.gn i = some x → ∃ u v, mg x = some u ∧ RelV v u ∧ ∀ T Sh, Rep ⟨K, T, cA, fA⟩ Sh (tb.gl i) v
  exm : ∀ c c' b, tb.sub c' c = some b → PySem.W.exmOne K (.ref (cA c')) (.ref (cA c)) = some b
  exi : ∀ c c' b, tb.sub c' c = some b → ExcC K (cA c') ∧ PySem.W.kitOne K (.ref (cA c')) (.ref (cA c)) = some b ∧ PySem.W.kitOne K (.ref (cA c')) (.type "ValueError") = some true
  exc : ∀ c x, tb.cn c = some x → mg x = some (.ref (cA c)) ∧ PySem.W.excIn K (cA c) He.veBase "ValueError.__new__" = true ∧ PySem.W.keepIn K (.ref (cA c)) = true ∧ PySem.W.subIn K (.ref (cA c)) (.type "BaseException") = some true ∧ PySem.W.typeIn K (.ref (cA c)) = some (.type "type")
theorem scOk_def {CX : CXT} {N : List Str} {qual : Str} {scope : Scope} {f : Addr} {cd : Value} {A : Around} {outer : List Env} {s : Shared} {H : Hp} {E : XK} : ScOk scope (cxOf CX P w K mg base N qual scope f cd A outer s H E) :=
  ⟨fun _ e => e, fun _ e => ⟨e, rfl⟩, fun _ e => .inl e, fun _ e => e⟩
theorem start_get {N : List Str} {vs : List V} {i : Nat} {o : Option V} (hl : vs.length ≤ N.length) (h : (L2.start N vs)[i]? = some o) : (∃ v, vs[i]? = some v ∧ o = some v) ∨ (vs.length ≤ i ∧ o = none) := by
  unfold L2.start at h
  by_cases hi : i < vs.length
  · rw [List.getElem?_append_left (by rw [List.length_map]; exact hi), List.getElem?_map] at h
    obtain ⟨v, e1, e2⟩ := Option.map_eq_some_iff.mp h
    exact .inl ⟨v, e1, e2.symm⟩
  · rw [List.getElem?_append_right (by rw [List.length_map]; omega), List.length_map] at h
    obtain ⟨_, h2⟩ := List.getElem?_eq_some_iff.mp h
    rw [List.getElem_replicate] at h2
    exact .inr ⟨by omega, h2.symm⟩
theorem startG_get {n : Nat} {ds : List D} {i : Nat} {x : Sl} (h : (startG n ds)[i]? = some x) : (∃ d, ds[i]? = some d ∧ x = .dat d) ∨ x = .un := by
  unfold startG at h
  by_cases hi : i < ds.length
  · rw [List.getElem?_append_left (by rw [List.length_map]; exact hi), List.getElem?_map] at h
    obtain ⟨v, e1, e2⟩ := Option.map_eq_some_iff.mp h
    exact .inl ⟨v, e1, e2.symm⟩
  · rw [List.getElem?_append_right (by rw [List.length_map]; omega), List.length_map] at h
    obtain ⟨_, h2⟩ := List.getElem?_eq_some_iff.mp h
    rw [List.getElem_replicate] at h2
    exact .inr h2.symm
/-- the slots at a def's entry -/
theorem ok_start {Z : Gd} {N : List Str} {vs : List V} {ds : List D} {H Sh : Hp} {s : S} (sub : Same Sh H) (t : TownOk Z H Sh s) (r : RepL Z Sh ds vs) (hl : vs.length ≤ N.length) : Ok Z ⟨H, Sh⟩ (L2.start N vs) (startG N.length ds) H Sh s where
  ent := Ext.refl sub t
  len := by
    unfold L2.start startG
    rw [List.length_append, List.length_append, List.length_map, List.length_map, List.length_replicate, List.length_replicate, r.length]
  slot := fun i x o e1 e2 => by
    rcases startG_get e1 with ⟨d, h1, rfl⟩ | rfl
    · obtain ⟨v, h2, r2⟩ := r.get h1
      rcases start_get hl e2 with ⟨v', h3, rfl⟩ | ⟨h3, _⟩
      · rw [h2] at h3
        cases h3
        exact ⟨v, rfl, r2⟩
      · have := (List.getElem?_eq_some_iff.mp h2).1
        omega
    · trivial
  dist := fun i j x y o e1 e2 h1 => by
    rcases startG_get e1 with ⟨d, _, rfl⟩ | rfl
    · cases h1
    · cases h1
theorem nLen {N ps : List Str} {sc : Scope} (S : FnScope N ps sc) : ps.length ≤ N.length := by
  have h := congrArg List.length S.pre
  rw [List.length_take] at h
  omega
/-- the end of a body, as the def's caller wants it -/
theorem evS_run {Z : Gd} {E : XK} {H Sh : Hp} {o : EV Fl} {Q : VK} (h : EvX Z (fun c d _ H' => E c d H') (Rep Z) (runB o) [] H Sh Q) : EvS Z (fun cls d _ H' => E cls d H') ⟨H, Sh⟩ Sh o { nx := fun _ H' => Q .non H', rt := Q } := by
  unfold EvS
  cases o with
  | none => exact h.elim
  | some p =>
    obtain ⟨r, s⟩ := p
    cases r with
    | exn c => exact fun _ H' Sh' e => h H' Sh' e
    | ok fl =>
      cases fl with
      | nx g => exact fun σ H' Sh' _ k => h .non H' Sh' k.ent .non
      | rt d => exact fun v H' Sh' e r => h v H' Sh' e r
      | ct g => exact h.elim
      | bk g => exact h.elim
/-! ### defs that hand their own list out -/
def EvSF (Z : Gd) (W : WX) (H0 : Ent) (i : Nat) (o : EV Fl) (D : Ends) : Prop := match o with
  | some (.ok (.nx g), s) => (match g[i]? with
      | some (.own ds) => ∀ (a : Addr) (vs : List V) (H' Sh' : Hp), Ext Z H0.H H0.Sh H' Sh' s → H0.H a = none → H' a = some (.lst vs) → Sh' a = none → RepL Z Sh' ds vs → D.rt (.ref a) H'
      | _ => False)
  | some (.exn c, s) => ∀ (σ : L2.St) (H' Sh' : Hp), Ext Z H0.H H0.Sh H' Sh' s → W (.ref (Z.cA c)) none σ H'
  | _ => False
def tSF (Z : Gd) (W : WX) (H0 : Ent) (i : Nat) (f : G → S → EV Fl) : TS := fun D σ H => ∃ (g : G) (s : S) (Sh : Hp), Ok Z H0 σ g H Sh s ∧ EvSF Z W H0 i (f g s) D
theorem rRetF {Z : Gd} {W : WX} {H0 : Ent} {X : Cx} {i : Nat} {e : Expr} {p : Pos} (h : PE X e (tVar i)) : PSs X [.Return (some e) p] (tSF Z W H0 i fun g s => some (.ok (.nx g), s)) :=
  pssW (pss_one (ps_ret h)) fun D σ H ⟨g, s, Sh, ok, h⟩ => by
    change (match g[i]? with
      | some (.own ds) => ∀ (a : Addr) (vs : List V) (H' Sh' : Hp), Ext Z H0.H H0.Sh H' Sh' s → H0.H a = none → H' a = some (.lst vs) → Sh' a = none → RepL Z Sh' ds vs → D.rt (.ref a) H'
      | _ => False) at h
    split at h
    · rename_i ds q
      obtain ⟨a, vs, e1, h1, h2, h3, h4, r⟩ := ok.own q
      exact ⟨_, e1, h a vs H Sh ok.ent h3 h4 h1 r⟩
    · exact h.elim
theorem rConsF {Z : Gd} {W : WX} {H0 : Ent} {X : Cx} {i : Nat} {st : Stmt} {sts : List Stmt} {ev f : G → S → EV Fl} (h1 : PS X st (tS Z W H0 ev)) (h2 : PSs X sts (tSF Z W H0 i f)) :
    PSs X (st :: sts) (tSF Z W H0 i fun g s => rb (ev g s) fun fl s => match fl with | .nx g => f g s | fl => some (.ok fl, s)) :=
  pssW (pss_cons h1 h2) fun D σ H ⟨g, s, Sh, ok, h⟩ => by
    refine ⟨g, s, Sh, ok, ?_⟩
    dsimp only at h
    unfold EvS
    cases q : ev g s with
    | none =>
      rw [q] at h
      exact h
    | some p =>
      obtain ⟨r, s1⟩ := p
      rw [q] at h
      cases r with
      | exn c => exact h
      | ok fl =>
        rw [rb_ok] at h
        cases fl with
        | nx g2 => exact fun σ' H' Sh' _ k => ⟨g2, s1, Sh', k, h⟩
        | rt d => exact h.elim
        | ct g2 => exact h.elim
        | bk g2 => exact h.elim
theorem rLkdF {Z : Gd} {W : WX} {H0 : Ent} {X : Cx} {i j : Nat} {sts : List Stmt} {f : G → S → EV Fl} (h : PSs X sts (tSF Z W H0 j f)) : PSs X sts (tSF Z W H0 j fun g s => f (match g[i]? with | some (.ownD ks) => g.set i (.dat (.dct ks)) | _ => g) s) :=
  pssW (pss_lkA h) fun D σ H ⟨g, s, Sh, ok, h⟩ => by
    dsimp only at h
    split at h
    · rename_i ks q
      obtain ⟨o, e1, a, vs, rfl, h1, h2, h3, h4, r⟩ := ok.get q
      refine .inr ⟨a, _, h4, trivial, fun od => ?_⟩
      obtain ⟨k2, _⟩ := ok.lockD od q e1 h1 h2 h3 h4 r
      exact ⟨_, s, _, k2, h⟩
    · exact .inl ⟨g, s, Sh, ok, h⟩
theorem sndF {k : Nat} {Z : Gd} {H0 : Ent} {N : List Str} {X : Cx} {sc : Scope} {W : WX} (b : Bd tb k Z N sc X W) : ∀ (c : CSs) (p : CSs × Nat) (st : List Stmt), unret c = some p → mtSs tb N c sc st = true → PSs X st (tSF Z W H0 p.2 (evSs (enOf tb k) p.1))
  | .nil, p, st, h, _ => by cases h
  | .cons c cs, p, st, h, m => by
    by_cases last : ∃ i, c = .ret [i] (.var i) ∧ cs = .nil
    · obtain ⟨i, rfl, rfl⟩ := last
      have h5 : unret (.cons (.ret [i] (.var i)) .nil) = some (.nil, i) := by
        rw [unret.eq_def]
        exact if_pos rfl
      rw [h5] at h
      cases h
      cases st with
      | nil => simp [mtSs] at m
      | cons s r =>
        simp only [mtSs, Bool.and_eq_true] at m
        obtain ⟨m1, m2⟩ := m
        cases r with
        | cons _ _ => cases m2
        | nil =>
          simp only [mtS] at m1
          cases q : asRet s with
          | none => rw [q] at m1; cases m1
          | some v =>
            rw [q] at m1
            obtain ⟨pp, rfl⟩ := asRet_eq q
            simp only [mtE] at m1
            cases q2 : asName v with
            | none => rw [q2] at m1; cases m1
            | some x =>
              rw [q2] at m1
              obtain ⟨px, rfl⟩ := asName_eq q2
              simp only [Bool.and_eq_true, decide_eq_true_eq] at m1
              exact rRetF (pv_of b.so (by rw [b.hN]; exact m1.1.1) m1.1.2 m1.2)
    · have h2 : (unret cs).map (fun p => (CSs.cons c p.1, p.2)) = some p := by
        rw [unret.eq_def] at h
        dsimp only at h
        split at h
        · rename_i i j
          split at h
          · rename_i e
            subst e
            exact absurd ⟨_, rfl, rfl⟩ last
          · cases h
        · exact h
      obtain ⟨q, h3, rfl⟩ := Option.map_eq_some_iff.mp h2
      by_cases hk : ∃ i, c = .lkd i
      · obtain ⟨i, rfl⟩ := hk
        simp only [mtSs] at m
        exact rLkdF (i := i) (sndF b cs q st h3 m)
      · cases st with
        | nil =>
          exfalso
          cases c <;> first | exact hk ⟨_, rfl⟩ | (simp only [mtSs] at m; cases m)
        | cons s r =>
          have m' : (mtS tb N c sc s && mtSs tb N cs sc r) = true := by
            cases c <;> first | exact absurd ⟨_, rfl⟩ hk | (simp only [mtSs] at m; exact m)
          rw [Bool.and_eq_true] at m'
          exact rConsF (sndS c X sc s W b m'.1) (sndF b cs q r h3 m'.2)
theorem evF_run {Z : Gd} {E : XK} {H Sh : Hp} {i : Nat} {o : EV Fl} {Q : VK} {f : L2.St → Hp → Prop} (h : EvF Z (fun c d _ H' => E c d H') (runF i o) [] H Sh Q) : EvSF Z (fun cls d _ H' => E cls d H') ⟨H, Sh⟩ i o { nx := f, rt := Q } := by
  unfold EvSF
  cases o with
  | none => exact h.elim
  | some p =>
    obtain ⟨r, s⟩ := p
    cases r with
    | exn c => exact fun _ H' Sh' e => h H' Sh' e
    | ok fl =>
      cases fl with
      | nx g =>
        unfold runF at h
        rw [rb_ok] at h
        dsimp only at h ⊢
        split at h
        · rename_i ds q
          try rw [q]
          exact fun a vs H' Sh' e h1 h2 h3 r => h a vs H' Sh' e h1 h2 h3 r
        · exact h.elim
      | rt d => exact h.elim
      | ct g => exact h.elim
      | bk g => exact h.elim
/-- the slots at the entry of a def whose argument is its own -/
theorem ok_startO {Z : Gd} {N : List Str} {a : Addr} {us : List V} {xs : List D} {H Sh : Hp} {s : S} (sub : Same Sh H) (t : TownOk Z H Sh s) (ha : H a = some (.lst us)) (hs : Sh a = none) (hT : some a ≠ Z.T) (r : RepL Z Sh xs us) (hl : 1 ≤ N.length) :
    Ok Z ⟨hide a H, Sh⟩ (L2.start N [.ref a]) (startO N.length [.lst xs]) H Sh s where
  ent := ⟨fun b o _ h => by
    change (if b = a then none else H b) = some o at h
    split at h
    · cases h
    · exact h, Same.refl _, sub, t, fun _ _ h => .inl h⟩
  len := by
    unfold L2.start startO startG
    rw [List.length_set, List.length_append, List.length_append, List.length_map, List.length_map, List.length_replicate, List.length_replicate]
    rfl
  slot := fun i x o e1 e2 => by
    unfold startO at e1
    by_cases hi : i = 0
    · subst hi
      have h0 : 0 < (startG N.length [D.lst xs]).length := by
        unfold startG
        simp
      rw [List.getElem?_set_self h0] at e1
      cases e1
      rcases start_get (by exact hl) e2 with ⟨v', h3, rfl⟩ | ⟨h3, _⟩
      · cases h3
        refine ⟨a, us, rfl, hs, hT, ?_, ha, r⟩
        show hide a H a = none
        unfold hide
        rw [if_pos rfl]
      · simp at h3
    · rw [List.getElem?_set_ne (Ne.symm hi)] at e1
      rcases startG_get e1 with ⟨d, h1, rfl⟩ | rfl
      · have := (List.getElem?_eq_some_iff.mp h1).1
        simp at this
        omega
      · trivial
  dist := fun i j x y o e1 e2 h1 h2 _ _ => by
    have key : ∀ {i : Nat} {x : Sl}, (startO N.length [D.lst xs])[i]? = some x → isOwn x = true → i = 0 := fun {i x} e h => by
      unfold startO at e
      by_cases hi : i = 0
      · exact hi
      · rw [List.getElem?_set_ne (Ne.symm hi)] at e
        rcases startG_get e with ⟨d, _, rfl⟩ | rfl
        · cases h
        · cases h
    rw [key e1 h1, key e2 h2]
/-- what is true of all defs at a level -/
def AllFn (tb : Tb) (P : Program) (w : World) (K : PySem.W.Frag) (mg : Str → Option Value) (base : Heap) (Z : Gd) (k : Nat) : Prop :=
  (∀ f fd, tb.fs f = some fd → ∃ fdt : FuncData, Binds K fdt fd.ps [] ∧ FnOk P w K mg base (L2.CX P w) k (Z.fA f) fdt fd.ps (spF Z (sem tb k) f fd.ps.length)) ∧
  (∀ f fd p, tb.fs f = some fd → unret fd.body = some p → ∃ fdt : FuncData, Binds K fdt fd.ps [] ∧ FnOk P w K mg base (L2.CX P w) k (Z.fA f) fdt fd.ps (spFr Z (semF tb k) f fd.ps.length)) ∧
  ∀ f fd, tb.fs f = some fd → fd.ps.length = 1 → ∃ fdt : FuncData, Binds K fdt fd.ps [] ∧ FnOk P w K mg base (L2.CX P w) k (Z.fA f) fdt fd.ps (spOw Z (semO tb k) f)
theorem gr_of {Z : Gd} {X : Cx} {k : Nat} (T : Top tb X.K X.mg cA fA) (hZ : Z.K = X.K ∧ Z.cA = cA ∧ Z.fA = fA) (room : Room k X.A) (calm : X.calm = true) (nd : X.N.Nodup)
    (fn : AllFn tb X.prog X.w X.K X.mg X.base Z k) : Gr tb k Z X where
  hk := hZ.1.symm
  room := room
  hu := by have := room.un; omega
  blt := T.blt
  glo := fun i x e => by
    obtain ⟨u, v, h1, h2, h3⟩ := T.glo i x e
    refine ⟨u, v, h1, h2, fun Sh => ?_⟩
    have := h3 Z.T Sh
    obtain ⟨ZK, ZT, Zc, Zf⟩ := Z
    obtain ⟨z1, z2, z3⟩ := hZ
    dsimp only at z1 z2 z3
    subst z1 z2 z3
    exact this
  fn := fun f fd e => by
    obtain ⟨h1, st, fdt, F, _⟩ := T.fn f fd e
    refine ⟨by rw [hZ.2.2]; exact h1, by rw [hZ.2.2]; exact F.kp, fn.1 f fd e⟩
  exc := fun c x e => by
    rw [hZ.2.1]
    exact T.exc c x e
  exm := fun c c' b e => by
    rw [hZ.2.1]
    exact T.exm c c' b e
  exi := fun c c' b e => by
    rw [hZ.2.1]
    exact T.exi c c' b e
  calm := calm
  nd := nd
  fnF := fn.2.1
  fnO := fn.2.2
theorem all_ok (T : Top tb K mg cA fA) (Z : Gd) (hZ : Z.K = K ∧ Z.cA = cA ∧ Z.fA = fA) : ∀ k : Nat, AllFn tb P w K mg base Z k
  | 0 => by
    refine ⟨fun f fd e => ?_, fun f fd p e _ => ?_, fun f fd e h1 => ?_⟩
    · obtain ⟨h1, st, fdt, F, S, B, M⟩ := T.fn f fd e
      refine ⟨fdt, B, ⟨fun vs H Q E h => h.1, fun A outer s H args us vs Q E _ _ _ _ h => ?_⟩⟩
      obtain ⟨_, _, _, _, _, _, _, h⟩ := h
      exact h.elim
    · obtain ⟨h1, st, fdt, F, S, B, M⟩ := T.fn f fd e
      refine ⟨fdt, B, ⟨fun vs H Q E h => h.1, fun A outer s H args us vs Q E _ _ _ _ h => ?_⟩⟩
      obtain ⟨_, _, _, _, _, _, _, h⟩ := h
      exact h.elim
    · obtain ⟨_, st, fdt, F, S, B, M⟩ := T.fn f fd e
      refine ⟨fdt, B, ⟨fun vs H Q E h => ?_, fun A outer s H args us vs Q E _ _ _ _ h => ?_⟩⟩
      · obtain ⟨_, _, _, _, _, rfl, _⟩ := h
        exact h1.symm
      · obtain ⟨_, _, _, _, _, _, _, _, _, _, _, _, h⟩ := h
        exact h.elim
  | k + 1 => by
    have ih := all_ok T Z hZ k
    refine ⟨fun f fd e => ?_, fun f fd p e hp => ?_, fun f fd e h1 => ?_⟩
    · obtain ⟨h1, st, fdt, F, S, B, M⟩ := T.fn f fd e
      refine ⟨fdt, B, ?_⟩
      rw [hZ.2.2]
      refine FunD.ok F S (fun vs H Q E h => h.1) fun cdv A outer s H vs Q E hr h => ?_
      obtain ⟨hl, ds, st0, Sh, sub, tw, r, ev⟩ := h
      refine ⟨tS Z (fun cls d _ H' => E cls d H') ⟨H, Sh⟩ (evSs (enOf tb k) fd.body), sndSs fd.body _ (defScope st) _ _ ⟨gr_of T hZ hr rfl S.nd ih, scOk_def, takes_of rfl rfl rfl rfl, passes_of rfl, rfl, S.kind, rfl, rfl, rfl⟩ M, ?_⟩
      refine ⟨_, st0, Sh, ok_start sub tw r (by rw [hl]; exact nLen S), ?_⟩
      rw [sem_succ, e] at ev
      dsimp only at ev
      split at ev
      · exact evS_run ev
      · exact ev.elim
    · obtain ⟨h1, st, fdt, F, S, B, M⟩ := T.fn f fd e
      refine ⟨fdt, B, ?_⟩
      rw [hZ.2.2]
      refine FunD.ok F S (fun vs H Q E h => h.1) fun cdv A outer s H vs Q E hr h => ?_
      obtain ⟨hl, ds, st0, Sh, sub, tw, r, ev⟩ := h
      refine ⟨tSF Z (fun cls d _ H' => E cls d H') ⟨H, Sh⟩ p.2 (evSs (enOf tb k) p.1), sndF (sc := defScope st) (N := fd.N) ⟨gr_of T hZ hr rfl S.nd ih, scOk_def, takes_of rfl rfl rfl rfl, passes_of rfl, rfl, S.kind, rfl, rfl, rfl⟩ fd.body p _ hp M, ?_⟩
      refine ⟨_, st0, Sh, ok_start sub tw r (by rw [hl]; exact nLen S), ?_⟩
      rw [semF_succ, e] at ev
      dsimp only at ev
      rw [hp] at ev
      dsimp only at ev
      split at ev
      · exact evF_run ev
      · exact ev.elim
    · obtain ⟨_, st, fdt, F, S, B, M⟩ := T.fn f fd e
      refine ⟨fdt, B, ?_⟩
      rw [hZ.2.2]
      refine FunD.ok F S (fun vs H Q E h => ?_) fun cdv A outer s H vs Q E hr h => ?_
      · obtain ⟨_, _, _, _, _, rfl, _⟩ := h
        exact h1.symm
      · obtain ⟨a, us, xs, st0, Sh, rfl, sub, tw, ha, hs, hT, r, ev⟩ := h
        refine ⟨tS Z (fun cls d _ H' => E cls d H') ⟨hide a H, Sh⟩ (evSs (enOf tb k) fd.body), sndSs fd.body _ (defScope st) _ _ ⟨gr_of T hZ hr rfl S.nd ih, scOk_def, takes_of rfl rfl rfl rfl, passes_of rfl, rfl, S.kind, rfl, rfl, rfl⟩ M, ?_⟩
        refine ⟨_, st0, Sh, ok_startO sub tw ha hs hT r (by rw [← h1]; exact nLen S), ?_⟩
        rw [semO_succ, e] at ev
        dsimp only at ev
        rw [if_pos h1] at ev
        exact evS_run ev
/-! ### the law -/
def spLaw (K : PySem.W.Frag) : Sp := fun vs H Q _ => ∃ (a : Addr) (ns : List Int), vs = [.ref a] ∧ SqL K H a (ns.map V.int) ∧ ns.length ≤ 63 ∧ ∀ H', Q (.bl true) H'
theorem law_ok {k i : Nat} {f : Addr} {fdt : FuncData} {st : Stmt} {N : List Str} {x : Str} {body : CSs} {t : Expr} {p p2 : Pos} {rest : List Stmt} (T : Top tb K mg cA fA) (F : FunD K "law" "law" (defArgs st) (defBody st) (defScope st) [] [] f fdt) (S : FnScope N [x] (defScope st))
    (hb : defBody st = .Assign [t] (.List [] p) p2 :: rest) (ht : nameIs N (defScope st) i t = true) (hi : i ≠ 0) (M : mtSs tb N body (defScope st) rest = true)
    (h : ∀ ns : List Int, ns.length ≤ 63 → ∃ s', runB (evSs (enOf tb k) body (lawG N.length i ns) (some 0)) = some (.ok (.bl true), s')) : FnOk P w K mg base (L2.CX P w) (k + 1) f fdt [x] (spLaw K) := by
  refine FunD.ok F S (fun vs H Q E h => ?_) fun cdv A outer s H vs Q E hr hq => ?_
  · obtain ⟨a, ns, rfl, _⟩ := h
    rfl
  · obtain ⟨a, ns, rfl, hS, hl, q⟩ := hq
    obtain ⟨x1, px, rfl, n1, l1⟩ := nameIs_eq ht
    obtain ⟨s', hev⟩ := h ns hl
    rw [hb]
    refine ⟨_, pss_cons (ps_set (i := i) S.nd n1 (scOk_def.lc l1).1 (pe_lst pa_nil) rfl (scOk_def.lc l1).2) (t := tAsg (tLst tNil) (gName i)) (u := fun D σ H' => ∃ (q : Addr) (H0 : Ent), tS ⟨K, some q, cA, fA⟩ (fun cls d _ H' => E cls d H') H0 (evSs (enOf tb k) body) D σ H')
      ⟨fun pins s σ H D I ⟨q, H0, z⟩ => (sndSs body _ (defScope st) _ _ ⟨gr_of T ⟨rfl, rfl, rfl⟩ hr rfl S.nd (all_ok T ⟨K, some q, cA, fA⟩ ⟨rfl, rfl, rfl⟩ k), scOk_def, takes_of rfl rfl rfl rfl, passes_of rfl, rfl, S.kind, rfl, rfl, rfl⟩ M).run pins s σ H D I z⟩, ?_⟩
    refine ⟨Nat.zero_le _, fun p0 np => ⟨p0, ⟨upd H p0 (.lst []), H⟩, lawG N.length i ns, some 0, H, ?_, ?_⟩⟩
    · have sub : Same H (upd H p0 (.lst [])) := same_fresh np
      have tw : TownOk ⟨K, some p0, cA, fA⟩ (upd H p0 (.lst [])) H (some 0) := ⟨np, upd_same⟩
      have k0 : Ok ⟨K, some p0, cA, fA⟩ ⟨upd H p0 (.lst []), H⟩ (L2.start N [.ref a]) (startG N.length [.scr ns]) (upd H p0 (.lst [])) H (some 0) := ok_start sub tw (.cons (.scr hS) .nil) (nLen S)
      exact k0.set (.town rfl) i
    · have e2 : evSs (enOf tb k) body (lawG N.length i ns) (some 0) = some (.ok (.rt (.bl true)), s') := by
        cases q0 : evSs (enOf tb k) body (lawG N.length i ns) (some 0) with
        | none =>
          rw [q0] at hev
          cases hev
        | some p1 =>
          obtain ⟨r, s1⟩ := p1
          rw [q0] at hev
          cases r with
          | exn c => cases hev
          | ok fl =>
            cases fl with
            | nx g => cases hev
            | ct g => cases hev
            | bk g => cases hev
            | rt d =>
              cases hev
              rfl
      rw [e2]
      intro v H' Sh' _ r
      cases r
      exact q H'
end
end FR
/-! FrTop: a claim's table, from the head's facts. -/
namespace FR
open PySem PySem.Spec PyProof.Rows L2
def dfOf (top : Nat → Stmt) (x : Str) (i : Nat) : He.DefD := ⟨(x, none), x, x, defArgs (top i), defBody (top i), defScope (top i), [], []⟩
def fnOf (top : Nat → Stmt) (ds : List DfC) : List He.DefD := ds.map fun d => dfOf top d.fd.name d.pos
def glFa (g : GlC) : He.Fa := match g.val with
  | .int i => .int g.name i
  | .str x => .str g.name x
  | _ => .glo g.name
def faOf (ds : List DfC) (gs : List GlC) (ts : List TuC) (cs : List (Nat × Str)) : List He.Fa :=
  (ds.map fun d => He.Fa.glo d.fd.name) ++ (bltNames.map He.Fa.free ++ (gs.map glFa ++ (ts.map (fun t => He.Fa.glo t.name) ++ (cs.map (fun c => He.Fa.glo c.2) ++ cs.map fun c => He.Fa.exc c.2))))
def Cst.dv : Cst → He.Dv
  | .non => .non
  | .bl b => .bl b
  | .int i => .int i
  | .str x => .str x
/-! the Hook, with the module's tuples -/
abbrev AlT : Type := He.AlD × Bool
def tuB (ts : List TuC) (K : PySem.W.Frag) : Bool := ts.all fun t => He.tupB K t.name (t.vals.map Cst.dv)
/-- what the errors' classes say -/
def exC (K : PySem.W.Frag) (D : Addr) : Bool :=
  decide (PySem.W.findIn K (.ref D) "__getattribute__" = some (some (.builtin "BaseException.__getattribute__"))) && (decide (PySem.W.findIn K (.ref D) "__getattr__" = some none) && (decide (PySem.W.subIn K (.ref D) (.type "BaseException") = some true) && (PySem.W.hasDictIn K D &&
  (decide (PySem.W.findIn K (.ref D) "__class__" = some (some (.builtin "object.__class__"))) && (decide (PySem.W.specialIn K (.builtin "object.__class__") "__get__" = some (some (.builtin "getset_descriptor.__get__"))) && (decide (PySem.W.takesIn K (.builtin "object.__class__") = some true) && decide (PySem.W.mroIn K D (.type "object") = some true)))))))
theorem exC_ok {K : PySem.W.Frag} {D : Addr} (h : exC K D = true) : ExcC K D := by
  unfold exC at h
  simp only [Bool.and_eq_true, decide_eq_true_eq] at h
  obtain ⟨h1, h2, h3, h4, h5, h6, h7, h8⟩ := h
  exact ⟨h1, h2, h3, h4, h5, h6, h7, h8⟩
def exB (cs : List (Nat × Str)) (K : PySem.W.Frag) : Bool := cs.all fun c => exC K (He.ga K c.2) && (decide (PySem.W.kitOne K (.ref (He.ga K c.2)) (.type "ValueError") = some true) &&
  cs.all fun d => decide (PySem.W.kitOne K (.ref (He.ga K c.2)) (.ref (He.ga K d.2)) = some (isSub c.1 d.1)) && decide (PySem.W.exmOne K (.ref (He.ga K c.2)) (.ref (He.ga K d.2)) = some (isSub c.1 d.1)))
def obsT (fa : List He.Fa) (fn : List He.DefD) (ts : List TuC) (cs : List (Nat × Str)) (K : PySem.W.Frag) : AlT := (He.obsD fa fn K, tuB ts K && exB cs K)
def SaysT (fa : List He.Fa) (fn : List He.DefD) (ts : List TuC) (cs : List (Nat × Str)) (K : PySem.W.Frag) : Prop := obsT fa fn ts cs K = (He.valD fn, true)
def obsTG (n : Nat) (fa : List He.Fa) (fn : List He.DefD) (ts : List TuC) (cs : List (Nat × Str)) (g : Addr → Option Obj) : AlT := obsT fa fn ts cs (He.frG g (He.asD g n))
def hookT (n : Nat) (fa : List He.Fa) (fn : List He.DefD) (ts : List TuC) (cs : List (Nat × Str)) : PySem.W.Hook where
  α := AlT
  obs := fun s => obsTG n fa fn ts cs s.heap.get?
  val := fun _ => (He.valD fn, true)
  says := fun _ h => ∃ K : PySem.W.Frag, K.In h ∧ SaysT fa fn ts cs K
  of := fun _ _ e => ⟨_, He.frG_in, e⟩
  keeps := fun _ _ _ ⟨K, hK, c⟩ k => ⟨K, PySem.W.Frag.In.keeps hK k, c⟩
theorem obsTG_eq {n : Nat} {fa : List He.Fa} {fn : List He.DefD} {ts : List TuC} {cs : List (Nat × Str)} {g : Addr → Option Obj} {s : Shared} (h : ∀ a, g a = s.heap.get? a) : obsTG n fa fn ts cs g = (hookT n fa fn ts cs).obs s := by
  have : g = s.heap.get? := funext h
  rw [this]
  rfl
theorem SaysT.d {fa : List He.Fa} {fn : List He.DefD} {ts : List TuC} {cs : List (Nat × Str)} {K : PySem.W.Frag} (c : SaysT fa fn ts cs K) : He.SaysD fa fn K := congrArg (fun z : AlT => z.1) c
theorem SaysT.t {fa : List He.Fa} {fn : List He.DefD} {ts : List TuC} {cs : List (Nat × Str)} {K : PySem.W.Frag} (c : SaysT fa fn ts cs K) : tuB ts K = true := (Bool.and_eq_true_iff.mp (show (tuB ts K && exB cs K) = true from congrArg (fun z : AlT => z.2) c)).1
theorem SaysT.e {fa : List He.Fa} {fn : List He.DefD} {ts : List TuC} {cs : List (Nat × Str)} {K : PySem.W.Frag} (c : SaysT fa fn ts cs K) : exB cs K = true := (Bool.and_eq_true_iff.mp (show (tuB ts K && exB cs K) = true from congrArg (fun z : AlT => z.2) c)).2
theorem exB_ok {ds : List DfC} {gs : List GlC} {ts : List TuC} {cs : List (Nat × Str)} {K : PySem.W.Frag} (h : exB cs K = true) {c c' : Nat} {b : Bool} (e : (mkTb ds gs ts cs).sub c' c = some b) :
    ExcC K (He.ga K ((cnOf cs c').getD "")) ∧ PySem.W.kitOne K (.ref (He.ga K ((cnOf cs c').getD ""))) (.type "ValueError") = some true ∧ PySem.W.kitOne K (.ref (He.ga K ((cnOf cs c').getD ""))) (.ref (He.ga K ((cnOf cs c).getD ""))) = some b ∧
      PySem.W.exmOne K (.ref (He.ga K ((cnOf cs c').getD ""))) (.ref (He.ga K ((cnOf cs c).getD ""))) = some b := by
  have e0 : (if ((cnOf cs c').isSome && (cnOf cs c).isSome) = true then some (isSub c' c) else none) = some b := e
  split at e0
  · rename_i hs
    rw [Bool.and_eq_true] at hs
    cases e0
    have look : ∀ {n : Nat}, (cnOf cs n).isSome = true → ∃ p ∈ cs, p.1 = n ∧ cnOf cs n = some p.2 := fun {n} hn => by
      unfold cnOf at hn ⊢
      rw [Option.isSome_map] at hn
      obtain ⟨p, hp⟩ := Option.isSome_iff_exists.mp hn
      refine ⟨p, List.mem_of_find?_eq_some hp, by simpa using List.find?_some hp, ?_⟩
      rw [hp]
      rfl
    obtain ⟨p, p1, p2, p3⟩ := look hs.1
    obtain ⟨q, q1, q2, q3⟩ := look hs.2
    rw [p3, q3]
    have k1 := List.all_eq_true.mp h p p1
    simp only [Bool.and_eq_true, decide_eq_true_eq] at k1
    obtain ⟨a1, a2, a3⟩ := k1
    have k2 := List.all_eq_true.mp a3 q q1
    simp only [Bool.and_eq_true, decide_eq_true_eq] at k2
    rw [p2, q2] at k2
    exact ⟨exC_ok a1, a2, k2.1, k2.2⟩
  · cases e0
theorem rep_csts {Z : Gd} {Sh : Hp} {K : PySem.W.Frag} : ∀ vals : List Cst, RepL Z Sh (vals.map Cst.d) ((vals.map Cst.dv).map (He.Dv.v K))
  | [] => .nil
  | .non :: r => .cons .non (rep_csts r)
  | .bl b :: r => .cons (.bl b) (rep_csts r)
  | .int i :: r => .cons (.int i) (rep_csts r)
  | .str x :: r => .cons (.str x) (rep_csts r)
def scB (N P : List Str) (sc : Scope) : Bool := decide (sc.kind = .function) && (!sc.isCoroutine && (!sc.isGenerator && (decide N.Nodup && (decide (N.take P.length = P) && (P.all (fun x => decide (sc.names.lookup x = some .local) || decide (sc.names.lookup x = some .cell)) && sc.names.all fun y => !decide (y.2 = .free))))))
theorem scB_ok {N P : List Str} {sc : Scope} (h : scB N P sc = true) : FnScope N P sc := by
  unfold scB at h
  simp only [Bool.and_eq_true, decide_eq_true_eq, Bool.not_eq_true', List.all_eq_true, Bool.or_eq_true, decide_eq_false_iff_not] at h
  obtain ⟨h1, h2, h3, h4, h5, h6, h7⟩ := h
  exact ⟨h1, h2, h3, h4, h5, h6, h7⟩
def okD (top : Nat → Stmt) (tb : Tb) (d : DfC) : Bool := scB d.fd.N d.fd.ps (defScope (top d.pos)) && mtSs tb d.fd.N d.fd.body (defScope (top d.pos)) (defBody (top d.pos))
def glB (g : GlC) : Bool := match g.val with
  | .int _ => true
  | .str _ => true
  | _ => false
def okAll (top : Nat → Stmt) (tb : Tb) (ds : List DfC) : Bool := ds.all (okD top tb)
theorem says_fa {fa : List He.Fa} {fn : List He.DefD} {K : PySem.W.Frag} (c : He.SaysD fa fn K) : ∀ f ∈ fa, f.ok K = true := by
  intro f hf
  obtain ⟨i, h⟩ := List.mem_iff_getElem?.mp hf
  exact c.fact i h
theorem find_id {α : Type} {p : α → Bool} {l : List α} {a : α} (h : l.find? p = some a) : a ∈ l ∧ p a = true := ⟨List.mem_of_find?_eq_some h, List.find?_some h⟩
theorem top_of {ds : List DfC} {gs : List GlC} {ts : List TuC} {cs : List (Nat × Str)} {top : Nat → Stmt} {K : PySem.W.Frag} {h : Heap} {mg : Str → Option Value} {fa2 : List He.Fa} {fn2 : List He.DefD} (X : K.In h) (G : h.Ns mainGlobals mg) (c : He.SaysD (faOf ds gs ts cs ++ fa2) (fnOf top ds ++ fn2) K) (ct : tuB ts K = true) (ce : exB cs K = true)
    (ck : okAll top (mkTb ds gs ts cs) ds = true) (hg : gs.all glB = true)
    (bd : ∀ d ∈ ds, ∀ (f : Addr) (fdt : FuncData), FunD K d.fd.name d.fd.name (defArgs (top d.pos)) (defBody (top d.pos)) (defScope (top d.pos)) [] [] f fdt → Binds K fdt d.fd.ps []) :
    Top (mkTb ds gs ts cs) K mg (fun i => He.ga K ((cnOf cs i).getD "")) (fun f => He.ga K (((fsOf ds f).map Fd.name).getD "")) where
  fn := fun f fd e => by
    have e1 : fsOf ds f = some fd := e
    rw [e1]
    unfold fsOf at e1
    obtain ⟨d, e2, rfl⟩ := Option.map_eq_some_iff.mp e1
    obtain ⟨hd, _⟩ := find_id e2
    refine ⟨He.glo_ok X G (says_fa c _ (List.mem_append_left _ (List.mem_append_left _ (List.mem_map_of_mem hd)))), top d.pos, ?_⟩
    obtain ⟨i, hi⟩ := List.mem_iff_getElem?.mp (List.mem_append_left fn2 (List.mem_map_of_mem (f := fun d : DfC => dfOf top d.fd.name d.pos) hd))
    obtain ⟨fdt, F⟩ := c.def_ i hi
    have k := List.all_eq_true.mp ck d hd
    unfold okD at k
    obtain ⟨k1, k2⟩ := Bool.and_eq_true_iff.mp k
    exact ⟨fdt, F, scB_ok k1, bd d hd _ fdt F, k2⟩
  blt := fun x hx => He.free_ok X G (says_fa c _ (List.mem_append_left _ (List.mem_append_right _ (List.mem_append_left _ (List.mem_map_of_mem hx)))))
  glo := fun i x e => by
    cases e2 : glFind gs i with
    | some g =>
      have e1 : (mkTb ds gs ts cs).gn i = some g.name := by
        show (match glFind gs i with | some g => some g.name | none => (tuFind ts i).map TuC.name) = _
        rw [e2]
      rw [e1] at e
      cases e
      have e3 : (mkTb ds gs ts cs).gl i = g.val.d := by
        show (match glFind gs i with | some g => g.val.d | none => match tuFind ts i with | some t => D.tup (t.vals.map Cst.d) | none => D.non) = _
        rw [e2]
      rw [e3]
      obtain ⟨hd, _⟩ := find_id e2
      have hf := says_fa c _ (List.mem_append_left _ (List.mem_append_right _ (List.mem_append_right _ (List.mem_append_left _ (List.mem_map_of_mem (f := glFa) hd)))))
      have hb := List.all_eq_true.mp hg g hd
      obtain ⟨gi, gx, gv⟩ := g
      cases gv with
      | non => cases hb
      | bl b => cases hb
      | int i =>
        obtain ⟨t, e4⟩ := He.int_ok X G hf
        exact ⟨_, .int i, e4, ⟨t, rfl⟩, fun _ _ => .int i⟩
      | str z =>
        obtain ⟨t, e4⟩ := He.str_ok X G hf
        exact ⟨_, .str z, e4, ⟨t, rfl⟩, fun _ _ => .str z⟩
    | none =>
      have e1 : (mkTb ds gs ts cs).gn i = (tuFind ts i).map TuC.name := by
        show (match glFind gs i with | some g => some g.name | none => (tuFind ts i).map TuC.name) = _
        rw [e2]
      rw [e1] at e
      obtain ⟨t, e5, rfl⟩ := Option.map_eq_some_iff.mp e
      have e3 : (mkTb ds gs ts cs).gl i = .tup (t.vals.map Cst.d) := by
        show (match glFind gs i with | some g => g.val.d | none => match tuFind ts i with | some t => D.tup (t.vals.map Cst.d) | none => D.non) = _
        rw [e2, e5]
      rw [e3]
      obtain ⟨hd, _⟩ := find_id e5
      have e4 := He.glo_ok X G (says_fa c _ (List.mem_append_left _ (List.mem_append_right _ (List.mem_append_right _ (List.mem_append_right _ (List.mem_append_left _ (List.mem_map_of_mem (f := fun t : TuC => He.Fa.glo t.name) hd)))))))
      exact ⟨_, .ref (He.ga K t.name), e4, rfl, fun _ Sh => .tup (He.tupB_ok (List.all_eq_true.mp ct t hd) Sh) (rep_csts t.vals)⟩
  exm := fun c c' b e => (exB_ok ce e).2.2.2
  exi := fun c c' b e => ⟨(exB_ok ce e).1, (exB_ok ce e).2.2.1, (exB_ok ce e).2.1⟩
  exc := fun i x e => by
    have e1 : cnOf cs i = some x := e
    rw [e1]
    unfold cnOf at e1
    obtain ⟨d, e2, rfl⟩ := Option.map_eq_some_iff.mp e1
    obtain ⟨hd, _⟩ := find_id e2
    refine ⟨He.glo_ok X G (says_fa c _ (List.mem_append_left _ (List.mem_append_right _ (List.mem_append_right _ (List.mem_append_right _ (List.mem_append_right _ (List.mem_append_left _ (List.mem_map_of_mem (f := fun c : Nat × Str => He.Fa.glo c.2) hd)))))))), ?_⟩
    exact He.exc_ok (says_fa c _ (List.mem_append_left _ (List.mem_append_right _ (List.mem_append_right _ (List.mem_append_right _ (List.mem_append_right _ (List.mem_append_right _ (List.mem_map_of_mem (f := fun c : Nat × Str => He.Fa.exc c.2) hd))))))))
def lawChk (st : Stmt) (tb : Tb) (fd : Fd) (i : Nat) : Bool := match defBody st with
  | .Assign [t] (.List [] _) _ :: rest => nameIs fd.N (defScope st) i t && (decide (i ≠ 0) && mtSs tb fd.N fd.body (defScope st) rest)
  | _ => false
theorem law_fin {tb : Tb} {P : Program} {w : World} {K : PySem.W.Frag} {mg : Str → Option Value} {base : Heap} {cA fA : Nat → Addr} {fd : Fd} {i k : Nat} {f : Addr} {fdt : FuncData} {st : Stmt} {x : Str} (T : Top tb K mg cA fA) (F : FunD K "law" "law" (defArgs st) (defBody st) (defScope st) [] [] f fdt) (S : FnScope fd.N [x] (defScope st))
    (ck : lawChk st tb fd i = true) (h : LawT tb fd i k) : FnOk P w K mg base (L2.CX P w) (k + 1) f fdt [x] (spLaw K) := by
  unfold lawChk at ck
  split at ck
  · rename_i t p p2 rest hb
    obtain ⟨c1, c2⟩ := Bool.and_eq_true_iff.mp ck
    obtain ⟨c2, c3⟩ := Bool.and_eq_true_iff.mp c2
    exact law_ok T F S hb c1 (of_decide_eq_true c2) c3 h
  · cases ck
/-- the end, an exception's place told by the world -/
theorem walk_w {l : PySem.W.OpenLaw} {n k : Nat} {q : Program} {loose : List Str} {XP : (Str → Option Value) → Heap → Prop} {YP : World → Heap → Prop} {d : DefRec} {x : Str} (hn : l.most = some n) (hn2 : n ≤ sizeLine)
    (hdf : d.params.defaults = []) (hr : Room k callerA)
    (F : ∀ (w : World) (mg : Str → Option Value) (fa : Addr) (h : Heap), YP w h → h.Ns mainGlobals mg → mg d.name = some (.ref fa) → ∃ (K : PySem.W.Frag) (fd : FuncData), K.In h ∧ (∀ (s : Shared) (u : Value), BindsTo s fd ⟨[u], []⟩ [(x, u)]) ∧
        ∀ base : Heap, K.In base → base.Ns mainGlobals mg → FnOk l.prog w K mg base (L2.CX l.prog w) k fa fd [x] (spLaw K)) (hm : n ≤ 63) :
    PySem.W.WalkO q loose XP YP l.row.toRowW d [] (fun f vs => PySem.call f vs) := by
  refine Att.attach_call hn hdf fun w s0 s1 mg mb fa o pm cd doc a vs ns G0 Y ho hd hcd hmg hobj hints hlen hg => ?_
  obtain ⟨K, fd, KX, hb, hF⟩ := F w mg fa _ Y G0.T.g hmg
  refine law_call KX G0.T.g G0.T.b G0.T.builtins G0.T.nolimit hg hobj hints (Nat.le_trans hlen hn2) hr hF hb (fun H _ hS => ⟨a, ns, rfl, hS, Nat.le_trans hlen hm, fun _ => rfl⟩) fun H e s' hc => ?_
  obtain ⟨_, _, _, _, _, _, _, _, _, _, _, _, z⟩ := hc
  exact z
end FR
namespace FRH
open PySem PySem.Spec PyProof.Rows L2 FR
def top (i : Nat) : Stmt := PySem.Challenge.pw_fieldrounds_k43_whole_seen.main.body.getD i (.Pass ⟨0, 0, 0, 0⟩)
def fn : List He.DefD := fnOf top ds_k43 ++ [dfOf top "law" 38]
def fa : List He.Fa := faOf ds_k43 gs_k43 ts_k43 cs_k43 ++ [.glo "law"]
abbrev R : PySem.W.OpenRow := PySem.W.OpenLaw.row PySem.Challenge.rw_fieldrounds_k43_whole_seen
abbrev hk : PySem.W.Hook := hookT 4 fa fn ts_k43 cs_k43
def ob (s : PySem.W.SharedT) : AlT := obsTG 4 fa fn ts_k43 cs_k43 (HandSHeadRun.getT s)
theorem ob_eq (s : PySem.W.SharedT) : ob s = hk.obs s.abs := obsTG_eq (HandSHeadRun.getT_eq s)
def loose : List Str := (["FieldError", "BadSights", "BadKnown", "Loose", "is_whole", "SMALL", "MOST_NAME", "MOST_SIGHTS", "MOST_BENCHES", "MOST_RISE", "MOST_WEIGHT", "is_name", "is_sight", "benches_of", "look_sights"] : List Str) ++ (["look_known", "held", "look_all", "unseen", "unseen_of", "twins", "is_sure", "_law_cell", "_law_mix", "_law_draw", "_law_pick", "_law_sights", "_law_benches", "_law_known", "_law_joined"] : List Str) ++ (["_law_ring", "_law_is", "_law_hangs"] : List Str)
theorem run (w : World) : HandSHeadRun.RunEq R (PySem.W.view R.prog [38]) hk ob 20000 loose w := by
  intro os
  kernel_rfl
theorem chk : okAll top tb_k43 ds_k43 = true := by kernel_rfl
theorem bd_6 {K : PySem.W.Frag} {f : Addr} {fdt : FuncData} (F : FunD K fd_k43_3.name fd_k43_3.name (defArgs (top 6)) (defBody (top 6)) (defScope (top 6)) [] [] f fdt) : Binds K fdt fd_k43_3.ps [] := F.bindsN fun _ _ _ _ _ _ us hl => match us, hl with | [_, _, _], _ => rfl
theorem bd_14 {K : PySem.W.Frag} {f : Addr} {fdt : FuncData} (F : FunD K fd_k43_101.name fd_k43_101.name (defArgs (top 14)) (defBody (top 14)) (defScope (top 14)) [] [] f fdt) : Binds K fdt fd_k43_101.ps [] := F.bindsN fun _ _ _ _ _ _ us hl => match us, hl with | [_], _ => rfl
theorem bd_15 {K : PySem.W.Frag} {f : Addr} {fdt : FuncData} (F : FunD K fd_k43_102.name fd_k43_102.name (defArgs (top 15)) (defBody (top 15)) (defScope (top 15)) [] [] f fdt) : Binds K fdt fd_k43_102.ps [] := F.bindsN fun _ _ _ _ _ _ us hl => match us, hl with | [_], _ => rfl
theorem bd_16 {K : PySem.W.Frag} {f : Addr} {fdt : FuncData} (F : FunD K fd_k43_103.name fd_k43_103.name (defArgs (top 16)) (defBody (top 16)) (defScope (top 16)) [] [] f fdt) : Binds K fdt fd_k43_103.ps [] := F.bindsN fun _ _ _ _ _ _ us hl => match us, hl with | [_], _ => rfl
theorem bd_17 {K : PySem.W.Frag} {f : Addr} {fdt : FuncData} (F : FunD K fd_k43_104.name fd_k43_104.name (defArgs (top 17)) (defBody (top 17)) (defScope (top 17)) [] [] f fdt) : Binds K fdt fd_k43_104.ps [] := F.bindsN fun _ _ _ _ _ _ us hl => match us, hl with | [_], _ => rfl
theorem bd_18 {K : PySem.W.Frag} {f : Addr} {fdt : FuncData} (F : FunD K fd_k43_105.name fd_k43_105.name (defArgs (top 18)) (defBody (top 18)) (defScope (top 18)) [] [] f fdt) : Binds K fdt fd_k43_105.ps [] := F.bindsN fun _ _ _ _ _ _ us hl => match us, hl with | [_, _], _ => rfl
theorem bd_19 {K : PySem.W.Frag} {f : Addr} {fdt : FuncData} (F : FunD K fd_k43_106.name fd_k43_106.name (defArgs (top 19)) (defBody (top 19)) (defScope (top 19)) [] [] f fdt) : Binds K fdt fd_k43_106.ps [] := F.bindsN fun _ _ _ _ _ _ us hl => match us, hl with | [_, _, _], _ => rfl
theorem bd_20 {K : PySem.W.Frag} {f : Addr} {fdt : FuncData} (F : FunD K fd_k43_107.name fd_k43_107.name (defArgs (top 20)) (defBody (top 20)) (defScope (top 20)) [] [] f fdt) : Binds K fdt fd_k43_107.ps [] := F.bindsN fun _ _ _ _ _ _ us hl => match us, hl with | [_, _], _ => rfl
theorem bd_22 {K : PySem.W.Frag} {f : Addr} {fdt : FuncData} (F : FunD K fd_k43_123.name fd_k43_123.name (defArgs (top 22)) (defBody (top 22)) (defScope (top 22)) [] [] f fdt) : Binds K fdt fd_k43_123.ps [] := F.bindsN fun _ _ _ _ _ _ us hl => match us, hl with | [_, _], _ => rfl
theorem bd_23 {K : PySem.W.Frag} {f : Addr} {fdt : FuncData} (F : FunD K fd_k43_124.name fd_k43_124.name (defArgs (top 23)) (defBody (top 23)) (defScope (top 23)) [] [] f fdt) : Binds K fdt fd_k43_124.ps [] := F.bindsN fun _ _ _ _ _ _ us hl => match us, hl with | [_, _], _ => rfl
theorem bd_24 {K : PySem.W.Frag} {f : Addr} {fdt : FuncData} (F : FunD K fd_k43_125.name fd_k43_125.name (defArgs (top 24)) (defBody (top 24)) (defScope (top 24)) [] [] f fdt) : Binds K fdt fd_k43_125.ps [] := F.bindsN fun _ _ _ _ _ _ us hl => match us, hl with | [_, _], _ => rfl
theorem bd_25 {K : PySem.W.Frag} {f : Addr} {fdt : FuncData} (F : FunD K fd_k43_126.name fd_k43_126.name (defArgs (top 25)) (defBody (top 25)) (defScope (top 25)) [] [] f fdt) : Binds K fdt fd_k43_126.ps [] := F.bindsN fun _ _ _ _ _ _ us hl => match us, hl with | [_, _], _ => rfl
theorem bd_27 {K : PySem.W.Frag} {f : Addr} {fdt : FuncData} (F : FunD K fd_k43_9.name fd_k43_9.name (defArgs (top 27)) (defBody (top 27)) (defScope (top 27)) [] [] f fdt) : Binds K fdt fd_k43_9.ps [] := F.bindsN fun _ _ _ _ _ _ us hl => match us, hl with | [_, _], _ => rfl
theorem bd_28 {K : PySem.W.Frag} {f : Addr} {fdt : FuncData} (F : FunD K fd_k43_10.name fd_k43_10.name (defArgs (top 28)) (defBody (top 28)) (defScope (top 28)) [] [] f fdt) : Binds K fdt fd_k43_10.ps [] := F.bindsN fun _ _ _ _ _ _ us hl => match us, hl with | [_, _], _ => rfl
theorem bd_29 {K : PySem.W.Frag} {f : Addr} {fdt : FuncData} (F : FunD K fd_k43_11.name fd_k43_11.name (defArgs (top 29)) (defBody (top 29)) (defScope (top 29)) [] [] f fdt) : Binds K fdt fd_k43_11.ps [] := F.bindsN fun _ _ _ _ _ _ us hl => match us, hl with | [_, _, _], _ => rfl
theorem bd_30 {K : PySem.W.Frag} {f : Addr} {fdt : FuncData} (F : FunD K fd_k43_12.name fd_k43_12.name (defArgs (top 30)) (defBody (top 30)) (defScope (top 30)) [] [] f fdt) : Binds K fdt fd_k43_12.ps [] := F.bindsN fun _ _ _ _ _ _ us hl => match us, hl with | [_, _, _], _ => rfl
theorem bd_31 {K : PySem.W.Frag} {f : Addr} {fdt : FuncData} (F : FunD K fd_k43_129.name fd_k43_129.name (defArgs (top 31)) (defBody (top 31)) (defScope (top 31)) [] [] f fdt) : Binds K fdt fd_k43_129.ps [] := F.bindsN fun _ _ _ _ _ _ us hl => match us, hl with | [_, _, _], _ => rfl
theorem bd_32 {K : PySem.W.Frag} {f : Addr} {fdt : FuncData} (F : FunD K fd_k43_130.name fd_k43_130.name (defArgs (top 32)) (defBody (top 32)) (defScope (top 32)) [] [] f fdt) : Binds K fdt fd_k43_130.ps [] := F.bindsN fun _ _ _ _ _ _ us hl => match us, hl with | [_], _ => rfl
theorem bd_33 {K : PySem.W.Frag} {f : Addr} {fdt : FuncData} (F : FunD K fd_k43_131.name fd_k43_131.name (defArgs (top 33)) (defBody (top 33)) (defScope (top 33)) [] [] f fdt) : Binds K fdt fd_k43_131.ps [] := F.bindsN fun _ _ _ _ _ _ us hl => match us, hl with | [_, _, _], _ => rfl
theorem bd_34 {K : PySem.W.Frag} {f : Addr} {fdt : FuncData} (F : FunD K fd_k43_148.name fd_k43_148.name (defArgs (top 34)) (defBody (top 34)) (defScope (top 34)) [] [] f fdt) : Binds K fdt fd_k43_148.ps [] := F.bindsN fun _ _ _ _ _ _ us hl => match us, hl with | [_, _, _], _ => rfl
theorem bd_35 {K : PySem.W.Frag} {f : Addr} {fdt : FuncData} (F : FunD K fd_k43_157.name fd_k43_157.name (defArgs (top 35)) (defBody (top 35)) (defScope (top 35)) [] [] f fdt) : Binds K fdt fd_k43_157.ps [] := F.bindsN fun _ _ _ _ _ _ us hl => match us, hl with | [_, _], _ => rfl
theorem bd_36 {K : PySem.W.Frag} {f : Addr} {fdt : FuncData} (F : FunD K fd_k43_158.name fd_k43_158.name (defArgs (top 36)) (defBody (top 36)) (defScope (top 36)) [] [] f fdt) : Binds K fdt fd_k43_158.ps [] := F.bindsN fun _ _ _ _ _ _ us hl => match us, hl with | [_, _], _ => rfl
theorem bd_37 {K : PySem.W.Frag} {f : Addr} {fdt : FuncData} (F : FunD K fd_k43_152.name fd_k43_152.name (defArgs (top 37)) (defBody (top 37)) (defScope (top 37)) [] [] f fdt) : Binds K fdt fd_k43_152.ps [] := F.bindsN fun _ _ _ _ _ _ us hl => match us, hl with | [_, _, _], _ => rfl
theorem bds {K : PySem.W.Frag} : ∀ d ∈ ds_k43, ∀ (f : Addr) (fdt : FuncData), FunD K d.fd.name d.fd.name (defArgs (top d.pos)) (defBody (top d.pos)) (defScope (top d.pos)) [] [] f fdt → Binds K fdt d.fd.ps [] := by
  intro d hd
  simp only [ds_k43, List.mem_cons, List.not_mem_nil, or_false] at hd
  rcases hd with rfl | rfl | rfl | rfl | rfl | rfl | rfl | rfl | rfl | rfl | rfl | rfl | rfl | rfl | rfl | rfl | rfl | rfl | rfl | rfl | rfl | rfl | rfl
  · exact fun f fdt F => bd_6 F
  · exact fun f fdt F => bd_14 F
  · exact fun f fdt F => bd_15 F
  · exact fun f fdt F => bd_16 F
  · exact fun f fdt F => bd_17 F
  · exact fun f fdt F => bd_18 F
  · exact fun f fdt F => bd_19 F
  · exact fun f fdt F => bd_20 F
  · exact fun f fdt F => bd_22 F
  · exact fun f fdt F => bd_23 F
  · exact fun f fdt F => bd_24 F
  · exact fun f fdt F => bd_25 F
  · exact fun f fdt F => bd_27 F
  · exact fun f fdt F => bd_28 F
  · exact fun f fdt F => bd_29 F
  · exact fun f fdt F => bd_30 F
  · exact fun f fdt F => bd_31 F
  · exact fun f fdt F => bd_32 F
  · exact fun f fdt F => bd_33 F
  · exact fun f fdt F => bd_34 F
  · exact fun f fdt F => bd_35 F
  · exact fun f fdt F => bd_36 F
  · exact fun f fdt F => bd_37 F
theorem scL : FnScope fd_k43_law.N ["_law_script"] (defScope (top 38)) := ⟨rfl, rfl, rfl, by decide +kernel, rfl, by decide +kernel, by decide +kernel⟩
theorem chkL : lawChk (top 38) tb_k43 fd_k43_law 1 = true := by kernel_rfl
theorem facts (hlaw : LawT tb_k43 fd_k43_law 1 30) {P : Program} {w : World} {K : PySem.W.Frag} {h : Heap} {mg : Str → Option Value} {f : Addr} (X : K.In h) (G : h.Ns mainGlobals mg) (hfa : mg ("law" : Str) = some (.ref f)) (c0 : SaysT fa fn ts_k43 cs_k43 K) :
    ∃ fd : FuncData, (∀ (s : Shared) (v : Value), BindsTo s fd ⟨[v], []⟩ [("_law_script", v)]) ∧ ∀ base : Heap, K.In base → base.Ns mainGlobals mg → FnOk P w K mg base (L2.CX P w) 31 f fd ["_law_script"] (spLaw K) := by
  have c := c0.d
  have T := top_of (top := top) (gs := gs_k43) (ts := ts_k43) (cs := cs_k43) X G c c0.t c0.e chk rfl bds
  obtain ⟨fd, F⟩ := c.def_ 23 (d := dfOf top "law" 38) rfl
  have e := hfa.symm.trans (He.glo_ok X G (c.fact 55 (f := .glo "law") rfl))
  cases e
  have b := FunD.bindsA (ps := ["_law_script"]) F fun _ _ _ _ _ _ us hl => match us, hl with | [_], _ => rfl
  exact ⟨fd, fun s v => b s [v] rfl, fun base _ _ => law_fin (st := top 38) T F scL chkL hlaw⟩
end FRH
open PySem PySem.W PySem.Calls PyProof.Rows
theorem cw_head_k43 (hlaw : FR.LawT FR.tb_k43 FR.fd_k43_law 1 30) : PySem.Challenge.rw_fieldrounds_k43_whole_seen.Holds := by
  w_on; o_law
  refine HandSHeadRun.head_any (r := OpenLaw.row PySem.Challenge.rw_fieldrounds_k43_whole_seen) (q := view (OpenLaw.row PySem.Challenge.rw_fieldrounds_k43_whole_seen).prog [38]) (H := FRH.hk) (ob := FRH.ob) (M := 20000) (loose := FRH.loose) (d := HandSHeadRun.topDef (OpenLaw.row PySem.Challenge.rw_fieldrounds_k43_whole_seen).prog 38) (kwd := []) FRH.ob_eq
    (by kernel_rfl) (fun s => by kernel_rfl) FRH.run (by kernel_rfl) (by kernel_rfl) (by kernel_rfl) (by rfl) (by first | assumption | decide +kernel) (by decide +kernel) ⟨rfl, rfl, rfl, rfl, rfl, by decide +kernel⟩ ?hw ?hc
  case hw => w_witness2
  case hc =>
    refine FR.walk_w (l := PySem.Challenge.rw_fieldrounds_k43_whole_seen) (n := 63) (k := 31) (x := "_law_script") rfl (by decide) (by kernel_rfl) ⟨rfl, by decide, by decide⟩ ?F (Nat.le_refl _)
    intro w mg fa h Y G hmg0
    obtain ⟨K, KX, c⟩ := Y
    have hmg : mg ("law" : PySem.Str) = some (.ref fa) := by
      have e : (HandSHeadRun.topDef (OpenLaw.row PySem.Challenge.rw_fieldrounds_k43_whole_seen).prog 38).name = ("law" : PySem.Str) := by kernel_rfl
      rw [← e]
      exact hmg0
    obtain ⟨fd, hb, hF⟩ := FRH.facts hlaw (P := (PySem.Challenge.rw_fieldrounds_k43_whole_seen).prog) (w := w) KX G hmg c
    exact ⟨K, fd, KX, hb, hF⟩
theorem PySem.Challenge.cw_fieldrounds_k43_whole_seen_holds : PySem.Challenge.rw_fieldrounds_k43_whole_seen.Holds := by
  exact cw_head_k43 FR.law_k43
