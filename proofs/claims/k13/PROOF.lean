import PyProof.Rows.All
import Wide.All
import OpenK.AllK
import Wide.FinOn
import HandS.ForMost
import HandS.Deep
import HandS.TupAny
import HandS.TupMul
import HandS.Style
import HandS.IsInst
import HandS.ExcCtx
import HandS.ExcOwn
import HandS.ExcIs
import HandS.ExcValue
import HandS.HeadHook1
import HandS.HeadHook2
import HandS.SortRule
import PyProof.SliceList
import KE.DatumOrd
import KE.SortData
import HandS.Text
import HandS.FStr
import KE.KSortedM
import HandS.Conv
import PyProof.EnumMake
import PyProof.WalksEnum
import HandS.SetFor
import HandS.Strs
import HandS.NamedTupGet
import HandS.New
import HandS.Iter
import HandS.CallSlots
import KE.KStateDown
import HandS.Ends
import HandS.HeadEnd
import HandS.HeadHook4
import HandS.Words
import HandS.WordsExc
import HandS.Head0
import HandS.Head1
import HandS.Head2
import PySem.Challenge.RW_pixellines_k13_whole_strips
set_option Elab.async false
set_option linter.all false
set_option maxRecDepth 100000
set_option maxHeartbeats 0
section
/-! EvA: plain data, a small syntax, its evaluator. -/
namespace Ev
open PySem

/-- a value of the evaluator -/
inductive D where
  | p (d : PyData)
  | exc (c : Nat)
  | drw
  | stp
  | scr (a : Nat)
abbrev D.non : D := .p .none
abbrev D.bl (b : Bool) : D := .p (.bool b)
abbrev D.int (i : Int) : D := .p (.int i)
abbrev D.str (x : Str) : D := .p (.str x)
abbrev D.lst (xs : List PyData) : D := .p (.list xs)
abbrev D.tup (xs : List PyData) : D := .p (.tuple xs)

/-- what changes: the draws (numbers, counter); the strip (row, past) -/
structure W where
  dr : Option (List Int × Int)
  sp : Option (PyData × List PyData)
  scr : Option (Nat × List Int)

inductive Res (α : Type) where
  | ok (a : α) (w : W)
  | exc (c : Nat) (w : W)
  | stk

def Res.bind {α β : Type} (r : Res α) (f : α → W → Res β) : Res β :=
  match r with
  | .ok a w => f a w
  | .exc c w => .exc c w
  | .stk => .stk

def lif {α : Type} (o : Option α) (w : W) : Res α :=
  match o with
  | some a => .ok a w
  | none => .stk

def toB : D → Option Bool
  | .p (.bool b) => some b
  | _ => none
/-- an answer as a test's -/
def tst (r : Res D) : Res Bool := r.bind fun d w => lif (toB d) w

inductive Slot where
  | un
  | val (d : D)
  | own (xs : List PyData)

abbrev Env := List Slot

inductive BO where
  | add | sub | mul | fdiv | mod
  deriving DecidableEq
inductive CO where
  | eq | ne | lt | le | gt | ge | is_ | isn | in_ | nin
  deriving DecidableEq
inductive BF where
  | len | abs | min | max | sum | all | sorted | list | tuple | str | int
  deriving DecidableEq
inductive TyN where
  | int | bool | tuple | list | str | verr | cls (c : Nat)
  deriving DecidableEq
inductive MT where
  | one (i : Nat)
  | tup (is : List Nat)
  deriving DecidableEq

mutual
inductive ME (Fn : Type) where
  | var (i : Nat)
  | non
  | bl (b : Bool)
  | int (i : Int)
  | str (x : Str)
  | gint (x : Str) (i : Int)
  | gstr (x z : Str)
  | bin (op : BO) (a b : ME Fn)
  | neg (a : ME Fn)
  | not (a : ME Fn)
  | cmp (op : CO) (a b : ME Fn)
  | chain (op op' : CO) (a b c : ME Fn)
  | and (a b : ME Fn)
  | or (a b : ME Fn)
  | and1 (a : ME Fn)
  | or1 (a : ME Fn)
  | ite (c a b : ME Fn)
  | call (f : Fn) (es : MEs Fn)
  | call0 (f : Fn)
  | bcall (b : BF) (es : MEs Fn)
  | lenum (e : ME Fn)
  | lrng (a b : ME Fn)
  | isi (a : ME Fn) (t : TyN)
  | ix (a b : ME Fn)
  | sl (a : ME Fn) (lo hi : MO Fn)
  | slS (a : ME Fn) (lo : MO Fn) (st : ME Fn)
  | tup (es : MEs Fn)
  | lst (es : MEs Fn)
  | comp (elt : ME Fn) (tg : MT) (it : MI Fn) (vs : List Nat)
  | compIf (elt : ME Fn) (tg : MT) (it : MI Fn) (c : ME Fn) (vs : List Nat)
  | lenO (i : Nat)
  | ixO (i : Nat) (b : ME Fn)
  | ninO (a : ME Fn) (i : Nat)
  | index (a b : ME Fn)
  | sset (a : ME Fn)
  | fmt (a : ME Fn)
  | fstr (es : MEs Fn)
  | join (a b : ME Fn)
  | split (a b : ME Fn)
  | count (a b : ME Fn)
  | mkS (f : Fn)
  | meth (f : Fn) (i : Nat) (es : MEs Fn)
  | meth0 (f : Fn) (i : Nat)
  | srow (i : Nat)
  | noPast (i : Nat)
  | lenS (i : Nat)
  | neO (i : Nat)
inductive MEs (Fn : Type) where
  | nil
  | cons (e : ME Fn) (es : MEs Fn)
inductive MI (Fn : Type) where
  | seq (e : ME Fn)
  | range1 (a : ME Fn)
  | range2 (a b : ME Fn)
  | range3 (a b c : ME Fn)
  | enum (e : ME Fn)
  | zip (a b : ME Fn)
inductive MO (Fn : Type) where
  | non
  | some (e : ME Fn)
end

mutual
inductive MS (Fn : Type) where
  | set (i : Nat) (e : ME Fn)
  | setO (i : Nat) (e : ME Fn)
  | parO (i : Nat) (es : MEs Fn) (j : Nat) (k : Int)
  | par (is : List Nat) (es : MEs Fn)
  | unp (is : List Nat) (e : ME Fn)
  | aug (i : Nat) (op : BO) (e : ME Fn)
  | extO (i : Nat) (e : ME Fn)
  | app (i : Nat) (e : ME Fn)
  | stO (i : Nat) (j e : ME Fn)
  | ife (c : ME Fn) (a b : MB Fn)
  | for_ (tg : MT) (it : MI Fn) (b : MB Fn)
  | while_ (c : ME Fn) (b : MB Fn)
  | ret (e : ME Fn)
  | retN
  | expr (e : ME Fn)
  | raise (c : Nat)
  | try_ (b : MB Fn) (i j : Nat)
  | pass
  | setRow (i : Nat) (e : ME Fn)
  | appPast (i : Nat)
  | popPast (i : Nat)
  | ptsApp (i : Nat) (e : ME Fn)
  | popO (j i : Nat)
  | par3O (f : Fn) (i j k : Nat)
  | wild
inductive MB (Fn : Type) where
  | nil
  | cons (s : MS Fn) (b : MB Fn)
  | frz (i : Nat) (b : MB Fn)
end

/-! ### operations on data -/
def mulB (i j : Int) : Bool := decide ((-(2 ^ 64) < i ∧ i < 2 ^ 64) ∨ (-(2 ^ 64) < j ∧ j < 2 ^ 64))
def binD : BO → PyData → PyData → Option PyData
  | .add, .int i, .int j => some (.int (i + j))
  | .add, .str x, .str y => if x.length + y.length ≤ sizeLine then some (.str (x ++ y)) else none
  | .add, .list x, .list y => if x.length + y.length ≤ sizeLine then some (.list (x ++ y)) else none
  | .add, .tuple x, .tuple y => if x.length + y.length ≤ sizeLine then some (.tuple (x ++ y)) else none
  | .sub, .int i, .int j => some (.int (i - j))
  | .mul, .int i, .int j => if mulB i j = true then some (.int (i * j)) else none
  | .mul, .list x, .int k => if k < 2 ^ 62 ∧ -(2 ^ 62) < k ∧ x.length * k.toNat ≤ sizeLine then some (.list (List.replicate k.toNat x).flatten) else none
  | .mul, .tuple x, .int k => if x ≠ [] ∧ 2 ≤ k ∧ k ≤ 1000 ∧ x.length ≤ 1000 then some (.tuple (List.replicate k.toNat x).flatten) else none
  | .fdiv, .int i, .int j => if 0 < j ∧ j < 1073741824 then some (.int (i / j)) else none
  | .mod, .int i, .int j => if 0 < j then some (.int (i % j)) else none
  | _, _, _ => none
def intsOf : List PyData → Option (List Int)
  | [] => some []
  | .int i :: r => (intsOf r).map fun l => i :: l
  | _ :: _ => none
def boolsOf : List PyData → Option (List Bool)
  | [] => some []
  | .bool i :: r => (boolsOf r).map fun l => i :: l
  | _ :: _ => none
def shp (d : PyData) : Bool := SeqAt.shaped d
def lexLt : List Int → List Int → Bool := HT.lexLt
def cmpD : CO → PyData → PyData → Option Bool
  | .eq, d, e => if shp d = true ∧ shp e = true then some (PyData.eqv d e) else none
  | .ne, d, e => if shp d = true ∧ shp e = true then some (!PyData.eqv d e) else none
  | .lt, .int i, .int j => some (decide (i < j))
  | .lt, .tuple x, .tuple y => match intsOf x, intsOf y with
    | some a, some b => some (lexLt a b)
    | _, _ => none
  | .le, .int i, .int j => some (decide (i ≤ j))
  | .gt, .int i, .int j => some (decide (j < i))
  | .ge, .int i, .int j => some (decide (j ≤ i))
  | .is_, .bool a, .bool b => some (decide (a = b))
  | .isn, .bool a, .bool b => some (!decide (a = b))
  | .in_, d, .list xs => if shp d = true ∧ shp (.list xs) = true then some (xs.any fun z => PyData.eqv z d) else none
  | .nin, d, .list xs => if shp d = true ∧ shp (.list xs) = true then some (!xs.any fun z => PyData.eqv z d) else none
  | .in_, d, .tuple xs => if shp d = true ∧ shp (.tuple xs) = true then some (xs.any fun z => PyData.eqv z d) else none
  | .in_, .str x, .str y => match x.cps.toList with
    | [c] => some (decide (c ∈ y.cps.toList))
    | _ => none
  | .nin, d, .tuple xs => if shp d = true ∧ shp (.tuple xs) = true then some (!xs.any fun z => PyData.eqv z d) else none
  | _, _, _ => none
def D.isN : D → Bool
  | .p .none => true
  | _ => false
/-- with None on the right any value may be compared by identity -/
def cmpV : CO → D → D → Option D
  | .is_, d, .p .none => some (.bl d.isN)
  | .isn, d, .p .none => some (.bl !d.isN)
  | op, .p d, .p e => (cmpD op d e).map D.bl
  | _, _, _ => none
/-- the first place of an equal one -/
def idxP (d : PyData) : List PyData → Option Nat
  | [] => none
  | x :: r => if PyData.eqv x d = true then some 0 else (idxP d r).map fun k => k + 1
def idxV : D → D → Option D
  | .p (.list xs), .p d => if shp (.list xs) = true ∧ shp d = true then (idxP d xs).map fun k => .int ((k : Nat) : Int) else none
  | _, _ => none
def cntV : D → D → Option D
  | .p (.list xs), .p d => if shp (.list xs) = true ∧ shp d = true then some (.int ((xs.countP fun z => PyData.eqv z d : Nat) : Int)) else none
  | _, _ => none
def binV (op : BO) : D → D → Option D
  | .p d, .p e => (binD op d e).map D.p
  | _, _ => none
def negV : D → Option D
  | .p (.int i) => some (.int (-i))
  | _ => none
def notV : D → Option D
  | .p (.bool b) => some (.bl (!b))
  | _ => none
def ixD (a : PyData) (i : Int) : Option PyData :=
  match a with
  | .list xs => L2.atI xs i
  | .tuple xs => L2.atI xs i
  | .str z => if z.length ≤ 16000000 then (L2.atI z.cps.toList i).map fun c => .str ⟨#[c]⟩ else none
  | _ => none
def ixV : D → D → Option D
  | .p a, .p (.int i) => (ixD a i).map D.p
  | _, _ => none
def cutP (xs : List PyData) (lo hi : Option Int) : List PyData := (xs.drop (HT.sIx xs.length 0 lo)).take (HT.sIx xs.length xs.length hi - HT.sIx xs.length 0 lo)
def slD (a : PyData) (lo hi : Option Int) : Option PyData :=
  match a with
  | .list xs => some (.list (cutP xs lo hi))
  | .tuple xs => some (.tuple (cutP xs lo hi))
  | .str z => if z.length ≤ 16000000 then some (.str (L2.cutS z lo hi)) else none
  | _ => none
/-- xs[lo::st] -/
def pickI (n : Nat) (lo st : Option Int) : List Nat := sliceRange (sliceBounds lo none st n).1 (sliceBounds lo none st n).2.1 (sliceBounds lo none st n).2.2
def pickL {α : Type} (xs : List α) (lo st : Option Int) : List α := (pickI xs.length lo st).filterMap fun i => xs[i]?
def slSD (a : PyData) (lo : Option Int) (st : Int) : Option PyData :=
  match a with
  | .list xs => if st ≠ 0 ∧ (pickL xs lo (some st)).length ≤ 16000000 then some (.list (pickL xs lo (some st))) else none
  | .tuple xs => if lo = none ∧ st = -1 ∧ xs ≠ [] ∧ xs.length ≤ 16000000 then some (.tuple xs.reverse) else none
  | _ => none
def plains : List D → Option (List PyData)
  | [] => some []
  | .p d :: r => (plains r).map fun l => d :: l
  | _ :: _ => none
def maxI (x : Int) : List Int → Int
  | [] => x
  | y :: r => maxI (if x < y then y else x) r
def minI (x : Int) : List Int → Int
  | [] => x
  | y :: r => minI (if y < x then y else x) r
def insI (x : Int) : List Int → List Int
  | [] => [x]
  | y :: r => if x ≤ y then x :: y :: r else y :: insI x r
def sortI : List Int → List Int
  | [] => []
  | x :: r => insI x (sortI r)
def insP (x : Int × Int) : List (Int × Int) → List (Int × Int)
  | [] => [x]
  | y :: r => if decide (x.1 < y.1) || (decide (x.1 = y.1) && decide (x.2 ≤ y.2)) then x :: y :: r else y :: insP x r
def sortP : List (Int × Int) → List (Int × Int)
  | [] => []
  | x :: r => insP x (sortP r)
def pairsOf : List PyData → Option (List (Int × Int))
  | [] => some []
  | .tuple [.int i, .int j] :: r => (pairsOf r).map fun l => (i, j) :: l
  | _ :: _ => none
def ofPair (q : Int × Int) : PyData := .tuple [.int q.1, .int q.2]
/-- data that can be compared with one another -/
def alkB (xs : List PyData) : Bool := (xs.all fun x => xs.all fun y => PySem.W.alike x y) && xs.all fun x => match x with
  | .none => false
  | _ => true
def bestG (f : PyData → List PyData → PyData) : List PyData → Option PyData
  | x :: r => if shp (.list (x :: r)) = true ∧ alkB (x :: r) = true then some (f x r) else none
  | [] => none
/-- sorted of alike data -/
def sortG (xs : List PyData) : Option PyData :=
  if xs.length ≤ 1 then some (.list xs)
  else if shp (.list xs) = true ∧ alkB xs = true ∧ (xs.all fun d => match d with
      | .tuple (_ :: _) => true
      | _ => false) = true ∧ xs.length ≤ 16000000 then some (.list (xs.mergeSort (PySem.W.dataLe false id))) else none
def strsOf : List PyData → Option (List Str)
  | [] => some []
  | .str x :: r => (strsOf r).map fun l => x :: l
  | _ :: _ => none
/-- sorted(set(xs)) -/
def uniqI : List Int → List Int
  | [] => []
  | [x] => [x]
  | x :: y :: r => if x = y then uniqI (y :: r) else x :: uniqI (y :: r)
def ssetV : D → Option D
  | .p (.list xs) => (intsOf xs).bind fun l => if l.length < 64 then some (.lst ((uniqI (sortI l)).map PyData.int)) else none
  | _ => none
def fmtV : D → Option D
  | .p (.str y) => if y.length ≤ 1000 then some (.str y) else none
  | .p (.int i) => if i.natAbs.log2 < 1920 ∧ Str.length (toString i : String) ≤ 1000 then some (.str (toString i)) else none
  | _ => none
def catL (acc : Str) : List Str → Option Str
  | [] => some acc
  | y :: r => if (acc ++ y).length ≤ sizeLine then catL (acc ++ y) r else none
def fstrV (ds : List D) : Option D := ((plains ds).bind strsOf).bind fun l => (catL Str.empty l).map fun x => .str x
def joinV : D → D → Option D
  | .p (.str a), .p (.list xs) => (strsOf xs).bind fun ys => if (ys.map (·.length)).sum + ys.length * a.length ≤ 16777216 then some (.str (Txt.join a ys)) else none
  | _, _ => none
def splitV : D → D → Option D
  | .p (.str a), .p (.str b) => if (b.length == 0) = false ∧ a.length + 2 ≤ sizeLine then some (.lst ((Txt.split a b).map PyData.str)) else none
  | _, _ => none
def bD : BF → List PyData → Option PyData
  | .len, [.str x] => if x.length ≤ sizeLine then some (.int x.length) else none
  | .str, [.int i] => if i.natAbs.log2 < 1920 then some (.str (toString i)) else none
  | .int, [.str a] => if a.length ≤ 640 then (PySem.intText? a).map PyData.int else none
  | .len, [.list xs] => some (.int xs.length)
  | .len, [.tuple xs] => some (.int xs.length)
  | .abs, [.int i] => some (.int (if i < 0 then -i else i))
  | .min, [.int i, .int j] => some (.int (if j < i then j else i))
  | .max, [.int i, .int j] => some (.int (if i < j then j else i))
  | .min, [.list xs] => match intsOf xs with
    | some (x :: r) => some (.int (minI x r))
    | some [] => none
    | none => bestG PySem.W.minD xs
  | .max, [.list xs] => match intsOf xs with
    | some (x :: r) => some (.int (maxI x r))
    | some [] => none
    | none => bestG PySem.W.maxD xs
  | .sum, [.list xs] => (intsOf xs).map fun l => .int l.sum
  | .all, [.list xs] => (boolsOf xs).map fun l => .bool (l.all id)
  | .sorted, [.list xs] => match intsOf xs with
    | some l => if l.length < 64 then some (.list ((sortI l).map PyData.int)) else none
    | none => match pairsOf xs with
      | some l => some (.list ((sortP l).map ofPair))
      | none => sortG xs
  | .list, [.list xs] => some (.list xs)
  | .list, [.tuple xs] => some (.list xs)
  | .tuple, [.list xs] => some (.tuple xs)
  | .tuple, [.tuple xs] => some (.tuple xs)
  | _, _ => none
def bV (b : BF) (ds : List D) : Option D := (plains ds).bind fun l => (bD b l).map D.p
/-- the exceptions' numbers: 0 BadPoints, 1 BadRow, 2 BadLine, 3 BadNumber, 4 BadText, 5 NotStraight, 6 NotFound, 7 LineError -/
def isiV : D → TyN → Option Bool
  | .p .none, .cls _ => none
  | .p .none, _ => some false
  | .p (.bool _), .int => some true
  | .p (.bool _), .bool => some true
  | .p (.bool _), .cls _ => none
  | .p (.bool _), _ => some false
  | .p (.int _), .int => some true
  | .p (.int _), .cls _ => none
  | .p (.int _), _ => some false
  | .p (.str _), .str => some true
  | .p (.str _), .cls _ => none
  | .p (.str _), _ => some false
  | .p (.list _), .list => some true
  | .p (.list _), .cls _ => none
  | .p (.list _), _ => some false
  | .p (.tuple _), .tuple => some true
  | .p (.tuple _), .cls _ => none
  | .p (.tuple _), _ => some false
  | .exc c, .cls k => if c ≤ 6 then some (decide (k = 7) || decide (c = k)) else none
  | .exc c, .verr => if c ≤ 6 then some true else none
  | _, _ => none
def seqD : PyData → Option (List PyData)
  | .list xs => some xs
  | .tuple xs => some xs
  | .str x => some (x.cps.toList.map fun c => .str ⟨#[c]⟩)
  | _ => none
def seqV : D → Option (List PyData)
  | .p d => seqD d
  | _ => none
def rngL (lo : Int) : Nat → List PyData
  | 0 => []
  | n + 1 => .int lo :: rngL (lo + 1) n
def bigB (i : Int) : Bool := decide (-(2 ^ 62) ≤ i ∧ i < 2 ^ 62)
def rngD1 : D → Option (List PyData)
  | .p (.int j) => if bigB j = true then some (rngL 0 j.toNat) else none
  | _ => none
def rngD2 : D → D → Option (List PyData)
  | .p (.int i), .p (.int j) => if bigB i = true ∧ bigB j = true then some (rngL i (j - i).toNat) else none
  | _, _ => none
def rngDn (hi : Int) : Nat → List PyData
  | 0 => []
  | n + 1 => .int hi :: rngDn (hi - 1) n
/-- a step of -1 alone -/
def rngD3 : D → D → D → Option (List PyData)
  | .p (.int i), .p (.int j), .p (.int c) => if bigB i = true ∧ bigB j = true ∧ c = -1 then some (rngDn i (i - j).toNat) else none
  | _, _, _ => none
def enumL (n : Int) : List PyData → List PyData
  | [] => []
  | x :: r => .tuple [.int n, x] :: enumL (n + 1) r
def zipL : List PyData → List PyData → List PyData
  | x :: r, y :: q => .tuple [x, y] :: zipL r q
  | _, _ => []
def enumD (d : D) : Option (List PyData) := match d with
  | .p (.list xs) => some (enumL 0 xs)
  | _ => none
def zipD (d e : D) : Option (List PyData) := match d, e with
  | .p (.list xs), .p (.list ys) => some (zipL xs ys)
  | _, _ => none

def lenumV : D → Option D
  | .p (.list xs) => if xs.length ≤ 16000000 then some (.lst (enumL 0 xs)) else none
  | _ => none
def lrngV : D → D → Option D
  | .p (.int i), .p (.int j) => if bigB i = true ∧ bigB j = true ∧ (j - i).toNat ≤ 16000000 then some (.lst (rngL i (j - i).toNat)) else none
  | _, _ => none

/-! ### environments -/
def getV (ρ : Env) (i : Nat) : Option D :=
  match ρ[i]? with
  | some (.val d) => some d
  | _ => none
def getO (ρ : Env) (i : Nat) : Option (List PyData) :=
  match ρ[i]? with
  | some (.own d) => some d
  | _ => none
def setV (ρ : Env) (i : Nat) (d : D) : Env := ρ.set i (.val d)
def setVs (ρ : Env) : List Nat → List PyData → Option Env
  | [], [] => some ρ
  | i :: is, d :: ds => setVs (setV ρ i (.p d)) is ds
  | _, _ => none
def setDs (ρ : Env) : List Nat → List D → Option Env
  | [], [] => some ρ
  | i :: is, d :: ds => setDs (setV ρ i d) is ds
  | _, _ => none
def tgt (ρ : Env) (t : MT) (d : PyData) : Option Env :=
  match t, d with
  | .one i, d => some (setV ρ i (.p d))
  | .tup is, .tuple ds => setVs ρ is ds
  | _, _ => none
def wipeE (ρ : Env) : List Nat → Env
  | [] => ρ
  | v :: vs => (wipeE ρ vs).set v .un
def noOwn (ρ : Env) : Env := ρ.map fun s => match s with
  | .own _ => .un
  | s => s
def sizeOk (n : Nat) : Bool := decide (n ≤ 16000000)

/-- one list out of the items; an exception within is not carried -/
def compGo (step : Env → W → Res (Option PyData)) (ρ : Env) (t : MT) : List PyData → W → Res (List PyData)
  | [], w => .ok [] w
  | x :: xs, w =>
    match tgt ρ t x with
    | none => .stk
    | some ρ' =>
      match step ρ' w with
      | .ok (some y) w1 => (match compGo step ρ t xs w1 with
        | .ok ys w2 => .ok (y :: ys) w2
        | _ => .stk)
      | .ok none w1 => compGo step ρ t xs w1
      | _ => .stk

def plainR (r : Res D) : Res (Option PyData) :=
  match r with
  | .ok (.p d) w => .ok (some d) w
  | _ => .stk

section
variable {Fn : Type} (φ : Fn → List D → W → Res D)
mutual
def evE (ρ : Env) : ME Fn → W → Res D
  | .var i, w => lif (getV ρ i) w
  | .non, w => .ok .non w
  | .bl b, w => .ok (.bl b) w
  | .int i, w => .ok (.int i) w
  | .str x, w => .ok (.str x) w
  | .gint _ i, w => .ok (.int i) w
  | .gstr _ z, w => .ok (.str z) w
  | .bin op a b, w => (evE ρ a w).bind fun x w1 => (evE ρ b w1).bind fun y w2 => lif (binV op x y) w2
  | .neg a, w => (evE ρ a w).bind fun x w1 => lif (negV x) w1
  | .not a, w => (evE ρ a w).bind fun x w1 => lif (notV x) w1
  | .cmp op a b, w => (evE ρ a w).bind fun x w1 => (evE ρ b w1).bind fun y w2 => lif (cmpV op x y) w2
  | .chain op op' a b c, w => (evE ρ a w).bind fun x w1 => (evE ρ b w1).bind fun y w2 => (lif ((cmpV op x y).bind toB) w2).bind fun t w3 =>
      match t with
      | true => (evE ρ c w3).bind fun z w4 => lif (cmpV op' y z) w4
      | false => .ok (.bl false) w3
  | .and a b, w => (tst (evE ρ a w)).bind fun t w1 =>
      match t with
      | true => evE ρ b w1
      | false => .ok (.bl false) w1
  | .or a b, w => (tst (evE ρ a w)).bind fun t w1 =>
      match t with
      | true => .ok (.bl true) w1
      | false => evE ρ b w1
  | .and1 a, w => evE ρ a w
  | .or1 a, w => evE ρ a w
  | .ite c a b, w => (tst (evE ρ c w)).bind fun t w1 =>
      match t with
      | true => evE ρ a w1
      | false => evE ρ b w1
  | .call f es, w => (evEs ρ es w).bind fun ds w1 => φ f ds w1
  | .call0 f, w => φ f [] w
  | .bcall b es, w => (evEs ρ es w).bind fun ds w1 => lif (bV b ds) w1
  | .lenum e, w => (evE ρ e w).bind fun x w1 => lif (lenumV x) w1
  | .lrng a b, w => (evE ρ a w).bind fun x w1 => (evE ρ b w1).bind fun y w2 => lif (lrngV x y) w2
  | .isi a t, w => (evE ρ a w).bind fun x w1 => lif ((isiV x t).map D.bl) w1
  | .ix a b, w => (evE ρ a w).bind fun x w1 => (evE ρ b w1).bind fun y w2 => lif (ixV x y) w2
  | .sl a lo hi, w => (evE ρ a w).bind fun x w1 => (evO ρ lo w1).bind fun l w2 => (evO ρ hi w2).bind fun h w3 =>
      match x with
      | .p d => lif ((slD d l h).map D.p) w3
      | _ => .stk
  | .slS a lo st, w => (evE ρ a w).bind fun x w1 => (evO ρ lo w1).bind fun l w2 => (evE ρ st w2).bind fun h w3 =>
      match x, h with
      | .p d, .p (.int k) => lif ((slSD d l k).map D.p) w3
      | _, _ => .stk
  | .tup es, w => (evEs ρ es w).bind fun ds w1 => lif ((plains ds).map D.tup) w1
  | .lst es, w => (evEs ρ es w).bind fun ds w1 => lif ((plains ds).map D.lst) w1
  | .comp elt t it vs, w => (evI ρ it w).bind fun xs w1 =>
      if sizeOk xs.length = true then (compGo (fun ρ' w' => plainR (evE ρ' elt w')) (wipeE (noOwn ρ) vs) t xs w1).bind fun ys w2 => .ok (.lst ys) w2 else .stk
  | .compIf elt t it c vs, w => (evI ρ it w).bind fun xs w1 =>
      if sizeOk xs.length = true then (compGo (fun ρ' w' => (tst (evE ρ' c w')).bind fun b w'' => match b with
        | true => plainR (evE ρ' elt w'')
        | false => .ok none w'') (wipeE (noOwn ρ) vs) t xs w1).bind fun ys w2 => .ok (.lst ys) w2 else .stk
  | .lenO i, w => lif ((getO ρ i).map fun l => .int l.length) w
  | .ixO i b, w => match getO ρ i with
      | some l => (evE ρ b w).bind fun y w1 => match y with
        | .p (.int k) => lif ((L2.atI l k).map D.p) w1
        | _ => .stk
      | none => .stk
  | .ninO a i, w => (evE ρ a w).bind fun x w1 => match getO ρ i, x with
      | some l, .p d => lif ((cmpD .nin d (.list l)).map D.bl) w1
      | _, _ => .stk
  | .sset a, w => (evE ρ a w).bind fun x w1 => lif (ssetV x) w1
  | .fmt a, w => (evE ρ a w).bind fun x w1 => lif (fmtV x) w1
  | .fstr es, w => (evEs ρ es w).bind fun ds w1 => lif (fstrV ds) w1
  | .join a b, w => (evE ρ a w).bind fun x w1 => match x with
      | .p (.str _) => (evE ρ b w1).bind fun y w2 => lif (joinV x y) w2
      | _ => .stk
  | .split a b, w => (evE ρ a w).bind fun x w1 => match x with
      | .p (.str _) => (evE ρ b w1).bind fun y w2 => lif (splitV x y) w2
      | _ => .stk
  | .index a b, w => (evE ρ a w).bind fun x w1 => match x with
      | .p (.list xs) => (evE ρ b w1).bind fun y w2 => lif (idxV (.lst xs) y) w2
      | _ => .stk
  | .count a b, w => (evE ρ a w).bind fun x w1 => match x with
      | .p (.list xs) => (evE ρ b w1).bind fun y w2 => lif (cntV (.lst xs) y) w2
      | _ => .stk
  | .mkS f, w => φ f [] w
  | .meth f i es, w => match getV ρ i with
      | some .stp => (evEs ρ es w).bind fun ds w1 => φ f (.stp :: ds) w1
      | _ => .stk
  | .meth0 f i, w => match getV ρ i with
      | some .stp => φ f [.stp] w
      | _ => .stk
  | .srow i, w => match getV ρ i, w.sp with
      | some .stp, some (row, _) => .ok (.p row) w
      | _, _ => .stk
  | .noPast i, w => match getV ρ i, w.sp with
      | some .stp, some (_, past) => lif ((cmpD .eq (.list past) (.list [])).map D.bl) w
      | _, _ => .stk
  | .lenS i, w => match getV ρ i, w.sp with
      | some .stp, some (.list xs, _) => if sizeOk xs.length = true then .ok (.int xs.length) w else .stk
      | _, _ => .stk
  | .neO i, w => match getO ρ i with
      | some xs => lif ((cmpD .ne (.list xs) (.list [])).map D.bl) w
      | none => .stk
def evEs (ρ : Env) : MEs Fn → W → Res (List D)
  | .nil, w => .ok [] w
  | .cons e es, w => (evE ρ e w).bind fun x w1 => (evEs ρ es w1).bind fun xs w2 => .ok (x :: xs) w2
def evI (ρ : Env) : MI Fn → W → Res (List PyData)
  | .seq e, w => (evE ρ e w).bind fun x w1 => lif (seqV x) w1
  | .range1 a, w => (evE ρ a w).bind fun x w1 => lif (rngD1 x) w1
  | .range2 a b, w => (evE ρ a w).bind fun x w1 => (evE ρ b w1).bind fun y w2 => lif (rngD2 x y) w2
  | .range3 a b c, w => (evE ρ a w).bind fun x w1 => (evE ρ b w1).bind fun y w2 => (evE ρ c w2).bind fun z w3 => lif (rngD3 x y z) w3
  | .enum e, w => (evE ρ e w).bind fun x w1 => lif (enumD x) w1
  | .zip a b, w => (evE ρ a w).bind fun x w1 => (evE ρ b w1).bind fun y w2 => lif (zipD x y) w2
def evO (ρ : Env) : MO Fn → W → Res (Option Int)
  | .non, w => .ok none w
  | .some e, w => (evE ρ e w).bind fun x w1 => match x with
      | .p (.int i) => .ok (some i) w1
      | _ => .stk
end

/-- how a statement ends -/
inductive Out where
  | next (ρ : Env) (w : W)
  | ret (d : D) (w : W)
  | brk (ρ : Env) (w : W)
  | cont (ρ : Env) (w : W)
  | exc (c : Nat) (ρ : Env) (w : W)
  | stk

/-- what follows an expression in a statement -/
def Res.toO {α : Type} (r : Res α) (ρ : Env) (f : α → W → Out) : Out :=
  match r with
  | .ok a w => f a w
  | .exc c w => .exc c ρ w
  | .stk => .stk
def Out.bind (o : Out) (f : Env → W → Out) : Out :=
  match o with
  | .next ρ w => f ρ w
  | o => o
def nxtO (o : Option Env) (w : W) : Out :=
  match o with
  | some ρ => .next ρ w
  | none => .stk
/-- the loop of a for -/
def forGo (body : Env → W → Out) (t : MT) : List PyData → Env → W → Out
  | [], ρ, w => .next ρ w
  | x :: xs, ρ, w =>
    match tgt ρ t x with
    | none => .stk
    | some ρ' =>
      match body ρ' w with
      | .next ρ1 w1 => forGo body t xs ρ1 w1
      | .cont ρ1 w1 => forGo body t xs ρ1 w1
      | .brk ρ1 w1 => .next ρ1 w1
      | o => o
/-- the loop of a while; at most so many turns -/
def whileGo (test : Env → W → Res D) (body : Env → W → Out) : Nat → Env → W → Out
  | 0, _, _ => .stk
  | n + 1, ρ, w => (tst (test ρ w)).toO ρ fun b w1 =>
    match b with
    | false => .next ρ w1
    | true => (match body ρ w1 with
      | .next ρ2 w2 => whileGo test body n ρ2 w2
      | .cont ρ2 w2 => whileGo test body n ρ2 w2
      | .brk ρ2 w2 => .next ρ2 w2
      | o => o)
def whileMost : Nat := 1000000
mutual
def evS (ρ : Env) : MS Fn → W → Out
  | .set i e, w => (evE φ ρ e w).toO ρ fun d w1 => .next (setV ρ i d) w1
  | .setO i e, w => (evE φ ρ e w).toO ρ fun d w1 => match d with
      | .p (.list xs) => .next (ρ.set i (.own xs)) w1
      | _ => .stk
  | .parO i es j k, w => (evE φ ρ (.lst es) w).toO ρ fun d w1 => match d with
      | .p (.list xs) => .next (setV (ρ.set i (.own xs)) j (.int k)) w1
      | _ => .stk
  | .par is es, w => (evEs φ ρ es w).toO ρ fun ds w1 => nxtO (setDs ρ is ds) w1
  | .unp is e, w => (evE φ ρ e w).toO ρ fun d w1 => match d with
      | .p (.tuple ds) => nxtO (setVs ρ is ds) w1
      | _ => .stk
  | .aug i op e, w => match getV ρ i with
      | some (.p (.int x)) => (evE φ ρ e w).toO ρ fun d w1 => match d with
        | .p (.int y) => (match binD op (.int x) (.int y) with
          | some z => .next (setV ρ i (.p z)) w1
          | none => .stk)
        | _ => .stk
      | _ => .stk
  | .extO i e, w => match getO ρ i with
      | some xs => (evE φ ρ e w).toO ρ fun d w1 => match d with
        | .p (.list ys) => if sizeOk (xs.length + ys.length) = true then .next (ρ.set i (.own (xs ++ ys))) w1 else .stk
        | _ => .stk
      | none => .stk
  | .app i e, w => match getO ρ i with
      | some xs => (evE φ ρ e w).toO ρ fun d w1 => match d with
        | .p y => if sizeOk xs.length = true then .next (ρ.set i (.own (xs ++ [y]))) w1 else .stk
        | _ => .stk
      | none => .stk
  | .stO i j e, w => match getO ρ i with
      | some xs => (evE φ ρ e w).toO ρ fun d w1 => (evE φ ρ j w1).toO ρ fun k w2 => match d, k with
        | .p y, .p (.int k) => (match L2.ixN xs.length k with
          | some n => .next (ρ.set i (.own (xs.set n y))) w2
          | none => .stk)
        | _, _ => .stk
      | none => .stk
  | .ife c a b, w => (tst (evE φ ρ c w)).toO ρ fun t w1 => match t with
      | true => evB ρ a w1
      | false => evB ρ b w1
  | .for_ t it b, w => (evI φ ρ it w).toO ρ fun xs w1 => forGo (fun ρ' w' => evB ρ' b w') t xs ρ w1
  | .while_ c b, w => whileGo (fun ρ' w' => evE φ ρ' c w') (fun ρ' w' => evB ρ' b w') whileMost ρ w
  | .ret e, w => (evE φ ρ e w).toO ρ fun d w1 => .ret d w1
  | .retN, w => .ret .non w
  | .expr e, w => (evE φ ρ e w).toO ρ fun _ w1 => .next ρ w1
  | .raise c, w => .exc c ρ w
  | .try_ b i j, w => match evB ρ b w with
      | .exc c ρ' w' => if c ≤ 6 ∧ j < ρ'.length then .next ((setV ρ' i (.exc c)).set j .un) w' else .stk
      | o => o
  | .pass, w => .next ρ w
  | .setRow i e, w => (evE φ ρ e w).toO ρ fun d w1 => match d, getV ρ i, w1.sp with
      | .p (.list xs), some .stp, some (_, past) => .next ρ ⟨w1.dr, some (.list xs, past), w1.scr⟩
      | _, _, _ => .stk
  | .appPast i, w => match getV ρ i, w.sp with
      | some .stp, some (row, past) => if sizeOk past.length = true then .next ρ ⟨w.dr, some (row, past ++ [row]), w.scr⟩ else .stk
      | _, _ => .stk
  | .popPast i, w => match getV ρ i, w.sp with
      | some .stp, some (_, past) => (match past[past.length - 1]? with
        | some (.list r) => .next ρ ⟨w.dr, some (.list r, past.dropLast), w.scr⟩
        | _ => .stk)
      | _, _ => .stk
  | .ptsApp i e, w => match getV ρ i, w.sp with
      | some .stp, some (.list xs, _) => if sizeOk xs.length = true then (evE φ ρ e w).toO ρ fun d w1 => match d with
        | .p _ => .next ρ w1
        | _ => .stk else .stk
      | _, _ => .stk
  | .popO j i, w => match getO ρ i, getV ρ j with
      | some xs, some d => if shp (.list xs) = true ∧ shp (.list []) = true then (match xs[xs.length - 1]? with
        | some r => .next (setV (ρ.set i (.own xs.dropLast)) j (.p r)) w
        | none => .next (setV ρ j d) w) else .stk
      | _, _ => .stk
  | .par3O f i j k, w => (φ f [] w).toO ρ fun d w1 => .next ((setV (setV ρ i d) j (.lst [])).set k (.own [])) w1
  | .wild, _ => .stk
def evB (ρ : Env) : MB Fn → W → Out
  | .nil, w => .next ρ w
  | .cons s b, w => (evS ρ s w).bind fun ρ1 w1 => evB ρ1 b w1
  | .frz i b, w => match getO ρ i with
      | some xs => evB (setV ρ i (.lst xs)) b w
      | none => .stk
end
end

/-- a def: how many parameters, how many names, its body -/
structure FDef (Fn : Type) where
  np : Nat
  nn : Nat
  body : MB Fn

def runD {Fn : Type} (φ : Fn → List D → W → Res D) (d : FDef Fn) (ds : List D) (w : W) : Res D :=
  if ds.length = d.np ∧ d.np ≤ d.nn then
    match evB φ (ds.map Slot.val ++ List.replicate (d.nn - ds.length) .un) d.body w with
    | .next _ w1 => .ok .non w1
    | .ret x w1 => .ok x w1
    | .exc c _ w1 => .exc c w1
    | _ => .stk
  else .stk
end Ev

end

section
/-! EvB: how data lie in the heap; the operators. -/
namespace Ev
open PySem PySem.Spec PyProof.Rows L2

inductive GO where
  | tup (xs : List V)
  | lst (xs : List V)
  | exc (c : Nat)
  | drw
  | stp
  | resD
  | resS
  | resX
abbrev GH := Addr → Option GO
def updG (S : GH) (a : Addr) (o : GO) : GH := fun b => if b = a then some o else S b
theorem updG_same {S : GH} {a : Addr} {o : GO} : updG S a o a = some o := by unfold updG; rw [if_pos rfl]
theorem updG_ne {S : GH} {a b : Addr} {o : GO} (h : b ≠ a) : updG S a o b = S b := by unfold updG; rw [if_neg h]

mutual
inductive Rp (S : GH) : PyData → V → Prop
  | non : Rp S .none .non
  | bl (b : Bool) : Rp S (.bool b) (.bl b)
  | int (i : Int) : Rp S (.int i) (.int i)
  | str (x : Str) : Rp S (.str x) (.str x)
  | lst {a : Addr} {xs : List V} {ds : List PyData} : S a = some (.lst xs) → Rps S ds xs → Rp S (.list ds) (.ref a)
  | tup {a : Addr} {xs : List V} {ds : List PyData} : S a = some (.tup xs) → Rps S ds xs → Rp S (.tuple ds) (.ref a)
inductive Rps (S : GH) : List PyData → List V → Prop
  | nil : Rps S [] []
  | cons {d : PyData} {ds : List PyData} {v : V} {vs : List V} : Rp S d v → Rps S ds vs → Rps S (d :: ds) (v :: vs)
end
def RD (S : GH) : D → V → Prop
  | .p d, v => Rp S d v
  | .exc c, v => ∃ a, v = .ref a ∧ S a = some (.exc c)
  | .drw, v => ∃ a, v = .ref a ∧ S a = some .drw
  | .stp, v => ∃ a, v = .ref a ∧ S a = some .stp
  | .scr a, v => v = .ref a
inductive RDs (S : GH) : List D → List V → Prop
  | nil : RDs S [] []
  | cons {d : D} {ds : List D} {v : V} {vs : List V} : RD S d v → RDs S ds vs → RDs S (d :: ds) (v :: vs)

abbrev LeG (S S' : GH) : Prop := ∀ a o, S a = some o → S' a = some o
mutual
theorem Rp.mono {S S' : GH} (l : LeG S S') : ∀ {d : PyData} {v : V}, Rp S d v → Rp S' d v
  | .none, _, .non => .non
  | .bool _, _, .bl b => .bl b
  | .int _, _, .int i => .int i
  | .str _, _, .str x => .str x
  | .list _, _, .lst h r => .lst (l _ _ h) (Rps.mono l r)
  | .tuple _, _, .tup h r => .tup (l _ _ h) (Rps.mono l r)
theorem Rps.mono {S S' : GH} (l : LeG S S') : ∀ {ds : List PyData} {vs : List V}, Rps S ds vs → Rps S' ds vs
  | [], _, .nil => .nil
  | _ :: _, _, .cons h r => .cons (Rp.mono l h) (Rps.mono l r)
end
theorem RD.mono {S S' : GH} (l : LeG S S') : ∀ {d : D} {v : V}, RD S d v → RD S' d v
  | .p _, _, h => Rp.mono l h
  | .exc _, _, ⟨a, e, h⟩ => ⟨a, e, l _ _ h⟩
  | .drw, _, ⟨a, e, h⟩ => ⟨a, e, l _ _ h⟩
  | .stp, _, ⟨a, e, h⟩ => ⟨a, e, l _ _ h⟩
  | .scr _, _, h => h
theorem RDs.mono {S S' : GH} (l : LeG S S') : ∀ {ds : List D} {vs : List V}, RDs S ds vs → RDs S' ds vs
  | [], _, .nil => .nil
  | _ :: _, _, .cons h r => .cons (RD.mono l h) (RDs.mono l r)
theorem Rps.length {S : GH} : ∀ {ds : List PyData} {vs : List V}, Rps S ds vs → vs.length = ds.length
  | [], _, .nil => rfl
  | _ :: _, _, .cons _ r => by rw [List.length_cons, List.length_cons, Rps.length r]
theorem RDs.length {S : GH} : ∀ {ds : List D} {vs : List V}, RDs S ds vs → vs.length = ds.length
  | [], _, .nil => rfl
  | _ :: _, _, .cons _ r => by rw [List.length_cons, List.length_cons, RDs.length r]
theorem Rps.append {S : GH} : ∀ {ds es : List PyData} {vs us : List V}, Rps S ds vs → Rps S es us → Rps S (ds ++ es) (vs ++ us)
  | [], _, _, _, .nil, q => q
  | _ :: _, _, _, _, .cons h r, q => .cons h (Rps.append r q)
theorem Rps.take {S : GH} : ∀ (n : Nat) {ds : List PyData} {vs : List V}, Rps S ds vs → Rps S (ds.take n) (vs.take n)
  | 0, _, _, _ => .nil
  | _ + 1, [], _, .nil => .nil
  | n + 1, _ :: _, _, .cons h r => .cons h (Rps.take n r)
theorem Rps.drop {S : GH} : ∀ (n : Nat) {ds : List PyData} {vs : List V}, Rps S ds vs → Rps S (ds.drop n) (vs.drop n)
  | 0, _, _, h => h
  | _ + 1, [], _, .nil => .nil
  | n + 1, _ :: _, _, .cons _ r => Rps.drop n r
theorem Rps.get {S : GH} : ∀ {ds : List PyData} {vs : List V} {i : Nat} {d : PyData}, Rps S ds vs → ds[i]? = some d → ∃ v, vs[i]? = some v ∧ Rp S d v
  | [], _, _, _, .nil, e => by simp at e
  | _ :: _, _, 0, _, .cons h r, e => by
    have e : _ = _ := Option.some.inj e
    subst e
    exact ⟨_, rfl, h⟩
  | _ :: _, _, i + 1, _, .cons h r, e => Rps.get (i := i) r e
theorem Rps.get' {S : GH} : ∀ {ds : List PyData} {vs : List V} {i : Nat} {v : V}, Rps S ds vs → vs[i]? = some v → ∃ d, ds[i]? = some d ∧ Rp S d v
  | [], _, _, _, .nil, e => by simp at e
  | _ :: _, _, 0, _, .cons h r, e => by
    have e : _ = _ := Option.some.inj e
    subst e
    exact ⟨_, rfl, h⟩
  | _ :: _, _, i + 1, _, .cons h r, e => Rps.get' (i := i) r e
theorem Rps.set {S : GH} {x : PyData} {u : V} (h : Rp S x u) : ∀ (n : Nat) {ds : List PyData} {vs : List V}, Rps S ds vs → Rps S (ds.set n x) (vs.set n u)
  | _, [], _, .nil => .nil
  | 0, _ :: _, _, .cons _ r => .cons h r
  | n + 1, _ :: _, _, .cons k r => .cons k (Rps.set h n r)
theorem Rps.rep {S : GH} {ds : List PyData} {vs : List V} (r : Rps S ds vs) : ∀ k : Nat, Rps S (List.replicate k ds).flatten (List.replicate k vs).flatten
  | 0 => .nil
  | k + 1 => by
    rw [List.replicate_succ, List.replicate_succ, List.flatten_cons, List.flatten_cons]
    exact r.append (Rps.rep r k)
theorem Rps.reverse {S : GH} : ∀ {ds : List PyData} {vs : List V}, Rps S ds vs → Rps S ds.reverse vs.reverse
  | [], _, .nil => .nil
  | _ :: _, _, .cons h r => by
    rw [List.reverse_cons, List.reverse_cons]
    exact (Rps.reverse r).append (.cons h .nil)
theorem Rps.dropLast {S : GH} {ds : List PyData} {vs : List V} (r : Rps S ds vs) : Rps S ds.dropLast vs.dropLast := by
  rw [List.dropLast_eq_take, List.dropLast_eq_take, r.length]
  exact r.take _
theorem Rps.ints {S : GH} : ∀ {ds : List PyData} {vs : List V} {l : List Int}, Rps S ds vs → intsOf ds = some l → vs = l.map V.int
  | [], _, _, .nil, e => by
    have e : _ = _ := Option.some.inj e
    subst e
    rfl
  | .int i :: r, _, l, .cons h q, e => by
    unfold intsOf at e
    obtain ⟨l', e', rfl⟩ := Option.map_eq_some_iff.mp e
    cases h
    rw [Rps.ints q e', List.map_cons]
  | .none :: _, _, _, _, e => by simp [intsOf] at e
  | .bool _ :: _, _, _, _, e => by simp [intsOf] at e
  | .str _ :: _, _, _, _, e => by simp [intsOf] at e
  | .list _ :: _, _, _, _, e => by simp [intsOf] at e
  | .tuple _ :: _, _, _, _, e => by simp [intsOf] at e
  | .dict _ :: _, _, _, _, e => by simp [intsOf] at e
theorem Rps.bools {S : GH} : ∀ {ds : List PyData} {vs : List V} {l : List Bool}, Rps S ds vs → boolsOf ds = some l → vs = l.map V.bl
  | [], _, _, .nil, e => by
    have e : _ = _ := Option.some.inj e
    subst e
    rfl
  | .bool i :: r, _, l, .cons h q, e => by
    unfold boolsOf at e
    obtain ⟨l', e', rfl⟩ := Option.map_eq_some_iff.mp e
    cases h
    rw [Rps.bools q e', List.map_cons]
  | .none :: _, _, _, _, e => by simp [boolsOf] at e
  | .int _ :: _, _, _, _, e => by simp [boolsOf] at e
  | .str _ :: _, _, _, _, e => by simp [boolsOf] at e
  | .list _ :: _, _, _, _, e => by simp [boolsOf] at e
  | .tuple _ :: _, _, _, _, e => by simp [boolsOf] at e
  | .dict _ :: _, _, _, _, e => by simp [boolsOf] at e
theorem Rps.ofInts {S : GH} : ∀ l : List Int, Rps S (l.map PyData.int) (l.map V.int)
  | [] => .nil
  | i :: r => .cons (.int i) (Rps.ofInts r)
theorem RDs.plains {S : GH} : ∀ {ds : List D} {vs : List V} {l : List PyData}, RDs S ds vs → plains ds = some l → Rps S l vs
  | [], _, _, .nil, e => by
    have e : _ = _ := Option.some.inj e
    subst e
    exact .nil
  | .p d :: r, _, l, .cons h q, e => by
    unfold Ev.plains at e
    obtain ⟨l', e', rfl⟩ := Option.map_eq_some_iff.mp e
    exact .cons h (RDs.plains q e')
  | .exc _ :: _, _, _, _, e => by simp [Ev.plains] at e
  | .drw :: _, _, _, _, e => by simp [Ev.plains] at e
  | .stp :: _, _, _, _, e => by simp [Ev.plains] at e
  | .scr _ :: _, _, _, _, e => by simp [Ev.plains] at e

/-! ### the exceptions -/
def excN : Nat → Str
  | 0 => "BadPoints"
  | 1 => "BadRow"
  | 2 => "BadLine"
  | 3 => "BadNumber"
  | 4 => "BadText"
  | 5 => "NotStraight"
  | 6 => "NotFound"
  | _ => "LineError"
abbrev excA (K : PySem.W.Frag) (c : Nat) : Addr := He.ga K (excN c)
def ExX (C a : Addr) : HO := .ext fun h => ∃ (oe : Obj) (vs : Array Value), h.get? a = some oe ∧ Zc (.ref C) none oe ∧ oe.data = .fields vs

/-! ### what the evaluator's state says of the heap -/
def GOk (K : PySem.W.Frag) (S : GH) (H : Hp) (w : W) (a : Addr) : GO → Prop
  | .tup xs => H a = some (.tup xs)
  | .lst xs => H a = some (.lst xs)
  | .exc c => H a = some (ExX (excA K c) a)
  | .drw => ∃ m ns c, w.dr = some (ns, c) ∧ H a = some (.lst [.ref m, .int c]) ∧ S m = some .resD ∧ H m = some (.lst (ns.map V.int))
  | .stp => ∃ row past r p dx xs, w.sp = some (row, past) ∧ H a = some (.ins (He.ga K "Strip") dx [("row", .ref r), ("past", .ref p)]) ∧ Rp S row (.ref r) ∧ S p = some .resS ∧ H p = some (.lst xs) ∧ Rps S past xs ∧
      S dx = some .resX
  | .resD => ∃ o, H a = some o
  | .resS => ∃ o, H a = some o
  | .resX => ∃ o, H a = some o
/-- the script: in the written part, or locked -/
def ScrOk (K : PySem.W.Frag) (S : GH) (H : Hp) (a : Addr) (xs : List V) : Prop :=
  (∃ (o : Obj) (its : Array Value) (n : Nat), K.lookup a = some o ∧ o.cls = .type "list" ∧ o.dict = none ∧ o.data = .seq its n ∧ its.size ≤ sizeLine ∧ Vals xs its.toList) ∨ (S a = none ∧ ∃ o, H a = some (.frz o (.lst xs)))
theorem ScrOk.sq {K : PySem.W.Frag} {S : GH} {H : Hp} {a : Addr} {xs : List V} (h : ScrOk K S H a xs) : SqL K H a xs := by
  rcases h with h | ⟨_, o, h⟩
  · exact .inr h
  · exact .inl (.inr ⟨o, h⟩)
structure Sub (K : PySem.W.Frag) (S : GH) (H : Hp) (w : W) : Prop where
  ok : ∀ a o, S a = some o → GOk K S H w a o
  one : ∀ a b, S a = some .drw → S b = some .drw → a = b
  oneS : ∀ a b, S a = some .stp → S b = some .stp → a = b
  scr : ∀ a ns, w.scr = some (a, ns) → ScrOk K S H a (ns.map V.int)
structure Nxt (S : GH) (H : Hp) (S' : GH) (H' : Hp) : Prop where
  s : LeG S S'
  k : ∀ b o, S b = none → H b = some o → H' b = some o ∧ S' b = none
theorem Nxt.refl (S : GH) (H : Hp) : Nxt S H S H := ⟨fun _ _ h => h, fun _ _ n h => ⟨h, n⟩⟩
theorem Nxt.trans {S S1 S2 : GH} {H H1 H2 : Hp} (a : Nxt S H S1 H1) (b : Nxt S1 H1 S2 H2) : Nxt S H S2 H2 :=
  ⟨fun c o h => b.s c o (a.s c o h), fun c o n h => let ⟨h1, n1⟩ := a.k c o n h; b.k c o n1 h1⟩
section
variable {K : PySem.W.Frag} {S S' : GH} {H H' : Hp} {w : W} {a p : Addr} {xs : List V}
theorem Sub.lst (s : Sub K S H w) (h : S a = some (.lst xs)) : H a = some (.lst xs) := s.ok a _ h
theorem Sub.tup (s : Sub K S H w) (h : S a = some (.tup xs)) : H a = some (.tup xs) := s.ok a _ h
theorem Sub.there (s : Sub K S H w) {o : GO} (h : S a = some o) : ∃ u, H a = some u := by
  have q := s.ok a o h
  cases o with
  | tup xs => exact ⟨_, q⟩
  | lst xs => exact ⟨_, q⟩
  | exc c => exact ⟨_, q⟩
  | drw => obtain ⟨_, _, _, _, e, _⟩ := q; exact ⟨_, e⟩
  | stp => obtain ⟨_, _, _, _, _, _, _, e, _⟩ := q; exact ⟨_, e⟩
  | resD => exact q
  | resS => exact q
  | resX => exact q
theorem Sub.free (s : Sub K S H w) (h : H p = none) : S p = none := by
  cases e : S p with
  | none => rfl
  | some o =>
    obtain ⟨u, q⟩ := s.there e
    rw [h] at q
    cases q
mutual
theorem Rp.dp (s : Sub K S H w) : ∀ {d : PyData} {v : V}, Rp S d v → Dp K H v d
  | .none, _, .non => .non
  | .bool _, _, .bl b => .bl b
  | .int _, _, .int i => .int i
  | .str _, _, .str x => .str x
  | .list _, _, .lst h r => .lst (SqL.of (s.lst h)) (Rps.dp s r)
  | .tuple _, _, .tup h r => .tup (SqT.of (s.tup h)) (Rps.dp s r)
theorem Rps.dp (s : Sub K S H w) : ∀ {ds : List PyData} {vs : List V}, Rps S ds vs → DpAll K H vs ds
  | [], _, .nil => .nil
  | _ :: _, _, .cons h r => .cons (Rp.dp s h) (Rps.dp s r)
end
theorem LeG.upd {o : GO} (n : S p = none) : LeG S (updG S p o) := fun b u e => by
  rw [updG_ne (fun z => by rw [z, n] at e; cases e)]
  exact e
/-- another heap that keeps what S speaks of -/
theorem GOk.keep {o : GO} (l : LeG S S') (g : GOk K S H w a o) (k : ∀ b u, (b = a ∨ S b = some .resD ∨ S b = some .resS) → H b = some u → H' b = some u) (kx : ∀ b u, S b = some .resX → H b = some u → ∃ u', H' b = some u') : GOk K S' H' w a o := by
  cases o with
  | tup xs => exact k a _ (.inl rfl) g
  | lst xs => exact k a _ (.inl rfl) g
  | exc c => exact k a _ (.inl rfl) g
  | drw =>
    obtain ⟨m, ns, c, e, h1, h2, h3⟩ := g
    exact ⟨m, ns, c, e, k a _ (.inl rfl) h1, l _ _ h2, k m _ (.inr (.inl h2)) h3⟩
  | stp =>
    obtain ⟨row, past, r, q, dx, xs, e, h1, h2, h3, h4, h5, h6⟩ := g
    exact ⟨row, past, r, q, dx, xs, e, k a _ (.inl rfl) h1, h2.mono l, l _ _ h3, k q _ (.inr (.inr h3)) h4, h5.mono l, l _ _ h6⟩
  | resD => obtain ⟨u, h⟩ := g; exact ⟨u, k a _ (.inl rfl) h⟩
  | resS => obtain ⟨u, h⟩ := g; exact ⟨u, k a _ (.inl rfl) h⟩
  | resX => obtain ⟨u, h⟩ := g; exact ⟨u, k a _ (.inl rfl) h⟩
/-- a change at an address that S does not speak of -/
theorem Sub.other (s : Sub K S H w) (n : S p = none) (nf : ∀ o u, H p ≠ some (.frz o u)) (k : ∀ b, b ≠ p → H' b = H b) : Sub K S H' w := by
  refine ⟨fun b o e => (s.ok b o e).keep (fun _ _ h => h) (fun c u hc q => ?_) (fun c u hc q => ⟨u, ?_⟩), s.one, s.oneS, fun a ns e => ?_⟩
  · have : c ≠ p := by
      rintro rfl
      rcases hc with rfl | h | h
      · rw [n] at e; cases e
      · rw [n] at h; cases h
      · rw [n] at h; cases h
    rw [k c this]; exact q
  · have : c ≠ p := by rintro rfl; rw [n] at hc; cases hc
    rw [k c this]; exact q
  · rcases s.scr a ns e with h | ⟨h1, o, h2⟩
    · exact .inl h
    · have : a ≠ p := by rintro rfl; exact nf _ _ h2
      exact .inr ⟨h1, o, by rw [k a this]; exact h2⟩
theorem Sub.updO (s : Sub K S H w) (n : S p = none) (nf : ∀ o u, H p ≠ some (.frz o u)) {o : HO} : Sub K S (upd H p o) w := s.other n nf fun _ h => upd_ne h
theorem nf_none (h : H p = none) : ∀ o u, H p ≠ some (.frz o u) := fun o u z => by rw [h] at z; cases z
theorem nf_lst (h : H p = some (.lst xs)) : ∀ o u, H p ≠ some (.frz o u) := fun o u z => by rw [h] at z; cases z
theorem Sub.addT (s : Sub K S H w) (n : S p = none) (h : H p = some (.tup xs)) : Sub K (updG S p (.tup xs)) H w := by
  refine ⟨fun b o e => ?_, fun b c h1 h2 => ?_, fun b c h1 h2 => ?_, fun a ns e => ?_⟩
  · by_cases hb : b = p
    · subst hb
      rw [updG_same] at e; cases e
      exact h
    · rw [updG_ne hb] at e
      exact (s.ok b o e).keep (LeG.upd n) (fun _ _ _ q => q) fun _ u _ q => ⟨u, q⟩
  · by_cases hb : b = p
    · rw [hb, updG_same] at h1; cases h1
    · by_cases hc : c = p
      · rw [hc, updG_same] at h2; cases h2
      · rw [updG_ne hb] at h1; rw [updG_ne hc] at h2; exact s.one b c h1 h2
  · by_cases hb : b = p
    · rw [hb, updG_same] at h1; cases h1
    · by_cases hc : c = p
      · rw [hc, updG_same] at h2; cases h2
      · rw [updG_ne hb] at h1; rw [updG_ne hc] at h2; exact s.oneS b c h1 h2
  · rcases s.scr a ns e with h' | ⟨h1, o, h2⟩
    · exact .inl h'
    · have : a ≠ p := by rintro rfl; rw [h] at h2; cases h2
      exact .inr ⟨by rw [updG_ne this]; exact h1, o, h2⟩
theorem Sub.addL (s : Sub K S H w) (n : S p = none) (h : H p = some (.lst xs)) : Sub K (updG S p (.lst xs)) H w := by
  refine ⟨fun b o e => ?_, fun b c h1 h2 => ?_, fun b c h1 h2 => ?_, fun a ns e => ?_⟩
  · by_cases hb : b = p
    · subst hb
      rw [updG_same] at e; cases e
      exact h
    · rw [updG_ne hb] at e
      exact (s.ok b o e).keep (LeG.upd n) (fun _ _ _ q => q) fun _ u _ q => ⟨u, q⟩
  · by_cases hb : b = p
    · rw [hb, updG_same] at h1; cases h1
    · by_cases hc : c = p
      · rw [hc, updG_same] at h2; cases h2
      · rw [updG_ne hb] at h1; rw [updG_ne hc] at h2; exact s.one b c h1 h2
  · by_cases hb : b = p
    · rw [hb, updG_same] at h1; cases h1
    · by_cases hc : c = p
      · rw [hc, updG_same] at h2; cases h2
      · rw [updG_ne hb] at h1; rw [updG_ne hc] at h2; exact s.oneS b c h1 h2
  · rcases s.scr a ns e with h' | ⟨h1, o, h2⟩
    · exact .inl h'
    · have : a ≠ p := by rintro rfl; rw [h] at h2; cases h2
      exact .inr ⟨by rw [updG_ne this]; exact h1, o, h2⟩
theorem Nxt.new {o : HO} {g : GO} (n : S p = none) (hp : H p = none) : Nxt S H (updG S p g) (upd H p o) :=
  ⟨LeG.upd n, fun b u nb e => by
    have hb : b ≠ p := by rintro rfl; rw [hp] at e; cases e
    rw [upd_ne hb, updG_ne hb]
    exact ⟨e, nb⟩⟩
/-- a new object that S does not speak of -/
theorem Nxt.newO {o : HO} (hp : H p = none) : Nxt S H S (upd H p o) :=
  ⟨fun _ _ h => h, fun b u nb e => by
    have hb : b ≠ p := by rintro rfl; rw [hp] at e; cases e
    rw [upd_ne hb]
    exact ⟨e, nb⟩⟩
/-- a new tuple, a new list -/
theorem Sub.newT (s : Sub K S H w) (hp : H p = none) : Sub K (updG S p (.tup xs)) (upd H p (.tup xs)) w := (s.updO (s.free hp) (nf_none hp)).addT (s.free hp) upd_same
theorem Sub.newL (s : Sub K S H w) (hp : H p = none) : Sub K (updG S p (.lst xs)) (upd H p (.lst xs)) w := (s.updO (s.free hp) (nf_none hp)).addL (s.free hp) upd_same
end

/-! ### what is wanted of an answer -/
/-- for an answer of plain use -/
def Ans (K : PySem.W.Frag) (S : GH) (H : Hp) (w : W) (d : D) (Q : VK) : Prop := ∀ S' H' v, Nxt S H S' H' → Sub K S' H' w → RD S' d v → Q v H'
section
variable {K : PySem.W.Frag} {S : GH} {H : Hp} {w : W} {Q : VK}
theorem Ans.here {d : D} {v : V} (k : Ans K S H w d Q) (s : Sub K S H w) (r : RD S d v) : Q v H := k S H v (Nxt.refl _ _) s r
theorem Ans.bl (k : Ans K S H w (.bl b) Q) (s : Sub K S H w) : Q (.bl b) H := k.here s (Rp.bl b)
theorem Ans.int (k : Ans K S H w (.int b) Q) (s : Sub K S H w) : Q (.int b) H := k.here s (Rp.int b)
theorem Ans.lst {ds : List PyData} {xs : List V} (k : Ans K S H w (.lst ds) Q) (s : Sub K S H w) (r : Rps S ds xs) (p : Addr) (hp : H p = none) : Q (.ref p) (upd H p (.lst xs)) :=
  k _ _ _ (Nxt.new (s.free hp) hp) (s.newL hp) (Rp.lst updG_same (r.mono (LeG.upd (s.free hp))))
theorem Ans.tup {ds : List PyData} {xs : List V} (k : Ans K S H w (.tup ds) Q) (s : Sub K S H w) (r : Rps S ds xs) (p : Addr) (hp : H p = none) : Q (.ref p) (upd H p (.tup xs)) :=
  k _ _ _ (Nxt.new (s.free hp) hp) (s.newT hp) (Rp.tup updG_same (r.mono (LeG.upd (s.free hp))))
end
/-- an operator of two values -/
def r2 (K : PySem.W.Frag) (f : D → D → Option D) : R2 := fun x y H Q => ∃ d e S w c, Sub K S H w ∧ RD S d x ∧ RD S e y ∧ f d e = some c ∧ Ans K S H w c Q

/-! ### the operators -/
def bo : BO → Operator
  | .add => .Add
  | .sub => .Sub
  | .mul => .Mult
  | .fdiv => .FloorDiv
  | .mod => .Mod
section
variable {X : Cx}
theorem line_le : (16000000 : Nat) ≤ sizeLine := by rw [sizeLine_eq]; decide
theorem op_bin (op : BO) : OpR X (binaryOp (bo op)) (r2 X.K (binV op)) := by
  intro pins s σ H x y v u Q I rx ry h
  obtain ⟨d, e, S, w, c, sb, r1, r2, hf, k⟩ := h
  cases d with
  | p d =>
    cases e with
    | p e =>
      obtain ⟨z, hz, rfl⟩ := Option.map_eq_some_iff.mp hf
      have r1 : Rp S d x := r1
      have r2 : Rp S e y := r2
      unfold binD at hz
      split at hz
      · cases hz; cases r1; cases r2
        exact op_add pins s σ H _ _ v u Q I rx ry ⟨_, _, rfl, rfl, k.int sb⟩
      · cases r1; cases r2
        split at hz
        · rename_i hl
          cases hz
          exact op_add_str pins s σ H _ _ v u Q I rx ry ⟨_, _, rfl, rfl, hl, k.here sb (Rp.str _)⟩
        · cases hz
      · split at hz
        · rename_i hl
          cases hz
          cases r1 with
          | lst h1 q1 =>
            cases r2 with
            | lst h2 q2 => exact op_cat pins s σ H _ _ v u Q I rx ry ⟨_, _, _, _, rfl, rfl, sb.lst h1, sb.lst h2, by rw [q1.length, q2.length]; exact hl, k.lst sb (q1.append q2)⟩
        · cases hz
      · split at hz
        · rename_i hl
          cases hz
          cases r1 with
          | tup h1 q1 =>
            cases r2 with
            | tup h2 q2 =>
              refine op_catA pins s σ H _ _ v u Q I rx ry ⟨_, _, _, _, rfl, rfl, SqT.of (sb.tup h1), SqT.of (sb.tup h2), by rw [q1.length, q2.length]; exact hl, fun z => ?_, fun _ z => ?_, fun _ _ => k.tup sb (q1.append q2)⟩
              · subst z
                cases q1
                exact k.here sb (Rp.tup h2 q2)
              · subst z
                cases q2
                refine k.here sb (Rp.tup h1 ?_)
                rw [List.append_nil]
                exact q1
        · cases hz
      · cases hz; cases r1; cases r2
        exact op_sub pins s σ H _ _ v u Q I rx ry ⟨_, _, rfl, rfl, k.int sb⟩
      · split at hz
        · rename_i hb
          cases hz; cases r1; cases r2
          exact op_mul pins s σ H _ _ v u Q I rx ry ⟨_, _, rfl, rfl, (by have z := hb; simp only [mulB, decide_eq_true_eq] at z; exact z), k.int sb⟩
        · cases hz
      · split at hz
        · rename_i hb
          cases hz
          cases r1 with
          | lst h1 q1 =>
            cases r2
            exact op_rep pins s σ H _ _ v u Q I rx ry ⟨_, _, _, rfl, rfl, sb.lst h1, by omega, by omega, by rw [q1.length]; exact hb.2.2, k.lst sb (q1.rep _)⟩
        · cases hz
      · split at hz
        · rename_i hb
          cases hz
          cases r1 with
          | tup h1 q1 =>
            cases r2
            refine op_repT pins s σ H _ _ v u Q I rx ry ⟨_, _, _, rfl, rfl, SqT.of (sb.tup h1), ?_, hb.2.1, hb.2.2.1, by rw [q1.length]; exact hb.2.2.2, k.tup sb (q1.rep _)⟩
            rintro rfl
            cases q1
            exact hb.1 rfl
        · cases hz
      · split at hz
        · rename_i hb
          cases hz; cases r1; cases r2
          exact op_fdiv pins s σ H _ _ v u Q I rx ry ⟨_, _, rfl, rfl, hb, k.int sb⟩
        · cases hz
      · split at hz
        · rename_i hb
          cases hz; cases r1; cases r2
          exact op_mod pins s σ H _ _ v u Q I rx ry ⟨_, _, rfl, rfl, hb, k.int sb⟩
        · cases hz
      · cases hz
    | exc c => cases hf
    | drw => cases hf
    | stp => cases hf
    | scr c => cases hf
  | exc c => cases hf
  | drw => cases hf
  | stp => cases hf
  | scr c => cases hf
end
end Ev

end

section
/-! EvC: comparisons, items, slices, the built-ins. -/
namespace Ev
open PySem PySem.Spec PyProof.Rows L2

def co : CO → CmpOp
  | .eq => .Eq
  | .ne => .NotEq
  | .lt => .Lt
  | .le => .LtE
  | .gt => .Gt
  | .ge => .GtE
  | .is_ => .Is
  | .isn => .IsNot
  | .in_ => .In
  | .nin => .NotIn
section
variable {X : Cx}
theorem op_inT (hu : X.A.units + 65 < cLine) : OpR X (compareOp .In) (fun x y H Q => ∃ d ds, Dp X.K H x d ∧ Dp X.K H y (.tuple ds) ∧ SeqAt.shaped d = true ∧ SeqAt.shaped (.tuple ds) = true ∧ Q (.bl (ds.any fun z => PyData.eqv z d)) H) := by
  intro pins s σ H x y v u Q I rx ry h
  obtain ⟨d, ds, hd, he, sd, se, q⟩ := h
  obtain ⟨as, r1⟩ := Dp.reads I d x v hd rx
  obtain ⟨bs, r2⟩ := Dp.reads I (.tuple ds) y u he ry
  exact SeqAt.in_tuple_reads r2 r1 (SeqAt.canLay_of_shaped se) (SeqAt.canLay_of_shaped sd) (room_in_shaped sd hu) ⟨.bl _, H, I, rfl, q⟩
theorem op_notInT (hu : X.A.units + 65 < cLine) : OpR X (compareOp .NotIn) (fun x y H Q => ∃ d ds, Dp X.K H x d ∧ Dp X.K H y (.tuple ds) ∧ SeqAt.shaped d = true ∧ SeqAt.shaped (.tuple ds) = true ∧ Q (.bl (!ds.any fun z => PyData.eqv z d)) H) := by
  intro pins s σ H x y v u Q I rx ry h
  obtain ⟨d, ds, hd, he, sd, se, q⟩ := h
  obtain ⟨as, r1⟩ := Dp.reads I d x v hd rx
  obtain ⟨bs, r2⟩ := Dp.reads I (.tuple ds) y u he ry
  exact SeqAt.notIn_tuple_reads r2 r1 (SeqAt.canLay_of_shaped se) (SeqAt.canLay_of_shaped sd) (room_in_shaped sd hu) ⟨.bl _, H, I, rfl, q⟩
theorem str_one {x : Str} {c : Nat} (h : x.cps.toList = [c]) : x = ⟨#[c]⟩ := by
  have e : x.cps = #[c] := by rw [← Array.toArray_toList (xs := x.cps), h]
  cases x
  dsimp only at e
  rw [e]
/-- the answer is a bool -/
def r2b (K : PySem.W.Frag) (f : D → D → Option D) : R2 := r2 K f
theorem op_cmpD (op : CO) (hu : X.A.units + 65 < cLine) : OpR X (compareOp (co op)) (r2 X.K fun d e => match d, e with
    | .p d, .p e => (cmpD op d e).map D.bl
    | _, _ => none) := by
  intro pins s σ H x y v u Q I rx ry h
  obtain ⟨d, e, S, w, c, sb, r1, r2, hf, k⟩ := h
  have hu4 : X.A.units + 64 < cLine := by omega
  have hu0 : X.A.units < cLine := by omega
  cases d with
  | p d =>
    cases e with
    | p e =>
      obtain ⟨z, hz, rfl⟩ := Option.map_eq_some_iff.mp hf
      have r1 : Rp S d x := r1
      have r2 : Rp S e y := r2
      unfold cmpD at hz
      split at hz
      · split at hz
        · rename_i hs
          cases hz
          exact op_eqD hu4 pins s σ H _ _ v u Q I rx ry ⟨_, _, r1.dp sb, r2.dp sb, hs.1, hs.2, k.bl sb⟩
        · cases hz
      · split at hz
        · rename_i hs
          cases hz
          exact op_neD hu4 pins s σ H _ _ v u Q I rx ry ⟨_, _, r1.dp sb, r2.dp sb, hs.1, hs.2, k.bl sb⟩
        · cases hz
      · cases hz; cases r1; cases r2
        exact op_lt pins s σ H _ _ v u Q I rx ry ⟨_, _, rfl, rfl, k.bl sb⟩
      · split at hz
        · rename_i a b ha hb
          cases hz
          cases r1 with
          | tup h1 q1 =>
            cases r2 with
            | tup h2 q2 =>
              have e1 := q1.ints ha
              have e2 := q2.ints hb
              subst e1 e2
              exact op_ltT hu0 pins s σ H _ _ v u Q I rx ry ⟨_, _, _, _, rfl, rfl, SqT.of (sb.tup h1), SqT.of (sb.tup h2), k.bl sb⟩
        · cases hz
      · cases hz; cases r1; cases r2
        exact op_le pins s σ H _ _ v u Q I rx ry ⟨_, _, rfl, rfl, k.bl sb⟩
      · cases hz; cases r1; cases r2
        exact op_gt pins s σ H _ _ v u Q I rx ry ⟨_, _, rfl, rfl, k.bl sb⟩
      · cases hz; cases r1; cases r2
        exact op_ge pins s σ H _ _ v u Q I rx ry ⟨_, _, rfl, rfl, k.bl sb⟩
      · cases hz; cases r1; cases r2
        exact op_isBl pins s σ H _ _ v u Q I rx ry ⟨_, _, rfl, rfl, k.bl sb⟩
      · cases hz; cases r1; cases r2
        exact op_notBl pins s σ H _ _ v u Q I rx ry ⟨_, _, rfl, rfl, k.bl sb⟩
      · split at hz
        · rename_i hs
          cases hz
          exact op_inD hu pins s σ H _ _ v u Q I rx ry ⟨_, _, r1.dp sb, r2.dp sb, hs.1, hs.2, k.bl sb⟩
        · cases hz
      · split at hz
        · rename_i hs
          cases hz
          exact op_notInD hu pins s σ H _ _ v u Q I rx ry ⟨_, _, r1.dp sb, r2.dp sb, hs.1, hs.2, k.bl sb⟩
        · cases hz
      · split at hz
        · rename_i hs
          cases hz
          exact op_inT hu pins s σ H _ _ v u Q I rx ry ⟨_, _, r1.dp sb, r2.dp sb, hs.1, hs.2, k.bl sb⟩
        · cases hz
      · split at hz
        · rename_i c hc
          cases hz; cases r1; cases r2
          exact op_in_sign pins s σ H _ _ v u Q I rx ry ⟨c, _, congrArg V.str (str_one hc), rfl, k.bl sb⟩
        · cases hz
      · split at hz
        · rename_i hs
          cases hz
          exact op_notInT hu pins s σ H _ _ v u Q I rx ry ⟨_, _, r1.dp sb, r2.dp sb, hs.1, hs.2, k.bl sb⟩
        · cases hz
      · cases hz
    | exc c => cases hf
    | drw => cases hf
    | stp => cases hf
    | scr c => cases hf
  | exc c => cases hf
  | drw => cases hf
  | stp => cases hf
  | scr c => cases hf
theorem RD.isNone {S : GH} {d : D} {v : V} (r : RD S d v) : decide (v = .non) = d.isN := by
  cases d with
  | p d => cases (show Rp S d v from r) <;> rfl
  | exc c => obtain ⟨a, e, _⟩ := r; subst e; rfl
  | drw => obtain ⟨a, e, _⟩ := r; subst e; rfl
  | stp => obtain ⟨a, e, _⟩ := r; subst e; rfl
  | scr a => have e : v = .ref a := r; subst e; rfl
theorem op_cmpV (op : CO) (hu : X.A.units + 65 < cLine) : OpR X (compareOp (co op)) (r2 X.K (cmpV op)) := by
  intro pins s σ H x y v u Q I rx ry h
  obtain ⟨d, e, S, w, c, sb, r1, r2, hf, k⟩ := h
  unfold cmpV at hf
  split at hf
  · cases hf
    cases (show Rp S _ y from r2)
    refine op_isN pins s σ H _ _ v u Q I rx ry ⟨rfl, ?_⟩
    rw [r1.isNone]
    exact k.bl sb
  · cases hf
    cases (show Rp S _ y from r2)
    refine op_notN pins s σ H _ _ v u Q I rx ry ⟨rfl, ?_⟩
    rw [r1.isNone]
    exact k.bl sb
  · exact op_cmpD op hu pins s σ H _ _ v u Q I rx ry ⟨_, _, S, w, c, sb, r1, r2, hf, k⟩
  · cases hf

/-! ### items -/
theorem Rps.atI {S : GH} {ds : List PyData} {vs : List V} {i : Int} {d : PyData} (r : Rps S ds vs) (h : L2.atI ds i = some d) : ∃ v, L2.atI vs i = some v ∧ Rp S d v := by
  unfold L2.atI at h ⊢
  rw [r.length]
  obtain ⟨j, hj, hd⟩ := Option.bind_eq_some_iff.mp h
  rw [hj]
  exact r.get hd
theorem ix_V : IxR X (r2 X.K ixV) := by
  intro value slice pins s σ H x y v u Q I rx ry h hs
  obtain ⟨d, e, S, w, c, sb, r1, r2, hf, k⟩ := h
  unfold ixV at hf
  split at hf
  · obtain ⟨z, hz, rfl⟩ := Option.map_eq_some_iff.mp hf
    cases (show Rp S _ y from r2)
    unfold ixD at hz
    split at hz
    · cases (show Rp S _ x from r1) with
      | lst h1 q1 =>
        obtain ⟨t, ht, rt⟩ := q1.atI hz
        exact ix_list value slice pins s σ H _ _ v u Q I rx ry ⟨_, _, _, _, rfl, rfl, SqL.of (sb.lst h1), ht, k.here sb rt⟩ hs
    · cases (show Rp S _ x from r1) with
      | tup h1 q1 =>
        obtain ⟨t, ht, rt⟩ := q1.atI hz
        exact ix_tup value slice pins s σ H _ _ v u Q I rx ry ⟨_, _, _, _, rfl, rfl, SqT.of (sb.tup h1), ht, k.here sb rt⟩ hs
    · split at hz
      · rename_i hl
        obtain ⟨c, hc, rfl⟩ := Option.map_eq_some_iff.mp hz
        cases (show Rp S _ x from r1)
        exact ix_str value slice pins s σ H _ _ v u Q I rx ry ⟨_, _, c, rfl, rfl, Nat.le_trans hl line_le, hc, k.here sb (Rp.str _)⟩ hs
      · cases hz
    · cases hz
  · cases hf

/-! ### slices -/
def rSlV (K : PySem.W.Frag) : V → Option Int → Option Int → Hp → VK → Prop := fun x lo hi H Q => ∃ d S w c, Sub K S H w ∧ Rp S d x ∧ slD d lo hi = some c ∧ Ans K S H w (.p c) Q
theorem Rps.cut {S : GH} {ds : List PyData} {vs : List V} (r : Rps S ds vs) (lo hi : Option Int) : Rps S (cutP ds lo hi) (cutV vs lo hi) := by
  unfold cutP cutV
  rw [r.length]
  exact (r.drop _).take _
theorem sl_V : SlR X (rSlV X.K) := by
  have both := SlR.or (X := X) (SlR.or (L2.sl_list) (L2.sl_tupA)) L2.sl_str
  intro pins s σ H x v vl vu lo hi sl Q I rx hs pl pu h
  obtain ⟨d, S, w, c, sb, r, hc, k⟩ := h
  refine both pins s σ H x v vl vu lo hi sl Q I rx hs pl pu ?_
  unfold slD at hc
  split at hc
  · cases hc
    cases r with
    | lst h1 q1 => exact .inl (.inl ⟨_, _, rfl, SqL.of (sb.lst h1), k.lst sb (q1.cut lo hi)⟩)
  · cases hc
    cases r with
    | tup h1 q1 =>
      refine .inl (.inr ⟨_, _, rfl, SqT.of (sb.tup h1), fun z => ?_, fun _ => k.tup sb (q1.cut lo hi)⟩)
      refine k.here sb (Rp.tup h1 ?_)
      have e := q1.cut lo hi
      unfold cutV at e
      rw [z.1, z.2, Nat.sub_zero, List.drop_zero, List.take_length] at e
      exact e
  · split at hc
    · rename_i hl
      cases hc
      cases r
      exact .inr ⟨_, rfl, Nat.le_trans hl line_le, k.here sb (Rp.str _)⟩
    · cases hc
  · cases hc

/-! ### built-in functions -/
def rB (K : PySem.W.Frag) (b : BF) : List V → Hp → VK → Prop := fun xs H Q => ∃ ds S w c, Sub K S H w ∧ RDs S ds xs ∧ bV b ds = some c ∧ Ans K S H w c Q
theorem bV_some {b : BF} {ds : List D} {c : D} (h : bV b ds = some c) : ∃ l z, plains ds = some l ∧ bD b l = some z ∧ c = .p z := by
  obtain ⟨l, hl, h2⟩ := Option.bind_eq_some_iff.mp h
  obtain ⟨z, hz, e⟩ := Option.map_eq_some_iff.mp h2
  exact ⟨l, z, hl, hz, e.symm⟩
theorem Rps.one {S : GH} {d : PyData} {vs : List V} (r : Rps S [d] vs) : ∃ v, vs = [v] ∧ Rp S d v := by
  cases r with
  | cons h q => cases q; exact ⟨_, rfl, h⟩
theorem Rps.two {S : GH} {d e : PyData} {vs : List V} (r : Rps S [d, e] vs) : ∃ v u, vs = [v, u] ∧ Rp S d v ∧ Rp S e u := by
  cases r with
  | cons h q =>
    obtain ⟨u, rfl, h2⟩ := q.one
    exact ⟨_, _, rfl, h, h2⟩
theorem minI_mem : ∀ (l : List Int) (x : Int), minI x l ∈ x :: l
  | [], x => by simp [minI]
  | y :: r, x => by
    unfold minI
    split
    · exact List.mem_cons_of_mem _ (minI_mem r y)
    · rcases List.mem_cons.mp (minI_mem r x) with e | e
      · rw [e]; exact List.mem_cons_self
      · exact List.mem_cons_of_mem _ (List.mem_cons_of_mem _ e)
theorem minI_le : ∀ (l : List Int) (x z : Int), z ∈ x :: l → minI x l ≤ z
  | [], x, z, h => by simp at h; subst h; simp [minI]
  | y :: r, x, z, h => by
    unfold minI
    rcases List.mem_cons.mp h with e | h
    · subst e
      split
      · have := minI_le r y y List.mem_cons_self; omega
      · exact minI_le r _ _ List.mem_cons_self
    · rcases List.mem_cons.mp h with e | h
      · subst e
        split
        · exact minI_le r _ _ List.mem_cons_self
        · have := minI_le r x x List.mem_cons_self; omega
      · split
        · exact minI_le r _ _ (List.mem_cons_of_mem _ h)
        · exact minI_le r _ _ (List.mem_cons_of_mem _ h)
theorem maxI_mem : ∀ (l : List Int) (x : Int), maxI x l ∈ x :: l
  | [], x => by simp [maxI]
  | y :: r, x => by
    unfold maxI
    split
    · exact List.mem_cons_of_mem _ (maxI_mem r y)
    · rcases List.mem_cons.mp (maxI_mem r x) with e | e
      · rw [e]; exact List.mem_cons_self
      · exact List.mem_cons_of_mem _ (List.mem_cons_of_mem _ e)
theorem maxI_ge : ∀ (l : List Int) (x z : Int), z ∈ x :: l → z ≤ maxI x l
  | [], x, z, h => by simp at h; subst h; simp [maxI]
  | y :: r, x, z, h => by
    unfold maxI
    rcases List.mem_cons.mp h with e | h
    · subst e
      split
      · have := maxI_ge r y y List.mem_cons_self; omega
      · exact maxI_ge r _ _ List.mem_cons_self
    · rcases List.mem_cons.mp h with e | h
      · subst e
        split
        · exact maxI_ge r _ _ List.mem_cons_self
        · have := maxI_ge r x x List.mem_cons_self; omega
      · split
        · exact maxI_ge r _ _ (List.mem_cons_of_mem _ h)
        · exact maxI_ge r _ _ (List.mem_cons_of_mem _ h)
theorem insI_perm (x : Int) : ∀ l : List Int, (insI x l).Perm (x :: l)
  | [] => .refl _
  | y :: r => by
    unfold insI
    split
    · exact .refl _
    · exact ((insI_perm x r).cons y).trans (List.Perm.swap x y r)
theorem sortI_perm : ∀ l : List Int, (sortI l).Perm l
  | [] => .refl _
  | x :: r => (insI_perm x (sortI r)).trans ((sortI_perm r).cons x)
theorem insI_sorted (x : Int) : ∀ l : List Int, l.Pairwise (· ≤ ·) → (insI x l).Pairwise (· ≤ ·)
  | [], _ => by simp [insI]
  | y :: r, h => by
    unfold insI
    have h' := List.pairwise_cons.mp h
    split
    · rename_i hxy
      refine List.pairwise_cons.mpr ⟨fun z hz => ?_, h⟩
      rcases List.mem_cons.mp hz with e | hz
      · rw [e]; exact hxy
      · exact Int.le_trans hxy (h'.1 z hz)
    · rename_i hxy
      refine List.pairwise_cons.mpr ⟨fun z hz => ?_, insI_sorted x r h'.2⟩
      rcases List.mem_cons.mp ((insI_perm x r).mem_iff.mp hz) with e | hz
      · rw [e]; omega
      · exact h'.1 z hz
theorem sortI_sorted : ∀ l : List Int, (sortI l).Pairwise (· ≤ ·)
  | [] => .nil
  | x :: r => insI_sorted x _ (sortI_sorted r)
theorem intsOf_len : ∀ {ds : List PyData} {l : List Int}, intsOf ds = some l → l.length = ds.length
  | [], _, e => by cases e; rfl
  | .int i :: r, _, e => by
    unfold intsOf at e
    obtain ⟨l', e', rfl⟩ := Option.map_eq_some_iff.mp e
    rw [List.length_cons, List.length_cons, intsOf_len e']
  | .none :: _, _, e => by simp [intsOf] at e
  | .bool _ :: _, _, e => by simp [intsOf] at e
  | .str _ :: _, _, e => by simp [intsOf] at e
  | .list _ :: _, _, e => by simp [intsOf] at e
  | .tuple _ :: _, _, e => by simp [intsOf] at e
  | .dict _ :: _, _, e => by simp [intsOf] at e
/-! ### pairs -/
def leP (x y : Int × Int) : Prop := x.1 < y.1 ∨ (x.1 = y.1 ∧ x.2 ≤ y.2)
theorem insP_le {x y : Int × Int} : (decide (x.1 < y.1) || (decide (x.1 = y.1) && decide (x.2 ≤ y.2))) = true ↔ leP x y := by
  simp [leP]
theorem insP_perm (x : Int × Int) : ∀ l : List (Int × Int), (insP x l).Perm (x :: l)
  | [] => .refl _
  | y :: r => by
    unfold insP
    split
    · exact .refl _
    · exact ((insP_perm x r).cons y).trans (.swap x y r)
theorem sortP_perm : ∀ l : List (Int × Int), (sortP l).Perm l
  | [] => .refl _
  | x :: r => (insP_perm x (sortP r)).trans ((sortP_perm r).cons x)
theorem insP_sorted (x : Int × Int) : ∀ l : List (Int × Int), l.Pairwise leP → (insP x l).Pairwise leP
  | [], _ => List.pairwise_singleton _ _
  | y :: r, h => by
    have h' := List.pairwise_cons.mp h
    unfold insP
    split
    · rename_i q
      have q := insP_le.mp q
      refine List.pairwise_cons.mpr ⟨fun z hz => ?_, h⟩
      rcases List.mem_cons.mp hz with rfl | hz
      · exact q
      · have := h'.1 z hz
        unfold leP at q this ⊢
        omega
    · rename_i q
      have q : ¬ leP x y := fun z => q (insP_le.mpr z)
      refine List.pairwise_cons.mpr ⟨fun z hz => ?_, insP_sorted x r h'.2⟩
      rcases List.mem_cons.mp ((insP_perm x r).mem_iff.mp hz) with rfl | hz
      · unfold leP at q ⊢
        omega
      · exact h'.1 z hz
theorem sortP_sorted : ∀ l : List (Int × Int), (sortP l).Pairwise leP
  | [] => .nil
  | x :: r => insP_sorted x _ (sortP_sorted r)
theorem pairsOf_map : ∀ {ds : List PyData} {l : List (Int × Int)}, pairsOf ds = some l → ds = l.map ofPair
  | [], l, e => by
    unfold pairsOf at e
    cases e
    rfl
  | d :: r, l, e => by
    unfold pairsOf at e
    split at e
    · rename_i h
      cases h
    · rename_i h
      cases h
      obtain ⟨q, h1, rfl⟩ := Option.map_eq_some_iff.mp e
      rw [pairsOf_map h1]
      rfl
    · cases e
/-- the two ints of a pair, by the ghost -/
def kP (S : GH) : V → Int × Int
  | .ref a => match S a with
    | some (.tup [.int i, .int j]) => (i, j)
    | _ => (0, 0)
  | _ => (0, 0)
theorem Rp.pair {S : GH} {q : Int × Int} {v : V} (h : Rp S (ofPair q) v) : ∃ t, v = .ref t ∧ S t = some (.tup [.int q.1, .int q.2]) := by
  unfold ofPair at h
  cases h with
  | tup h1 q1 =>
    obtain ⟨a, b, rfl, h2, h3⟩ := q1.two
    cases h2
    cases h3
    exact ⟨_, rfl, h1⟩
theorem kP_of {S : GH} {q : Int × Int} {v : V} (h : Rp S (ofPair q) v) : kP S v = q := by
  obtain ⟨t, rfl, e⟩ := h.pair
  unfold kP
  dsimp only
  rw [e]
theorem Rps.pairs {S : GH} : ∀ {l : List (Int × Int)} {xs : List V}, Rps S (l.map ofPair) xs → xs.map (kP S) = l ∧ ∀ x ∈ xs, Rp S (ofPair (kP S x)) x
  | [], _, .nil => ⟨rfl, fun _ h => (nomatch h)⟩
  | q :: l, _, .cons h r => by
    obtain ⟨e1, e2⟩ := Rps.pairs r
    have e0 := kP_of h
    refine ⟨by rw [List.map_cons, e0, e1], fun x hx => ?_⟩
    rcases List.mem_cons.mp hx with rfl | hx
    · rw [e0]; exact h
    · exact e2 x hx
theorem Rps.ofPairs {S : GH} : ∀ {ys : List V}, (∀ y ∈ ys, Rp S (ofPair (kP S y)) y) → Rps S ((ys.map (kP S)).map ofPair) ys
  | [], _ => .nil
  | y :: ys, h => .cons (h y List.mem_cons_self) (Rps.ofPairs fun z hz => h z (List.mem_cons_of_mem _ hz))
theorem sorted_pairs_eq {S : GH} {l : List (Int × Int)} {xs ys : List V} (r : Rps S (l.map ofPair) xs) (h1 : SrtO.Srtd (ltP (kP S)) ys) (h2 : ys.Perm xs) : Rps S ((sortP l).map ofPair) ys := by
  obtain ⟨e1, e2⟩ := r.pairs
  have e3 : ys.map (kP S) = sortP l := by
    refine List.Perm.eq_of_pairwise (le := leP) (fun a b _ _ q1 q2 => ?_) ?_ (sortP_sorted l) ?_
    · unfold leP at q1 q2
      exact Prod.ext (by omega) (by omega)
    · rw [List.pairwise_map]
      refine h1.imp fun {x y} q => ?_
      have := SrtO.lexB_no.mp q
      unfold leP
      omega
    · have := h2.map (kP S)
      rw [e1] at this
      exact this.trans (sortP_perm l).symm
  rw [← e3]
  exact Rps.ofPairs fun y hy => e2 y (h2.mem_iff.mp hy)
/-- where a built-in stands -/
def bFn : BF → Value
  | .len => .builtin "len"
  | .abs => .builtin "abs"
  | .min => .builtin "min"
  | .max => .builtin "max"
  | .sum => .builtin "sum"
  | .all => .builtin "all"
  | .sorted => .builtin "sorted"
  | .list => .type "list"
  | .tuple => .type "tuple"
  | .str => .type "str"
  | .int => .type "int"
theorem depth_mem {d : PyData} : ∀ {ds : List PyData}, d ∈ ds → d.depth ≤ PyData.depthAll ds
  | [], h => (nomatch h)
  | x :: xs, h => by
    simp only [PyData.depthAll]
    rcases List.mem_cons.mp h with rfl | h
    · omega
    · have := depth_mem h
      omega
theorem alkB_all {xs : List PyData} (h : alkB xs = true) : PySem.W.AlikeAll xs := by
  unfold alkB at h
  obtain ⟨h1, h2⟩ := Bool.and_eq_true_iff.mp h
  refine ⟨fun x hx y hy => List.all_eq_true.mp (List.all_eq_true.mp h1 x hx) y hy, fun x hx e => ?_⟩
  have := List.all_eq_true.mp h2 x hx
  subst e
  cases this
theorem depth_room {A : Around} {xs : List PyData} (h : shp (.list xs) = true) (hu : A.units + 65 < cLine) : A.units + 1 + PyData.depthAll xs < cLine := by
  have := SeqAt.depth_of_shaped h
  have e : (PyData.list xs).depth = PyData.depthAll xs + 1 := by simp [PyData.depth]
  omega
theorem canLay_mem : ∀ {xs : List PyData} {d : PyData}, PyData.canLayAll0 xs = true → d ∈ xs → d.canLay0 = true
  | [], _, _, h => nomatch h
  | x :: xs, d, h, hd => by
    have h' : x.canLay0 = true ∧ PyData.canLayAll0 xs = true := by simpa [PyData.canLayAll0] using h
    rcases List.mem_cons.mp hd with rfl | hd
    · exact h'.1
    · exact canLay_mem h'.2 hd
theorem minD_mem (x : PyData) (r : List PyData) : PySem.W.minD x r ∈ x :: r := by
  unfold PySem.W.minD
  induction r generalizing x with
  | nil => exact List.mem_cons_self
  | cons y r ih =>
    rw [List.foldl_cons]
    rcases List.mem_cons.mp (ih (if PySem.W.dataLt y x then y else x)) with h | h
    · rw [h]
      split
      · exact List.mem_cons_of_mem _ List.mem_cons_self
      · exact List.mem_cons_self
    · exact List.mem_cons_of_mem _ (List.mem_cons_of_mem _ h)
theorem minG_B {X : Cx} (hc : X.calm = true) (hu : X.A.units + 65 < cLine) {pins : List (Addr × Obj)} {s : Shared} {σ : L2.St} {H : Hp} {us : List Value} {Q : VK} (I : L2.Inv X pins σ H s) {ds : List PyData} {v : V} {S : GH} {w : W} {z : PyData}
    (r : Vals [v] us) (sb : Sub X.K S H w) (hv : Rp S (.list ds) v) (hz : bestG PySem.W.minD ds = some z) (k : Ans X.K S H w (.p z) Q) : wpAny (model X.prog X.w) X.A (call (.builtin "min") us) (EP X pins σ Q) X.xe s := by
  unfold bestG at hz
  split at hz
  · rename_i x r0
    split at hz
    · rename_i hs
      cases hz
      cases hv with
      | @lst _ xs _ h1 q1 =>
        obtain rfl := Vals.ref1 r
        have hall := Rps.dp sb q1
        obtain ⟨vals, rv, hl, hlen⟩ := I.list (SqL.of (sb.lst h1))
        obtain ⟨as, ha⟩ := Dp.readsAll I _ _ vals hall rv
        have hxs : PyData.canLayAll0 (x :: r0) = true := SeqAt.canLay_of_shaped hs.1
        refine PySem.W.min_list_data (I.ok.hd hc) hl.isList (show ReadsAll s.heap vals.toArray.toList (x :: r0) as from ha) (alkB_all hs.2) (depth_room hs.1 hu) fun i v h' tk bs hi hr hk => ?_
        have hi : vals[i]? = some v := by simpa using hi
        have hlt : i < vals.length := (List.getElem?_eq_some_iff.mp hi).1
        have hlt2 : i < xs.length := by rw [rv.length]; exact hlt
        obtain ⟨u, hu1, rel⟩ := rv.get (List.getElem?_eq_getElem hlt2)
        rw [hi] at hu1
        cases hu1
        obtain ⟨d, hd, rd⟩ := q1.get' (List.getElem?_eq_getElem hlt2)
        obtain ⟨bs2, r2, _, _, _⟩ := PySem.W.readsAll_at ha i v hi
        rw [show (x :: r0).getD i .none = d by rw [List.getD_eq_getElem?_getD, hd]; rfl] at r2
        have e1 := SeqAt.readOf_eq (canLay_mem hxs (List.mem_of_getElem? hd)) (PySem.W.reads_keeps hk r2)
        have e2 := SeqAt.readOf_eq (canLay_mem hxs (minD_mem x r0)) hr
        rw [e1] at e2
        subst e2
        exact ⟨_, H, I.kept hk, rel, k.here sb rd⟩
    · cases hz
  · cases hz
theorem maxD_mem (x : PyData) (r : List PyData) : PySem.W.maxD x r ∈ x :: r := by
  unfold PySem.W.maxD
  induction r generalizing x with
  | nil => exact List.mem_cons_self
  | cons y r ih =>
    rw [List.foldl_cons]
    rcases List.mem_cons.mp (ih (if PySem.W.dataLt x y then y else x)) with h | h
    · rw [h]
      split
      · exact List.mem_cons_of_mem _ List.mem_cons_self
      · exact List.mem_cons_self
    · exact List.mem_cons_of_mem _ (List.mem_cons_of_mem _ h)
theorem maxG_B {X : Cx} (hc : X.calm = true) (hu : X.A.units + 65 < cLine) {pins : List (Addr × Obj)} {s : Shared} {σ : L2.St} {H : Hp} {us : List Value} {Q : VK} (I : L2.Inv X pins σ H s) {ds : List PyData} {v : V} {S : GH} {w : W} {z : PyData}
    (r : Vals [v] us) (sb : Sub X.K S H w) (hv : Rp S (.list ds) v) (hz : bestG PySem.W.maxD ds = some z) (k : Ans X.K S H w (.p z) Q) : wpAny (model X.prog X.w) X.A (call (.builtin "max") us) (EP X pins σ Q) X.xe s := by
  unfold bestG at hz
  split at hz
  · rename_i x r0
    split at hz
    · rename_i hs
      cases hz
      cases hv with
      | @lst _ xs _ h1 q1 =>
        obtain rfl := Vals.ref1 r
        have hall := Rps.dp sb q1
        obtain ⟨vals, rv, hl, hlen⟩ := I.list (SqL.of (sb.lst h1))
        obtain ⟨as, ha⟩ := Dp.readsAll I _ _ vals hall rv
        have hxs : PyData.canLayAll0 (x :: r0) = true := SeqAt.canLay_of_shaped hs.1
        refine PySem.W.max_list_data (I.ok.hd hc) hl.isList (show ReadsAll s.heap vals.toArray.toList (x :: r0) as from ha) (alkB_all hs.2) (depth_room hs.1 hu) fun i v h' tk bs hi hr hk => ?_
        have hi : vals[i]? = some v := by simpa using hi
        have hlt : i < vals.length := (List.getElem?_eq_some_iff.mp hi).1
        have hlt2 : i < xs.length := by rw [rv.length]; exact hlt
        obtain ⟨u, hu1, rel⟩ := rv.get (List.getElem?_eq_getElem hlt2)
        rw [hi] at hu1
        cases hu1
        obtain ⟨d, hd, rd⟩ := q1.get' (List.getElem?_eq_getElem hlt2)
        obtain ⟨bs2, r2, _, _, _⟩ := PySem.W.readsAll_at ha i v hi
        rw [show (x :: r0).getD i .none = d by rw [List.getD_eq_getElem?_getD, hd]; rfl] at r2
        have e1 := SeqAt.readOf_eq (canLay_mem hxs (List.mem_of_getElem? hd)) (PySem.W.reads_keeps hk r2)
        have e2 := SeqAt.readOf_eq (canLay_mem hxs (maxD_mem x r0)) hr
        rw [e1] at e2
        subst e2
        exact ⟨_, H, I.kept hk, rel, k.here sb rd⟩
    · cases hz
  · cases hz
theorem perm_le1 {α : Type} : ∀ {l m : List α}, l.Perm m → m.length ≤ 1 → l = m
  | _, [], p, _ => List.Perm.eq_nil p
  | _, [_], p, _ => List.perm_singleton.mp p
  | _, _ :: _ :: _, _, h => absurd h (by simp)
/-- the items that stand for some values -/
theorem each_back {S : GH} : ∀ {ds : List PyData} {out : List Value}, PySem.W.EachIs (fun v d => ∃ u, RelV u v ∧ Rp S d u) out ds → ∃ us, Vals us out ∧ Rps S ds us
  | [], _, e => by cases e; exact ⟨[], .nil, .nil⟩
  | d :: ds, _, e => by
    cases e with
    | cons h r =>
      obtain ⟨u, h1, h2⟩ := h
      obtain ⟨us, r1, r2⟩ := each_back r
      exact ⟨u :: us, .cons h1 r1, .cons h2 r2⟩
theorem each_of {S : GH} : ∀ {ds : List PyData} {us : List V} {out : List Value}, Vals us out → Rps S ds us → PySem.W.EachIs (fun v d => ∃ u, RelV u v ∧ Rp S d u) out ds
  | [], _, _, r, .nil => by cases r; exact .nil
  | d :: ds, _, _, r, .cons h q => by
    cases r with
    | cons r1 r2 => exact .cons ⟨_, r1, h⟩ (each_of r2 q)
theorem sortG_B {X : Cx} (hc : X.calm = true) (hu : X.A.units + 65 < cLine) {pins : List (Addr × Obj)} {s : Shared} {σ : L2.St} {H : Hp} {us : List Value} {Q : VK} (I : L2.Inv X pins σ H s) {ds : List PyData} {v : V} {S : GH} {w : W} {z : PyData}
    (r : Vals [v] us) (sb : Sub X.K S H w) (hv : Rp S (.list ds) v) (hz : sortG ds = some z) (k : Ans X.K S H w (.p z) Q) : wpAny (model X.prog X.w) X.A (call (.builtin "sorted") us) (EP X pins σ Q) X.xe s := by
  cases hv with
  | @lst _ xs _ h1 q1 =>
    obtain rfl := Vals.ref1 r
    obtain ⟨vals, rv, hl, hlen⟩ := I.list (SqL.of (sb.lst h1))
    have hvl : vals.length = ds.length := by rw [← rv.length, q1.length]
    have fin : ∀ (out : List Value) (ds' : List PyData), z = .list ds' → (∃ us, Vals us out ∧ Rps S ds' us) → out.length ≤ sizeLine → EP X pins σ Q (.ref (s.heap.objs.size + 1)) { s with heap := sortedAll s.heap vals out.toArray } := fun out ds' hz ⟨us, u1, u2⟩ ho => by
      subst hz
      obtain ⟨c, hc⟩ := sortedAll_at s.heap vals out.toArray
      refine ⟨.ref _, upd H (s.heap.objs.size + 1) (.lst us), I.laid (t' := s.toks) (o := .lst us) (fun _ _ => sortedAll_old) (Nat.le_succ _) ⟨?_, out, c, u1, hc⟩, rfl, k.lst sb u2 _ (I.hok.fresh (Nat.le_succ _))⟩
      rw [u1.length]
      exact ho
    unfold sortG at hz
    split at hz
    · rename_i h1
      cases hz
      refine SrtO.sorted_ord (ltv := fun _ _ => false) ⟨fun _ _ h => (nomatch h), fun _ _ _ _ _ => rfl⟩ hl.isList (by rw [← rv.length]; exact hlen) (fun h2 => by omega) fun out _ h2 => ?_
      have ho : out = vals := perm_le1 h2.perm (by omega)
      rw [ho]
      exact fin vals ds rfl ⟨xs, rv, q1⟩ (by rw [← rv.length]; exact hlen)
    · split at hz
      · rename_i hs
        cases hz
        obtain ⟨s1, s2, s3, s4⟩ := hs
        have hall := Rps.dp sb q1
        obtain ⟨as, ha⟩ := Dp.readsAll I _ _ vals hall rv
        have hds : PySem.W.Sortable (ds.map id) := .inl fun d hd => by
          rw [List.map_id] at hd
          have := List.all_eq_true.mp s3 d hd
          split at this
          · exact ⟨_, _, rfl⟩
          · cases this
        refine PySem.W.sorted_data (enc := id) (bs := ds) hl.isList (each_of rv q1) (PySem.W.readsAll_each id (by rw [List.map_id]; exact ha)) (by rw [List.map_id]; exact fun d hd d' hd' => (alkB_all s2).1 d hd d' hd') hds (Nat.le_trans s4 line_le) (fun d hd => ?_) fun out ho eo => ?_
        · have dr := depth_room s1 hu
          have : d.depth ≤ PyData.depthAll ds := depth_mem hd
          have d64 := SeqAt.depth_of_shaped s1
          have e : (PyData.list ds).depth = PyData.depthAll ds + 1 := by simp [PyData.depth]
          show X.A.units + 2 + d.depth < cLine
          omega
        · exact fin out _ rfl (each_back eo) (by rw [ho]; exact Nat.le_trans s4 line_le)
      · cases hz
theorem strsOf_vals {S : GH} : ∀ {ds : List PyData} {vs : List V} {l : List Str}, Rps S ds vs → strsOf ds = some l → vs = l.map V.str
  | [], _, _, .nil, e => by
    have e : _ = _ := Option.some.inj e
    subst e
    rfl
  | .str x :: r, _, l, .cons h q, e => by
    unfold strsOf at e
    obtain ⟨l', e', rfl⟩ := Option.map_eq_some_iff.mp e
    cases h
    rw [strsOf_vals q e', List.map_cons]
  | .none :: _, _, _, _, e => by simp [strsOf] at e
  | .int _ :: _, _, _, _, e => by simp [strsOf] at e
  | .bool _ :: _, _, _, _, e => by simp [strsOf] at e
  | .list _ :: _, _, _, _, e => by simp [strsOf] at e
  | .tuple _ :: _, _, _, _, e => by simp [strsOf] at e
  | .dict _ :: _, _, _, _, e => by simp [strsOf] at e
theorem Rps.ofStrs {S : GH} : ∀ l : List Str, Rps S (l.map PyData.str) (l.map V.str)
  | [] => .nil
  | x :: r => .cons (.str x) (Rps.ofStrs r)
theorem call_B (b : BF) (hc : X.calm = true) (hu : X.A.units + 65 < cLine) : CallR X (bFn b) (rB X.K b) := by
  intro pins s σ H xs us Q I r h
  obtain ⟨ds, S, w, c, sb, rd, hb, k⟩ := h
  obtain ⟨l, z, hl, hz, rfl⟩ := bV_some hb
  have rl := rd.plains hl
  unfold bD at hz
  split at hz
  · split at hz
    · rename_i hx
      cases hz
      obtain ⟨v, rfl, hv⟩ := rl.one
      cases hv
      exact call_len_str pins s σ H _ us Q I r ⟨_, rfl, hx, k.int sb⟩
    · cases hz
  · split at hz
    · rename_i hx
      cases hz
      obtain ⟨v, rfl, hv⟩ := rl.one
      cases hv
      exact call_str_int pins s σ H _ us Q I r ⟨_, rfl, hx, k.here sb (Rp.str _)⟩
    · cases hz
  · split at hz
    · rename_i hx
      obtain ⟨n, hn, rfl⟩ := Option.map_eq_some_iff.mp hz
      obtain ⟨v, rfl, hv⟩ := rl.one
      cases hv
      exact call_int_str pins s σ H _ us Q I r ⟨_, n, rfl, hn, hx, k.int sb⟩
    · cases hz
  · cases hz
    obtain ⟨v, rfl, hv⟩ := rl.one
    cases hv with
    | lst h1 q1 => exact call_len_seq pins s σ H _ us Q I r ⟨_, _, rfl, .inl (SqL.of (sb.lst h1)), by rw [q1.length]; exact k.int sb⟩
  · cases hz
    obtain ⟨v, rfl, hv⟩ := rl.one
    cases hv with
    | tup h1 q1 => exact call_len_seq pins s σ H _ us Q I r ⟨_, _, rfl, .inr (SqT.of (sb.tup h1)), by rw [q1.length]; exact k.int sb⟩
  · cases hz
    obtain ⟨v, rfl, hv⟩ := rl.one
    cases hv
    exact call_abs pins s σ H _ us Q I r ⟨_, rfl, k.int sb⟩
  · cases hz
    obtain ⟨v, u, rfl, hv, hu⟩ := rl.two
    cases hv; cases hu
    exact call_min2 hc pins s σ H _ us Q I r ⟨_, _, rfl, k.int sb⟩
  · cases hz
    obtain ⟨v, u, rfl, hv, hu⟩ := rl.two
    cases hv; cases hu
    exact call_max2 hc pins s σ H _ us Q I r ⟨_, _, rfl, k.int sb⟩
  · obtain ⟨v, rfl, hv⟩ := rl.one
    split at hz
    · rename_i x t e
      cases hz
      cases hv with
      | lst h1 q1 =>
        have e1 := q1.ints e
        subst e1
        refine cr_min hc pins s σ H _ us Q I r ⟨_, x :: t, rfl, SqL.of (sb.lst h1), Nat.zero_lt_succ _, fun m hm hle => ?_⟩
        have e2 : m = minI x t := Int.le_antisymm (hle _ (minI_mem t x)) (minI_le t x m hm)
        rw [e2]
        exact k.int sb
    · cases hz
    · exact minG_B hc hu I r sb hv hz k
  · obtain ⟨v, rfl, hv⟩ := rl.one
    split at hz
    · rename_i x t e
      cases hz
      cases hv with
      | lst h1 q1 =>
        have e1 := q1.ints e
        subst e1
        refine cr_max hc pins s σ H _ us Q I r ⟨_, x :: t, rfl, SqL.of (sb.lst h1), Nat.zero_lt_succ _, fun m hm hle => ?_⟩
        have e2 : m = maxI x t := Int.le_antisymm (maxI_ge t x m hm) (hle _ (maxI_mem t x))
        rw [e2]
        exact k.int sb
    · cases hz
    · exact maxG_B hc hu I r sb hv hz k
  · obtain ⟨v, rfl, hv⟩ := rl.one
    obtain ⟨l, e, rfl⟩ := Option.map_eq_some_iff.mp hz
    cases hv with
    | lst h1 q1 =>
      have e1 := q1.ints e
      subst e1
      exact cr_sum hc pins s σ H _ us Q I r ⟨_, l, rfl, SqL.of (sb.lst h1), k.int sb⟩
  · obtain ⟨v, rfl, hv⟩ := rl.one
    obtain ⟨l, e, rfl⟩ := Option.map_eq_some_iff.mp hz
    cases hv with
    | lst h1 q1 =>
      have e1 := q1.bools e
      subst e1
      exact cr_all hc pins s σ H _ us Q I r ⟨_, l, rfl, SqL.of (sb.lst h1), k.bl sb⟩
  · obtain ⟨v, rfl, hv⟩ := rl.one
    split at hz
    · rename_i l e
      split at hz
      · rename_i h64
        cases hz
        cases hv with
        | lst h1 q1 =>
          have e1 := q1.ints e
          subst e1
          refine cr_sorted pins s σ H _ us Q I r ⟨_, l, rfl, SqL.of (sb.lst h1), h64, fun ns p hp hs hn => ?_⟩
          have e2 : ns = sortI l := PySem.W.ksm_same (hp.trans (sortI_perm l).symm) hs (sortI_sorted l)
          rw [e2]
          exact k.lst sb (Rps.ofInts _) p hn
      · cases hz
    · split at hz
      · rename_i l e
        cases hz
        have e1 := pairsOf_map e
        subst e1
        cases hv with
        | lst h1 q1 =>
          refine cr_sortedPO pins s σ H _ us Q I r ⟨_, _, kP S, rfl, SqL.of (sb.lst h1), fun x hx => ?_, fun ys p hs hp hn => ?_⟩
          · obtain ⟨t, e1, e2⟩ := (q1.pairs.2 x hx).pair
            exact ⟨t, e1, sb.tup e2⟩
          · exact k.lst sb (sorted_pairs_eq q1 hs hp.perm) p hn
      · exact sortG_B hc hu I r sb hv hz k
  · cases hz
    obtain ⟨v, rfl, hv⟩ := rl.one
    cases hv with
    | lst h1 q1 => exact call_list_of pins s σ H _ us Q I r ⟨_, _, rfl, .inl (SqL.of (sb.lst h1)), k.lst sb q1⟩
  · cases hz
    obtain ⟨v, rfl, hv⟩ := rl.one
    cases hv with
    | tup h1 q1 => exact call_list_of pins s σ H _ us Q I r ⟨_, _, rfl, .inr (SqT.of (sb.tup h1)), k.lst sb q1⟩
  · cases hz
    obtain ⟨v, rfl, hv⟩ := rl.one
    cases hv with
    | lst h1 q1 => exact call_tuple_of pins s σ H _ us Q I r ⟨_, _, rfl, .inl ⟨SqL.of (sb.lst h1), k.tup sb q1⟩⟩
  · cases hz
    obtain ⟨v, rfl, hv⟩ := rl.one
    cases hv with
    | tup h1 q1 => exact call_tuple_of pins s σ H _ us Q I r ⟨_, _, rfl, .inr ⟨SqT.of (sb.tup h1), k.here sb (Rp.tup h1 q1)⟩⟩
  · cases hz
end
/-! ### l.index(x), l.count(x) -/
def rIdxV (K : PySem.W.Frag) (f : D → D → Option D) : V → List V → Hp → VK → Prop := fun x xs H Q => ∃ y d e S w c, xs = [y] ∧ Sub K S H w ∧ RD S d x ∧ RD S e y ∧ f d e = some c ∧ Ans K S H w c Q
theorem idxP_some {d : PyData} : ∀ {xs : List PyData} {j : Nat}, idxP d xs = some j → ∃ z, xs[j]? = some z ∧ PyData.eqv z d = true ∧ ∀ (m : Nat) (z' : PyData), m < j → xs[m]? = some z' → PyData.eqv z' d = false
  | [], _, h => by cases h
  | x :: r, j, h => by
    unfold idxP at h
    split at h
    · rename_i hx
      cases h
      exact ⟨x, rfl, hx, fun m _ hm => by omega⟩
    · rename_i hx
      obtain ⟨k, hk, rfl⟩ := Option.map_eq_some_iff.mp h
      obtain ⟨z, h1, h2, h3⟩ := idxP_some hk
      refine ⟨z, by simpa using h1, h2, fun m z' hm hz => ?_⟩
      cases m with
      | zero =>
        have e : x = z' := Option.some.inj hz
        subst e
        simpa using hx
      | succ m => exact h3 m z' (by omega) (by simpa using hz)
section
variable {X : Cx}
theorem mt_idxV (hu : X.A.units + 65 < cLine) : MtR X "list.index" (rIdxV X.K idxV) := by
  intro pins s σ H x xs v us Q I rx rxs h
  obtain ⟨y, d, e, S, w, c, rfl, sb, r1, r2, hf, k⟩ := h
  unfold idxV at hf
  split at hf
  · rename_i ds d
    split at hf
    · rename_i hs
      obtain ⟨j, hj, rfl⟩ := Option.map_eq_some_iff.mp hf
      obtain ⟨z, z1, z2, z3⟩ := idxP_some hj
      have r1 : Rp S (.list ds) x := r1
      have dx := r1.dp sb
      cases r1 with
      | lst h1 q1 => exact mt_indexD hu pins s σ H _ _ v us Q I rx rxs ⟨_, y, d, ds, j, z, rfl, rfl, dx, (show Rp S d y from r2).dp sb, hs.1, hs.2, z1, z2, z3, k.int sb⟩
    · cases hf
  · cases hf
theorem mt_cntV (hu : X.A.units + 65 < cLine) : MtR X "list.count" (rIdxV X.K cntV) := by
  intro pins s σ H x xs v us Q I rx rxs h
  obtain ⟨y, d0, e0, S, w, c, rfl, sb, r1, r2, hf, k⟩ := h
  unfold cntV at hf
  split at hf
  · rename_i ds d
    split at hf
    · rename_i hs
      have hf : D.int ((ds.countP fun z => PyData.eqv z d : Nat) : Int) = c := Option.some.inj hf
      subst hf
      have r1 : Rp S (.list ds) x := r1
      have dx := r1.dp sb
      have dy := (show Rp S d y from r2).dp sb
      cases r1 with
      | lst h1 q1 =>
        cases rx
        obtain ⟨uy, rfl, ry⟩ := rxs.one
        obtain ⟨bs, hb⟩ := Dp.reads I d y uy dy ry
        cases dx with
        | lst hsq hall =>
          obtain ⟨vals, rv, ⟨⟨cls, dd, data, sls⟩, n, ho, hc, hdn, hdt⟩, hlen⟩ := I.list hsq
          dsimp only at hc hdt
          subst hc hdt
          obtain ⟨as, ha⟩ := Dp.readsAll I ds _ vals hall rv
          have hxs : PyData.canLayAll0 ds = true := SeqAt.canLay_of_shaped hs.1
          have hmap : vals.map (SeqAt.readOf s.heap) = ds := SeqAt.readsAll_map ds vals as hxs ha
          refine call_meets PySem.F.slot_list_count ⟨_, ho, rfl⟩ PySem.F.entry_list_count (PySem.F.args_list_count_2 _ _)
            (SeqAt.list_countAt _ vals.toArray n dd sls uy (fun u => PyData.eqv (SeqAt.readOf s.heap u) d)) ⟨ho, SeqAt.items_eqAt (vs := vals.toArray) (show ReadsAll s.heap vals.toArray.toList ds as from ha) hb hxs (SeqAt.canLay_of_shaped hs.2) (room_in_shaped hs.2 hu), ?_⟩
          have ec : vals.toArray.toList.countP (fun u => PyData.eqv (SeqAt.readOf s.heap u) d) = ds.countP fun z => PyData.eqv z d := by
            rw [← hmap, List.countP_map]
            rfl
          refine ⟨.int ((ds.countP fun z => PyData.eqv z d : Nat) : Int), H, I.tok _, ⟨s.toks, ?_⟩, k.int sb⟩
          rw [← ec]
    · cases hf
  · cases hf
end
end Ev

end

section
/-! EvS: slices by a step; a list of an enumerate. -/
namespace Ev
open PySem PySem.Spec PyProof.Rows L2

/-! ### xs[lo::st] -/
theorem vals_at : ∀ {xs : List V} {us : List Value} {i : Nat} {x : V}, Vals xs us → xs[i]? = some x → ∃ u, us[i]? = some u ∧ RelV x u
  | [], _, _, _, .nil, e => by simp at e
  | _ :: _, _ :: _, 0, _, .cons h _, e => by
    have e : _ = _ := Option.some.inj e
    subst e
    exact ⟨_, rfl, h⟩
  | _ :: _, _ :: _, i + 1, _, .cons _ r, e => vals_at (i := i) r e
theorem vals_pick {xs : List V} {us : List Value} (r : Vals xs us) : ∀ is : List Nat, Vals (is.filterMap fun i => xs[i]?) (is.filterMap fun i => us[i]?)
  | [] => .nil
  | i :: is => by
    have ih := vals_pick r is
    have hl := r.length
    rw [List.filterMap_cons, List.filterMap_cons]
    by_cases h : i < xs.length
    · obtain ⟨u, hu, ru⟩ := vals_at r (List.getElem?_eq_getElem h)
      rw [List.getElem?_eq_getElem h, hu]
      exact .cons ru ih
    · rw [List.getElem?_eq_none (by omega), List.getElem?_eq_none (by omega)]
      exact ih
theorem Rps.pick {S : GH} {ds : List PyData} {vs : List V} (r : Rps S ds vs) : ∀ is : List Nat, Rps S (is.filterMap fun i => ds[i]?) (is.filterMap fun i => vs[i]?)
  | [] => .nil
  | i :: is => by
    have ih := r.pick is
    have hl := r.length
    rw [List.filterMap_cons, List.filterMap_cons]
    by_cases h : i < ds.length
    · obtain ⟨u, hu, ru⟩ := r.get (List.getElem?_eq_getElem h)
      rw [List.getElem?_eq_getElem h, hu]
      exact .cons ru ih
    · rw [List.getElem?_eq_none (by omega), List.getElem?_eq_none (by omega)]
      exact ih
theorem Rps.pickL {S : GH} {ds : List PyData} {vs : List V} (r : Rps S ds vs) (lo st : Option Int) : Rps S (Ev.pickL ds lo st) (Ev.pickL vs lo st) := by
  unfold Ev.pickL
  rw [r.length]
  exact r.pick _
theorem vals_snoc {x : V} {u : Value} (h : RelV x u) : ∀ {xs : List V} {us : List Value}, Vals xs us → Vals (xs ++ [x]) (us ++ [u])
  | _, _, .nil => .cons h .nil
  | _, _, .cons a r => .cons a (vals_snoc h r)
theorem vals_rev : ∀ {xs : List V} {us : List Value}, Vals xs us → Vals xs.reverse us.reverse
  | _, _, .nil => .nil
  | _, _, .cons a r => by
    rw [List.reverse_cons, List.reverse_cons]
    exact vals_snoc a (vals_rev r)
/-! t[::-1] -/
section
variable {prog : Program} {w : World} {A : Around} {E : Value → Shared → Prop} {s : Shared}
theorem back_applied {sl : Addr} {u : Tok} {n : Nat} {Q : Int × Int × Nat → Shared → Prop} (hs : s.heap.IsSliceOf sl .none .none (.int (-1) u)) (h : Q ((n : Int) - 1, -1, n) s) :
    wpAny (model prog w) A (Builtin.Slice.sliceApplied (.ref sl) (pure (n : Int))) Q E s := by
  obtain ⟨os, hos, hcs, hds⟩ := id hs
  unfold Builtin.Slice.sliceApplied Builtin.Slice.sliceFields
  have f0 : ∀ {Q' : Value → Shared → Prop}, Q' .none s → wpAny (model prog w) A (field (.ref sl) 0) Q' E s := fun q => wpAny_field hos hds (x := .none) rfl q
  have f1 : ∀ {Q' : Value → Shared → Prop}, Q' .none s → wpAny (model prog w) A (field (.ref sl) 1) Q' E s := fun q => wpAny_field hos hds (x := .none) rfl q
  have f2 : ∀ {Q' : Value → Shared → Prop}, Q' (.int (-1) u) s → wpAny (model prog w) A (field (.ref sl) 2) Q' E s := fun q => wpAny_field hos hds (x := .int (-1) u) rfl q
  refine wpAny_bind (wpAny_bind (f0 (wpAny_bind (f1 (wpAny_bind (f2 (wpAny_pure ?_)))))))
  refine wpAny_bind (slicePart_int ?_)
  show wpAny _ _ (if ((-1 : Int) == 0) = true then _ else _) _ _ s
  rw [if_neg (by decide)]
  refine wpAny_bind (slicePart_none (wpAny_bind (slicePart_none (wpAny_bind (wpAny_pure (wpAny_pure ?_))))))
  have e2 : Builtin.Slice.slicePlaces ((n : Int) - 1) (-1) (-1) = n := by
    unfold Builtin.Slice.slicePlaces
    rw [if_neg (by decide)]
    have e3 : (-(-1 : Int)) = 1 := rfl
    split
    · rw [e3, Int.ediv_one]
      omega
    · omega
  show Q ((n : Int) - 1, -1, Builtin.Slice.slicePlaces ((n : Int) - 1) (-1) (-1)) s
  rw [e2]
  exact h
theorem fm_map {α β : Type} {f : α → Option β} {g : α → β} : ∀ {l : List α}, (∀ m ∈ l, f m = some (g m)) → l.filterMap f = l.map g
  | [], _ => rfl
  | a :: l, h => by
    rw [List.filterMap_cons, h a List.mem_cons_self, List.map_cons, fm_map fun m hm => h m (List.mem_cons_of_mem _ hm)]
theorem back_pick (xs : Array Value) : ((List.range xs.size).filterMap fun (m : Nat) => xs[((xs.size : Int) - 1 + (m : Int) * -1).toNat]?) = xs.toList.reverse := by
  obtain ⟨l, rfl⟩ : ∃ l : List Value, xs = l.toArray := ⟨xs.toList, by rw [Array.toArray_toList]⟩
  rw [List.size_toArray]
  have e : ∀ m ∈ List.range l.length, (l.toArray)[((l.length : Int) - 1 + (m : Int) * -1).toNat]? = some (l.reverse.getD m .none) := fun m hm => by
    have hm := List.mem_range.mp hm
    have : ((l.length : Int) - 1 + (m : Int) * -1).toNat = l.length - 1 - m := by omega
    rw [this, List.getElem?_toArray, List.getD_eq_getElem?_getD, List.getElem?_reverse hm, List.getElem?_eq_getElem (show l.length - 1 - m < l.length by omega)]
    rfl
  rw [fm_map e]
  apply List.ext_getElem
  · simp
  · intro i h1 h2
    have h2' : i < l.length := by simpa using h2
    rw [List.getElem_map, List.getElem_range, List.getD_eq_getElem?_getD, List.getElem?_eq_getElem (by rw [List.length_reverse]; exact h2')]
    rfl
theorem back_tuple {t sl : Addr} {items : Array Value} {u : Tok} {Q : Value → Shared → Prop} (ht : IsTup s.heap t items) (hs : s.heap.IsSliceOf sl .none .none (.int (-1) u)) (h0 : items.size ≤ sizeLine)
    (h : Q (.ref s.heap.objs.size) { s with heap := s.heap.push { cls := .type "tuple", data := .seq items.toList.reverse.toArray } }) : wpAny (model prog w) A (getItem (.ref t) (.ref sl)) Q E s := by
  have hz : PySem.sizeOk (.seq items.toList.reverse.toArray) := by
    show items.toList.reverse.toArray.size ≤ sizeLine
    simpa using h0
  have hTs : s.TypeIs (.ref sl) "slice" := by obtain ⟨os, hos, hcs, _⟩ := id hs; exact ⟨os, hos, hcs⟩
  unfold getItem
  try with_reducible refine wpAny_holding ?_
  first | refine wpAny_bind (wpAny_pure ?_) | skip
  refine wpAny_bind (wpAny_sequenceKey ht.typeIs (by decide) (wpAny_bind (wpAny_callSpecial?_slot (name := Str.ofString "__getitem__") ht.typeIs PyProof.Rows.slot_tuple_getitem
    (wpAny_call_entry PyProof.Rows.slot_tuple_getitem ht.typeIs entry_tuple_getitem ?_ (args_tuple_getitem _ _)))))
  show wpAny _ _ (Builtin.Tuple.tupleItemsOf (.ref t) >>= _) _ _ s
  refine wpAny_bind (tupleItemsOf_ ht (wpAny_bind (wpAny_typeOf hTs ?_)))
  rw [if_pos (by decide)]
  refine wpAny_bind (back_applied hs ?_)
  have hno : ¬ (((items.size : Int) - 1 == 0 && (-1 : Int) == 1 && items.size == items.size) = true) := by simp
  show wpAny _ _ (if ((items.size : Int) - 1 == 0 && (-1 : Int) == 1 && items.size == items.size) = true then _ else _) _ _ s
  rw [if_neg hno, back_pick]
  first
    | exact wpAny_bind (m := Builtin.Tuple.tupleExact _) (wpAny_newObj_type (wpAny_pure ⟨_, rfl, wpAny_pure h⟩) hz)
    | exact wpAny_bind (m := Builtin.Tuple.tupleExact _) (wpAny_newObj_type (wpAny_bind (wpAny_pure (wpAny_pure ⟨_, rfl, wpAny_pure h⟩))) hz)
    | exact wpAny_bind (wpAny_bind (m := Builtin.Tuple.tupleExact _) (wpAny_newObj_type (wpAny_pure (wpAny_pure ⟨_, rfl, wpAny_pure h⟩)) hz))
    | exact wpAny_bind (wpAny_bind (m := Builtin.Tuple.tupleExact _) (wpAny_newObj_type (wpAny_pure ⟨_, rfl, wpAny_pure h⟩) hz))
end
section
variable {X : Cx}
/-- a list's places by a step; a tuple backward -/
def rSl3 (K : PySem.W.Frag) : V → Option Int → Option Int → Hp → VK → Prop := fun x lo st H3 Q => (∃ a xs, x = .ref a ∧ SqL K H3 a xs ∧ st ≠ some 0 ∧ (pickL xs lo st).length ≤ sizeLine ∧ ∀ p, H3 p = none → Q (.ref p) (upd H3 p (.lst (pickL xs lo st)))) ∨
  ∃ a xs, x = .ref a ∧ SqT K H3 a xs ∧ lo = none ∧ st = some (-1) ∧ ∀ p, H3 p = none → Q (.ref p) (upd H3 p (.tup xs.reverse))
def tSl3 (K : PySem.W.Frag) (te : TE) (tl th : TO) : TE := fun σ H Q => te σ H fun x H1 => tl σ H1 fun lo H2 => th σ H2 fun st H3 => rSl3 K x lo st H3 Q
theorem pe_sl3 {e se : Expr} {lo : Option Expr} {te : TE} {tl th : TO} {p2 pos : Pos} (he : PE X e te) (hl : PO X lo tl) (hs : PO X (some se) th) : PE X (.Subscript e (.Slice lo none (some se) p2) pos) (tSl3 X.K te tl th) := by
  refine ⟨fun pins s σ H Q I h => ?_⟩
  refine Subscript_ (thn (he.run pins s σ H _ I h) fun v s1 ⟨x, H1, I1, r1, q1⟩ => ?_)
  refine wpAny_Slice (thn (hl.run pins s1 σ H1 _ I1 q1) fun vl s2 ⟨l, H2, I2, pl, q2⟩ => ?_)
  refine thn (po_none.run pins s2 σ H2 (fun o H3 => o = none ∧ H3 = H2) I2 ⟨rfl, rfl⟩) fun vu s3 ⟨u, H3, I3, pu, eu, e3⟩ => ?_
  subst eu e3
  refine thn (hs.run pins s3 σ H3 _ I3 q2) fun vs s4 ⟨o, H4, I4, ps, q4⟩ => ?_
  have J : Inv X pins σ H4 { s4 with heap := s4.heap.push { cls := .type "slice", data := .fields #[vl, vu, vs] } } := I4.kept (t' := s4.toks) fun b ob q => Heap.get?_push_of_some _ q
  rcases q4 with ⟨a, xs, rfl, hx, h0, hz, q⟩ | ⟨a, xs, rfl, hx, rfl, rfl, q⟩
  · cases r1
    obtain ⟨its, r, ht, hzz⟩ := J.list hx
    have hlen := r.length
    show wpAny (model X.prog X.w) X.A (subscriptTail e (.Slice lo none (some se) p2) (.ref a) (.ref s4.heap.objs.size)) (EP X pins σ Q) X.xe _
    refine tail_any (ops := [.ref a, .ref s4.heap.objs.size]) ht.isList.typeIs (PySem.slot_list_getitem.lookup) ?_ (by with_unfolding_all rfl)
    refine wpAny_getItem_list_slice ht.isList (Heap.IsSliceOf.new _ vl vu vs) pl pu ps h0 ?_ (by rw [List.size_toArray]; omega)
    have epk : slicePick its.toArray l none o = ((pickI xs.length l o).filterMap fun i => its[i]?).toArray := by
      unfold slicePick pickI
      rw [List.size_toArray, hlen]
      simp
    rw [epk]
    exact ⟨.ref _, _, J.laid (t' := s4.toks) (o := .lst (pickL xs l o)) (fun b ob q => Heap.get?_push_of_some _ q) (Nat.le_refl _) ⟨hz, _, 0, vals_pick r _, Heap.get?_push_size _ rfl⟩, rfl, q _ (J.hok.fresh (Nat.le_refl _))⟩
  · cases r1
    cases pl
    cases pu
    cases ps
    obtain ⟨its, r, ht, hzz⟩ := J.tuple hx
    have hlen : its.toArray.size = xs.length := by rw [List.size_toArray]; exact r.length.symm
    show wpAny (model X.prog X.w) X.A (subscriptTail e (.Slice lo none (some se) p2) (.ref a) (.ref s4.heap.objs.size)) (EP X pins σ Q) X.xe _
    refine tail_any (ops := [.ref a, .ref s4.heap.objs.size]) ht.typeIs PyProof.Rows.slot_tuple_getitem.lookup ?_ (by with_unfolding_all rfl)
    refine back_tuple ht (Heap.IsSliceOf.new _ _ _ _) (by rw [hlen]; exact hzz) ?_
    refine ⟨.ref _, _, J.laid (t' := s4.toks) (o := .tup xs.reverse) (fun b ob q => Heap.get?_push_of_some _ q) (Nat.le_refl _) ⟨by rw [List.length_reverse]; exact hzz, _, vals_rev r, ?_⟩, rfl, q _ (J.hok.fresh (Nat.le_refl _))⟩
    have e : its.toArray.toList.reverse.toArray = its.reverse.toArray := by simp
    rw [e]
    exact IsTup.new _ _
end
/-! ### list(enumerate(xs)) -/
/-- an enumerate that has given out a tuple which is still there -/
def EnOut (h : Heap) (e it : Addr) (i : Nat) (a : Addr) (f : Bool) (old : Value) : Prop := h.get? e = some { cls := .type "enumerate", dict := none, data := .fields #[rawInt a, .bool f, .ref it, rawInt i, .none, old], slots := #[] }
def EnSt (h : Heap) (e it S : Addr) (i : Nat) : Prop := (∃ old, IsEnum h e it i old) ∨ ∃ a f old oa, EnOut h e it i a f old ∧ h.get? a = some oa ∧ a ≠ e ∧ a ≠ it ∧ a ≠ S
theorem EnSt.keep {h h' : Heap} {e it S : Addr} {i : Nat} (x : EnSt h e it S i) (k : ∀ b o, b ≠ S → h.get? b = some o → h'.get? b = some o) (he : e ≠ S) : EnSt h' e it S i := by
  rcases x with ⟨old, x⟩ | ⟨a, f, old, oa, x, y, z1, z2, z3⟩
  · exact .inl ⟨old, k _ _ he x⟩
  · exact .inr ⟨a, f, old, oa, k _ _ he x, k _ _ z3 y, z1, z2, z3⟩
section
variable {prog : Program} {w : World} {A : Around} {E : Value → Shared → Prop} {s : Shared}
theorem en_alive {a : Addr} {o : Obj} {Q : Option Obj → Shared → Prop} (ho : s.heap.get? a = some o) (h : Q (some o) s) : wpAny (model prog w) A (loadIfAlive a) Q E s := by
  have h' : Q (s.heap.get? a) s := by rw [ho]; exact h
  exact fun _ _ _ => h'
theorem en_next_out {e it l a : Addr} {f : Bool} {oa : Obj} {i : Nat} {items : Array Value} {x old : Value} {Q : Option Value → Shared → Prop} (he : EnOut s.heap e it i a f old) (ha : s.heap.get? a = some oa) (hae : a ≠ e) (hai : a ≠ it)
    (hit : s.heap.IsListIter it l i) (hl : s.heap.IsList l items) (hx : items[i]? = some x) (hne : e ≠ it)
    (hQ : ∀ h', EnOut h' e it (i + 1) a true old → h'.IsListIter it l (i + 1) → h'.get? s.heap.objs.size = some { cls := .type "tuple", data := .seq #[.int i s.toks, x] } → h'.objs.size = s.heap.objs.size + 1 →
      (∀ b o, b ≠ e → b ≠ it → s.heap.get? b = some o → h'.get? b = some o) → Q (some (.ref s.heap.objs.size)) { s with heap := h', toks := s.toks + 1 }) :
    wpAny (model prog w) A (pyNext (.ref e)) Q E s := by
  obtain ⟨hp, g, d, tk, os⟩ := s
  have ty : Shared.TypeIs ⟨hp, g, d, tk, os⟩ (.ref e) "enumerate" := ⟨_, he, rfl⟩
  unfold pyNext
  refine wpAny_bind (wpAny_attempt (wpAny_callSpecial?_slot (name := Str.ofString "__next__") ty PySem.F.slot_enumerate_next (wpAny_call_entry PySem.F.slot_enumerate_next ty PySem.F.entry_enumerate_next ?_ (PySem.F.args_enumerate_next_1 _))))
  show wpAny _ _ (field (.ref e) 2 >>= _) _ _ _
  refine wpAny_bind (wpAny_field he rfl (x := .ref it) rfl (wpAny_bind (wpAny_nextOf_list_item hit hl hx fun hA itA sA => ?_)))
  replace sA : Heap.SameBut it hp hA := sA
  have eA : EnOut hA e it i a f old := (sA.2 e hne).trans he
  show wpAny _ _ (field (.ref e) 3 >>= _) _ _ ⟨hA, g, d, tk, os⟩
  refine wpAny_bind (wpAny_field eA rfl (x := rawInt i) rfl ?_)
  show wpAny _ _ (field (.ref e) 4 >>= _) _ _ ⟨hA, g, d, tk, os⟩
  refine wpAny_bind (wpAny_field eA rfl (x := .none) rfl ?_)
  show wpAny _ _ (mkInt i >>= _) _ _ ⟨hA, g, d, tk, os⟩
  refine wpAny_bind (wpAny_mkInt ?_)
  show wpAny _ _ (setField (.ref e) 3 (rawInt ((i : Int) + 1)) >>= _) _ _ ⟨hA, g, d, tk + 1, os⟩
  refine wpAny_bind (wpAny_setField_rec eA (by simp) fun hB eB sB => ?_)
  replace sB : Heap.SameBut e hA hB := sB
  replace eB : EnOut hB e it (i + 1) a f old := eB
  show wpAny _ _ (setField (.ref e) 4 .none >>= _) _ _ ⟨hB, g, d, tk + 1, os⟩
  refine wpAny_bind (wpAny_setField_rec eB (by simp) fun hC eC sC => ?_)
  replace sC : Heap.SameBut e hB hC := sC
  replace eC : EnOut hC e it (i + 1) a f old := eC
  show wpAny _ _ (newTuple [.int i tk, x] >>= _) _ _ ⟨hC, g, d, tk + 1, os⟩
  refine wpAny_bind (wpAny_newTuple ?_)
  have eD : EnOut (hC.push { cls := .type "tuple", data := .seq #[.int i tk, x] }) e it (i + 1) a f old := Heap.get?_push_of_some _ eC
  have zC : hC.objs.size = hp.objs.size := by rw [sC.1, sB.1, sA.1]
  have el : e < hp.objs.size := Heap.lt_size he
  have tD : (hC.push { cls := .type "tuple", data := .seq #[.int i tk, x] }).get? hp.objs.size = some { cls := .type "tuple", data := .seq #[.int i tk, x] } := by rw [← zC]; exact Heap.get?_push_size _ rfl
  have zD : (hC.push { cls := .type "tuple", data := .seq #[.int i tk, x] }).objs.size = hp.objs.size + 1 := by rw [Heap.size_push, zC]
  have kD : ∀ b o, b ≠ e → b ≠ it → hp.get? b = some o → (hC.push { cls := .type "tuple", data := .seq #[.int i tk, x] }).get? b = some o := fun b o z1 z2 q =>
    Heap.get?_push_of_some _ (sC.extBut b o z1 (sB.extBut b o z1 (sA.extBut b o z2 q)))
  have itD : (hC.push { cls := .type "tuple", data := .seq #[.int i tk, x] }).IsListIter it l (i + 1) := by
    obtain ⟨o, ho, r⟩ := (itA.extBut sB.extBut (Ne.symm hne)).extBut sC.extBut (Ne.symm hne)
    exact ⟨o, Heap.get?_push_of_some _ ho, r⟩
  rw [zC]
  generalize hC.push { cls := .type "tuple", data := .seq #[.int i tk, x] } = hD at *
  have aD : hD.get? a = some oa := kD a oa hae hai ha
  show wpAny _ _ (Builtin.SmallTypes.ownedTupleIsFree (.ref e) >>= _) _ _ ⟨hD, g, d, tk + 1, os⟩
  refine wpAny_bind ?_
  unfold Builtin.SmallTypes.ownedTupleIsFree
  refine wpAny_bind (wpAny_field eD rfl (x := rawInt a) rfl ?_)
  show wpAny _ _ (loadIfAlive ((a : Int).toNat) >>= _) _ _ _
  rw [Int.toNat_natCast]
  refine wpAny_bind (en_alive aD ?_)
  simp only [Option.isNone_some, Bool.false_eq_true, if_false]
  refine wpAny_bind (wpAny_field eD rfl (x := .bool f) rfl ?_)
  have fin : ∀ hE : Heap, EnOut hE e it (i + 1) a true old → Heap.SameBut e hD hE → Q (some (.ref hp.objs.size)) ⟨hE, g, d, tk + 1, os⟩ := fun hE eE sE =>
    hQ hE eE (itD.extBut sE.extBut (Ne.symm hne)) (sE.extBut _ _ (Nat.ne_of_gt el) tD) (by show hE.objs.size = hp.objs.size + 1; rw [sE.1, zD]) fun b o z1 z2 q => sE.extBut b o z1 (kD b o z1 z2 q)
  cases f with
  | true =>
    rw [if_neg (show ¬ ((Value.bool true != Value.bool true) = true) from Bool.false_ne_true)]
    refine wpAny_pure ?_
    simp only [Bool.false_eq_true, if_false]
    exact wpAny_pure ⟨_, rfl, wpAny_pure (fin hD eD (Heap.SameBut.refl _ _))⟩
  | false =>
    rw [if_pos (show (Value.bool false != Value.bool true) = true from rfl)]
    refine wpAny_bind (wpAny_setField_rec eD (by simp) fun hE eE sE => ?_)
    replace sE : Heap.SameBut e hD hE := sE
    replace eE : EnOut hE e it (i + 1) a true old := eE
    refine wpAny_pure ?_
    simp only [Bool.false_eq_true, if_false]
    exact wpAny_pure ⟨_, rfl, wpAny_pure (fin hE eE sE)⟩
theorem en_next {e it l S : Addr} {i : Nat} {items : Array Value} {x : Value} {Q : Option Value → Shared → Prop} (st : EnSt s.heap e it S i) (hS : S < s.heap.objs.size) (hit : s.heap.IsListIter it l i) (hl : s.heap.IsList l items) (hx : items[i]? = some x) (hne : e ≠ it)
    (hQ : ∀ h', EnSt h' e it S (i + 1) → h'.IsListIter it l (i + 1) → h'.get? s.heap.objs.size = some { cls := .type "tuple", data := .seq #[.int i s.toks, x] } → h'.objs.size = s.heap.objs.size + 1 →
      (∀ b o, b ≠ e → b ≠ it → s.heap.get? b = some o → h'.get? b = some o) → Q (some (.ref s.heap.objs.size)) { s with heap := h', toks := s.toks + 1 }) :
    wpAny (model prog w) A (pyNext (.ref e)) Q E s := by
  rcases st with ⟨old, he⟩ | ⟨a, f, old, oa, he, ha, z1, z2, z3⟩
  · have el : e < s.heap.objs.size := Heap.lt_size he
    have il : it < s.heap.objs.size := by
      obtain ⟨_, q, _⟩ := hit
      exact Heap.lt_size q
    exact wpAny_pyNext_enum_item he hit hl hx hne fun h' k1 k2 k3 k4 k5 => hQ h' (.inr ⟨_, false, x, _, k1, k3, Nat.ne_of_gt el, Nat.ne_of_gt il, Nat.ne_of_gt hS⟩) k2 k3 k4 k5
  · exact en_next_out he ha z1 z2 hit hl hx hne fun h' k1 k2 k3 k4 k5 => hQ h' (.inr ⟨a, true, old, oa, k1, k5 a oa z1 z2 ha, z1, z2, z3⟩) k2 k3 k4 k5
theorem en_done {e it l S : Addr} {i : Nat} {items : Array Value} {Q : Option Value → Shared → Prop} (hh : A.handled = none) (st : EnSt s.heap e it S i) (hit : s.heap.IsListIter it l i) (hl : s.heap.IsList l items) (hx : items[i]? = none)
    (hQ : ∀ h', Heap.ExtBut it s.heap h' → Q none { s with heap := h' }) : wpAny (model prog w) A (pyNext (.ref e)) Q E s := by
  rcases st with ⟨old, he⟩ | ⟨a, f, old, oa, he, ha, z1, z2, z3⟩
  · exact wpAny_pyNext_enum_end hh he hit hl hx hQ
  · have ty : s.TypeIs (.ref e) "enumerate" := ⟨_, he, rfl⟩
    unfold pyNext
    refine wpAny_bind (wpAny_attempt (wpAny_callSpecial?_slot (name := Str.ofString "__next__") ty PySem.F.slot_enumerate_next (wpAny_call_entry PySem.F.slot_enumerate_next ty PySem.F.entry_enumerate_next ?_ (PySem.F.args_enumerate_next_1 _))))
    show wpAny _ _ (field (.ref e) 2 >>= _) _ _ _
    refine wpAny_bind (wpAny_field he rfl (x := .ref it) rfl (wpAny_bind (wpAny_nextOf_list_end hh hit hl hx fun h' x k1 k2 => ?_)))
    obtain ⟨o, ho, hc⟩ := k2
    exact wpAny_bind (wpAny_isInstance (T := "StopIteration") (b := true) ⟨o, ho, hc⟩ isSubtype_stop (wpAny_pure (hQ _ k1)))
/-- the tuples given out, in the list's order -/
structure EnG (its : Array Value) (S : Addr) (h : Heap) (as : List Addr) : Prop where
  rise : as.Pairwise (· < ·)
  above : ∀ a ∈ as, S < a
  pairs : ∀ (j : Nat) (a : Addr), as[j]? = some a → ∃ t x, its[j]? = some x ∧ h.get? a = some { cls := .type "tuple", data := .seq #[.int j t, x] }
theorem EnG.nil {its : Array Value} {S : Addr} {h : Heap} : EnG its S h [] := ⟨.nil, fun _ z => (nomatch z), fun j a z => by simp at z⟩
theorem en_loop {e it l S : Addr} {its : Array Value} (hh : A.handled = none) (he : e < S) (hi : it < S) (hne : e ≠ it) (hlS : l < S) (hle : l ≠ e) (hli : l ≠ it) (hz : its.size ≤ sizeLine) (res : Value) {R : Result → Shared → Prop} {hO : Heap}
    (hR : ∀ h' tk acc c as, (∀ b o, b ≠ S → b ≠ e → b ≠ it → hO.get? b = some o → h'.get? b = some o) → h'.get? S = some { cls := .type "list", dict := none, data := .seq acc c, slots := #[] } → as.length = its.size → EnG its S h' as →
      acc.toList = as.map Value.ref → R (.ok (.ret res)) { s with heap := h', toks := tk }) :
    ∀ (k i : Nat) (h : Heap) (tk c : Nat) (acc : Array Value) (as : List Addr), its.size - i = k → i ≤ its.size → EnSt h e it S i → h.IsListIter it l i → h.IsList l its → (∀ b o, b ≠ S → b ≠ e → b ≠ it → hO.get? b = some o → h.get? b = some o) →
      h.get? S = some { cls := .type "list", dict := none, data := .seq acc c, slots := #[] } → acc.toList = as.map Value.ref → as.length = i → EnG its S h as →
      codeAny (model prog w) A (.builtin "list.extend.loop" ⟨[.ref S, .ref e, res], []⟩) R { s with heap := h, toks := tk } := by
  have nSe : S ≠ e := Nat.ne_of_gt he
  have nSi : S ≠ it := Nat.ne_of_gt hi
  intro k
  induction k with
  | zero =>
    intro i h tk c acc as hk hi' st hit hl keep hS hacc hal hG
    refine codeAny_builtin PySem.F.entry_extend_loop ?_
    rw [Around.under_plainId PySem.F.plain_extend_loop _]
    show wpAny _ A.in1 (pyNext (.ref e) >>= _) _ _ _
    refine wpAny_bind (en_done (s := { s with heap := h, toks := tk }) (A := A.in1) hh st hit hl (Array.getElem?_eq_none (by omega)) fun h' q => ?_)
    refine wpAny_pure (hR h' tk acc c as (fun b o z1 z2 z3 y => q b o z3 (keep b o z1 z2 z3 y)) (q S _ nSi hS) (by omega) ⟨hG.rise, hG.above, fun j a hj => ?_⟩ hacc)
    obtain ⟨t, x, y1, y2⟩ := hG.pairs j a hj
    exact ⟨t, x, y1, q a _ (Nat.ne_of_gt (Nat.lt_trans hi (hG.above a (List.mem_of_getElem? hj)))) y2⟩
  | succ k ih =>
    intro i h tk c acc as hk hi' st hit hl keep hS hacc hal hG
    have hlt : i < its.size := by omega
    have hsz : acc.size = i := by rw [← Array.length_toList, hacc, List.length_map, hal]
    have Sl : S < h.objs.size := Heap.lt_size hS
    refine codeAny_builtin PySem.F.entry_extend_loop ?_
    rw [Around.under_plainId PySem.F.plain_extend_loop _]
    show wpAny _ A.in1 (pyNext (.ref e) >>= _) _ _ _
    refine wpAny_bind (en_next (s := { s with heap := h, toks := tk }) (S := S) st Sl hit hl (Array.getElem?_eq_getElem hlt) hne fun h' st' it' ht hz' kp => ?_)
    dsimp only at ht hz' kp ⊢
    have S' := kp S _ nSe nSi hS
    have up : ∀ b o, b ≠ S → h'.get? b = some o → (h'.update S (Obj.mapSeq (·.push (Value.ref h.objs.size)))).get? b = some o := fun b o hb q => (Heap.get?_update_other _ _ (Ne.symm hb)).trans q
    show wpAny _ A.in1 (updateSeq S (·.push (Value.ref h.objs.size)) >>= _) _ _ _
    refine wpAny_bind (wpAny_updateSeq S' rfl (wpAny_pure ⟨plainId_quiet PySem.F.plain_extend_loop _, ih (i + 1) _ _ _ (acc.push (Value.ref h.objs.size)) (as ++ [h.objs.size]) (by omega) hlt (st'.keep up (Ne.symm nSe)) ?_ (hl.at fun o q => up l o (Nat.ne_of_lt hlS) (kp l o hle hli q))
      (fun b o z1 z2 z3 q => up b o z1 (kp b o z2 z3 (keep b o z1 z2 z3 q))) (Heap.get?_update_self _ S' rfl) (by rw [Array.toList_push, hacc, List.map_append]; rfl) (by rw [List.length_append, hal]; rfl) ⟨?_, ?_, ?_⟩⟩) (by rw [hsz]; omega) (by show (acc.push (Value.ref h.objs.size)).size ≤ sizeLine + 1; rw [Array.size_push, hsz]; omega))
    · exact it'.at fun o q => up it o (Ne.symm nSi) q
    · refine List.pairwise_append.mpr ⟨hG.rise, List.pairwise_singleton _ _, fun a ha b hb => ?_⟩
      rw [List.mem_singleton.mp hb]
      obtain ⟨j, hj⟩ := List.mem_iff_getElem?.mp ha
      obtain ⟨_, _, _, q⟩ := hG.pairs j a hj
      exact Heap.lt_size q
    · intro a ha
      rcases List.mem_append.mp ha with ha | ha
      · exact hG.above a ha
      · rw [List.mem_singleton.mp ha]; exact Sl
    · intro j b hj
      rcases Nat.lt_trichotomy j as.length with c1 | c1 | c1
      · rw [List.getElem?_append_left c1] at hj
        obtain ⟨t, x, y1, y2⟩ := hG.pairs j b hj
        have hb := hG.above b (List.mem_of_getElem? hj)
        exact ⟨t, x, y1, up b _ (Nat.ne_of_gt hb) (kp b _ (Nat.ne_of_gt (Nat.lt_trans he hb)) (Nat.ne_of_gt (Nat.lt_trans hi hb)) y2)⟩
      · subst c1
        have hb : h.objs.size = b := by simpa using hj
        subst hb
        subst hal
        exact ⟨tk, _, Array.getElem?_eq_getElem hlt, up _ _ (Nat.ne_of_gt Sl) ht⟩
      · have hn : (as ++ [h.objs.size])[j]? = none := List.getElem?_eq_none (by rw [List.length_append, List.length_singleton]; omega)
        rw [hn] at hj
        cases hj
theorem en_nolen : typeLookup (.type "enumerate") "__len__" = pure none := by rw [typeLookup_type, builtinLookup_eq_fast]; kernel_rfl
theorem en_nohint : typeLookup (.type "enumerate") "__length_hint__" = pure none := by rw [typeLookup_type, builtinLookup_eq_fast]; kernel_rfl
theorem en_hint {r : Addr} (ty : s.TypeIs (.ref r) "enumerate") {Q : Bool → Shared → Prop} (h : ∀ b, Q b s) : wpAny (model prog w) A (Builtin.List.listLengthHint (.ref r)) Q E s := by
  unfold Builtin.List.listLengthHint
  refine wpAny_bind (wpAny_specialOf ty en_nolen ?_)
  show wpAny _ _ (specialOf (Value.ref r) (Str.ofString "__length_hint__") >>= _) _ _ _
  refine wpAny_bind (wpAny_specialOf ty en_nohint ?_)
  exact wpAny_pure (h _)
theorem en_extend {e it l S : Addr} {its : Array Value} {R : Result → Shared → Prop} (hh : A.handled = none) (he : IsEnum s.heap e it 0 .none) (hit : s.heap.IsListIter it l 0) (hl : s.heap.IsList l its) (le : e < S) (li : it < S) (hne : e ≠ it) (hlS : l < S) (hle : l ≠ e) (hli : l ≠ it)
    (hz : its.size ≤ sizeLine) (res : Value) (c₀ : Nat) (hS : s.heap.get? S = some { cls := .type "list", data := .seq #[] c₀ })
    (hR : ∀ h' tk acc c as, (∀ b o, b ≠ S → b ≠ e → b ≠ it → s.heap.get? b = some o → h'.get? b = some o) → h'.get? S = some { cls := .type "list", dict := none, data := .seq acc c, slots := #[] } → as.length = its.size → EnG its S h' as →
      acc.toList = as.map Value.ref → R (.ok (.ret res)) { s with heap := h', toks := tk }) :
    wpAny (model prog w) A.in1 (Builtin.List.listExtendWith (.ref S) (.ref e) res)
      (fun fin s' => match fin with | .done f => R (.ok f) s' | .again c' => c'.quiet = true ∧ codeAny (model prog w) A c' R s') (fun x s' => R (.error x) s') s := by
  have nSe : S ≠ e := Nat.ne_of_gt le
  have nSi : S ≠ it := Nat.ne_of_gt li
  have ty : s.TypeIs (.ref e) "enumerate" := ⟨_, he, rfl⟩
  have key : ∀ (h : Heap) (c tk : Nat), (∀ b o, b ≠ S → s.heap.get? b = some o → h.get? b = some o) → h.get? S = some { cls := .type "list", data := .seq #[] c } → codeAny (model prog w) A (.builtin "list.extend.loop" ⟨[.ref S, .ref e, res], []⟩) R { s with heap := h, toks := tk } := fun h c tk keep hS' =>
    en_loop (s := s) (hO := s.heap) hh le li hne hlS hle hli hz res hR its.size 0 h tk c #[] [] (Nat.sub_zero _) (Nat.zero_le _) (.inl ⟨_, keep _ _ (Ne.symm nSe) he⟩) (hit.at fun o q => keep it o (Ne.symm nSi) q) (hl.at fun o q => keep l o (Nat.ne_of_lt hlS) q) (fun b o z _ _ q => keep b o z q) hS' rfl rfl EnG.nil
  unfold Builtin.List.listExtendWith
  refine wpAny_bind (wpAny_typeOf (T := "enumerate") ty ?_)
  have h1 : Builtin.List.listSameRef (.ref S) (.ref e) = false := by simp [Builtin.List.listSameRef, nSe]
  have h2 : (Value.type "enumerate" == Value.type "list") = false := by decide
  have h3 : (Value.type "enumerate" == Value.type "tuple") = false := by decide
  simp only [h1, h2, h3, Bool.or_false, Bool.false_eq_true, if_false]
  refine wpAny_bind (wpAny_pyIter_enum he (wpAny_bind (wpAny_holding (en_hint ty fun b => ?_))))
  refine wpAny_ite_split (fun _ => ?_) (fun _ => wpAny_pure ⟨plainId_quiet PySem.F.plain_extend_loop _, key _ c₀ _ (fun _ _ _ q => q) hS⟩)
  refine wpAny_bind (wpAny_rule (wpAny_bind ?_))
  show wpAny _ _ (updateSeq S (·.push .none) >>= fun _ => updateSeq S (·.pop)) _ _ _
  refine wpAny_bind (wpAny_updateSeq hS rfl ?_)
  have hS2 := Heap.get?_update_self (Obj.mapSeq (·.push Value.none)) hS rfl
  refine wpAny_updateSeq (hz := by seq_fits) hS2 rfl ?_
  have hS3 := Heap.get?_update_self (Obj.mapSeq (·.pop)) hS2 rfl
  exact wpAny_pure ⟨plainId_quiet PySem.F.plain_extend_loop _, key _ _ _ (fun b o hb q => (Heap.get?_update_other _ _ (Ne.symm hb)).trans ((Heap.get?_update_other _ _ (Ne.symm hb)).trans q)) hS3⟩
theorem en_call {e it l : Addr} {its : Array Value} {Q : Value → Shared → Prop} (hh : A.handled = none) (he : IsEnum s.heap e it 0 .none) (hit : s.heap.IsListIter it l 0) (hl : s.heap.IsList l its) (hne : e ≠ it) (hle : l ≠ e) (hli : l ≠ it) (hz : its.size ≤ sizeLine)
    (hQ : ∀ h' tk acc c as, (∀ b o, b ≠ e → b ≠ it → s.heap.get? b = some o → h'.get? b = some o) → h'.get? s.heap.objs.size = some { cls := .type "list", dict := none, data := .seq acc c, slots := #[] } → as.length = its.size → EnG its s.heap.objs.size h' as →
      acc.toList = as.map Value.ref → Q (.ref s.heap.objs.size) { s with heap := h', toks := tk }) :
    wpAny (model prog w) A (call (.type "list") [.ref e]) Q E s := by
  refine callType_codes (Q₁ := fun obj sA => obj = .ref s.heap.objs.size ∧ sA = { s with heap := s.heap.push { cls := .type "list", data := .seq #[] } }) PySem.F.called_list (PySem.F.typeCall_list_1 _) PySem.F.entry_list_init (code_list_new _ ⟨rfl, rfl⟩) fun obj sA hA => ?_
  obtain ⟨rfl, rfl⟩ := hA
  have hS : (s.heap.push { cls := .type "list", data := .seq #[] }).get? s.heap.objs.size = some { cls := .type "list", data := .seq #[] } := Heap.get?_push_size _ rfl
  have le : e < s.heap.objs.size := Heap.lt_size he
  have li : it < s.heap.objs.size := by obtain ⟨_, q, _⟩ := hit; exact Heap.lt_size q
  have ll : l < s.heap.objs.size := by obtain ⟨_, q, _⟩ := hl; exact Heap.lt_size q
  refine ⟨⟨_, hS, rfl⟩, PySem.F.args_list_init_2 _ _, ?_⟩
  show wpAny _ _ (do let old ← Builtin.List.listItems (.ref s.heap.objs.size); Builtin.List.listUpdate (.ref s.heap.objs.size) (fun _ => #[]); letGo old.toList.reverse; Builtin.List.listExtendWith (.ref s.heap.objs.size) (.ref e) .none) _ _ _
  refine wpAny_bind ?_
  unfold Builtin.List.listItems
  refine wpAny_bind (wpAny_seqItems hS rfl (wpAny_pure ?_))
  show wpAny _ _ (updateSeq s.heap.objs.size (fun _ => #[]) >>= fun _ => letGo (#[] : Array Value).toList.reverse >>= fun _ => Builtin.List.listExtendWith (.ref s.heap.objs.size) (.ref e) .none) _ _ _
  refine wpAny_bind (wpAny_updateSeq hS rfl ?_)
  obtain ⟨c2, hS2⟩ : ∃ c2, ((s.heap.push { cls := .type "list", data := .seq #[] }).update s.heap.objs.size (Obj.mapSeq (fun _ => (#[] : Array Value)))).get? s.heap.objs.size = some { cls := .type "list", data := .seq #[] c2 } := ⟨_, Heap.get?_update_self (Obj.mapSeq (fun _ => (#[] : Array Value))) hS rfl⟩
  have oth : ∀ b o, b ≠ s.heap.objs.size → s.heap.get? b = some o → ((s.heap.push { cls := .type "list", data := .seq #[] }).update s.heap.objs.size (Obj.mapSeq (fun _ => (#[] : Array Value)))).get? b = some o :=
    fun b o hb q => (Heap.get?_update_other _ _ (Ne.symm hb)).trans (Heap.get?_push_of_some _ q)
  refine wpAny_bind (wpAny_letGo ?_)
  refine en_extend (A := A.in1) (s := { s with heap := (s.heap.push { cls := .type "list", data := .seq #[] }).update s.heap.objs.size (Obj.mapSeq (fun _ => (#[] : Array Value))) }) hh (oth e _ (Nat.ne_of_lt le) he) (hit.at fun o q => oth it o (Nat.ne_of_lt li) q) (hl.at fun o q => oth l o (Nat.ne_of_lt ll) q) le li hne ll hle hli hz .none c2 hS2 fun h' tk acc c as hk k1 k2 k3 k4 => ?_
  exact ⟨rfl, hQ h' tk acc c as (fun b o z1 z2 q => hk b o (Nat.ne_of_lt (Heap.lt_size q)) z1 z2 (oth b o (Nat.ne_of_lt (Heap.lt_size q)) q)) k1 k2 k3 k4⟩
end
/-- the tuples and the list, in the heap -/
def putE : Hp → Nat → List Addr → List V → Hp
  | H, i, a :: as, x :: xs => putE (upd H a (.tup [.int (i : Nat), x])) (i + 1) as xs
  | H, _, _, _ => H
theorem putE_off {b : Addr} : ∀ (as : List Addr) (xs : List V) (i : Nat) (H : Hp), b ∉ as → putE H i as xs b = H b
  | [], _, _, _, _ => rfl
  | _ :: _, [], _, _, _ => rfl
  | a :: as, x :: xs, i, H, h => by
    show putE (upd H a (.tup [.int (i : Nat), x])) (i + 1) as xs b = H b
    rw [putE_off as xs _ _ (fun z => h (List.mem_cons_of_mem _ z)), upd_ne (fun z => h (by rw [z]; exact List.mem_cons_self))]
theorem putE_at : ∀ (as : List Addr) (xs : List V) (i : Nat) (H : Hp), as.length = xs.length → as.Nodup → ∀ (j : Nat) (a : Addr) (x : V), as[j]? = some a → xs[j]? = some x → putE H i as xs a = some (.tup [.int ((i + j : Nat) : Int), x])
  | [], _, _, _, _, _, j, a, x, h, _ => by simp at h
  | _ :: _, [], _, _, h, _, _, _, _, _, _ => by cases h
  | b :: as, y :: xs, i, H, h, hn, j, a, x, h1, h2 => by
    have hn' := List.nodup_cons.mp hn
    show putE (upd H b (.tup [.int (i : Nat), y])) (i + 1) as xs a = _
    cases j with
    | zero =>
      have e1 : b = a := Option.some.inj h1
      have e2 : y = x := Option.some.inj h2
      subst e1 e2
      rw [putE_off as xs _ _ hn'.1, upd_same]
      rfl
    | succ j =>
      rw [putE_at as xs (i + 1) _ (Nat.succ.inj h) hn'.2 j a x h1 h2]
      congr 4
      omega
theorem refs_vals : ∀ as : List Addr, Vals (as.map V.ref) (as.map Value.ref)
  | [] => .nil
  | _ :: as => .cons rfl (refs_vals as)
section
variable {X : Cx} {pins : List (Addr × Obj)} {σ : L2.St} {H : Hp} {s : Shared}
/-- the objects that such a call made -/
theorem en_laid {h' : Heap} {tk : Nat} {S : Addr} {xs : List V} {its : List Value} {acc : Array Value} {c : Nat} {as : List Addr} (I : Inv X pins σ H s) (hz : xs.length ≤ sizeLine) (r : Vals xs its) (hS0 : s.heap.objs.size ≤ S)
    (keep : ∀ b o, s.heap.get? b = some o → h'.get? b = some o) (hS : h'.get? S = some { cls := .type "list", dict := none, data := .seq acc c, slots := #[] }) (hl : as.length = its.length) (hG : EnG its.toArray S h' as) (hacc : acc.toList = as.map Value.ref) :
    H S = none ∧ (∀ t ∈ as, H t = none ∧ t ≠ S) ∧ as.Nodup ∧ Inv X pins σ (putE (upd H S (.lst (as.map V.ref))) 0 as xs) { s with heap := h', toks := tk } := by
  have lx := r.length
  have nS : S ∉ as := fun z => Nat.lt_irrefl _ (hG.above _ z)
  have nd : as.Nodup := List.Pairwise.imp (fun {a b} (h : a < b) => Nat.ne_of_lt h) hG.rise
  have new : ∀ t ∈ as, H t = none := fun t ht => I.hok.fresh (Nat.le_of_lt (Nat.lt_of_le_of_lt hS0 (hG.above t ht)))
  have newS : H S = none := I.hok.fresh hS0
  have off : ∀ b, b ∉ as → b ≠ S → putE (upd H S (.lst (as.map V.ref))) 0 as xs b = H b := fun b z1 z2 => by rw [putE_off as xs _ _ z1, upd_ne z2]
  have low : ∀ b o, s.heap.get? b = some o → b ∉ as ∧ b ≠ S := fun b o q => by
    have hb := Heap.lt_size q
    exact ⟨fun z => absurd hb (Nat.not_lt.mpr (Nat.le_of_lt (Nat.lt_of_le_of_lt hS0 (hG.above b z)))), Nat.ne_of_lt (Nat.lt_of_lt_of_le hb hS0)⟩
  have kp : ∀ b u, H b = some u → (putE (upd H S (.lst (as.map V.ref))) 0 as xs) b = some u := fun b u q => by
    rw [off b (fun z => by rw [new b z] at q; cases q) (fun z => by rw [z, newS] at q; cases q)]
    exact q
  refine ⟨newS, fun t ht => ⟨new t ht, fun z => nS (z ▸ ht)⟩, nd, I.call' (ch := []) rfl ⟨fun b o q _ _ _ => keep b o q, fun b o q _ _ _ => ⟨o.slots, keep b o q⟩, fun b o q n _ => ?_, fun b o q _ => ⟨o, keep b o q⟩, fun b xs q => kp b _ q, fun b o u q => kp b _ q, fun b ps q => ⟨#[], by rw [kp b _ q]; simp⟩⟩ (fun b u q => ?_) I.bare fun b z => by simp at z⟩
  · obtain ⟨z1, z2⟩ := low b o q
    rw [off b z1 z2]
    exact n
  · by_cases hb : b ∈ as
    · obtain ⟨j, hj⟩ := List.mem_iff_getElem?.mp hb
      obtain ⟨t, v, y1, y2⟩ := hG.pairs j b hj
      have hjx : j < xs.length := by
        have := (List.getElem?_eq_some_iff.mp hj).1
        omega
      rw [putE_at as xs 0 _ (by omega) nd j b xs[j] hj (List.getElem?_eq_getElem hjx)] at q
      cases q
      obtain ⟨v', y3, y4⟩ := vals_at r (List.getElem?_eq_getElem hjx)
      have y5 : its[j]? = some v := by simpa using y1
      rw [y3] at y5
      cases y5
      exact ⟨by show 2 ≤ sizeLine; decide, [.int j t, v], .cons ⟨t, by simp⟩ (.cons y4 .nil), ⟨_, y2, rfl, _, rfl⟩⟩
    · by_cases hb2 : b = S
      · subst hb2
        rw [putE_off as xs _ _ hb, upd_same] at q
        cases q
        refine ⟨by rw [List.length_map]; omega, acc.toList, c, by rw [hacc]; exact refs_vals as, ?_⟩
        rw [Array.toArray_toList]
        exact hS
      · rw [off b hb hb2] at q
        exact (I.hok b u q).stay (fun d v _ y => keep d v y) (fun d y => kp d _ y) fun d xs y => kp d _ y
end
section
variable {X : Cx} {e : Expr} {te : TE} {p p2 pos pos2 : Pos}
def tLEn (K : PySem.W.Frag) (te : TE) : TE := fun σ H Q => te σ H fun x H1 => ∃ (l : Addr) (xs : List V), x = .ref l ∧ SqL K H1 l xs ∧ ∀ (q : Addr) (as : List Addr), H1 q = none → (∀ t ∈ as, H1 t = none ∧ t ≠ q) → as.Nodup → as.length = xs.length → Q (.ref q) (putE (upd H1 q (.lst (as.map V.ref))) 0 as xs)
theorem pe_listEn (hc : X.calm = true) (hg : Gl X "list") (hm : X.mg "list" = none) (hg2 : Gl X "enumerate") (hm2 : X.mg "enumerate" = none) (he : PE X e te) (na : starEach [e] X.env = (false, eval e X.env) :: starEach [] X.env) :
    PE X (.Call (.Name "list" p) [.Call (.Name "enumerate" p2) [e] [] pos2] [] pos) (tLEn X.K te) := by
  refine ⟨fun pins s σ H Q I h => ?_⟩
  have inner : wpAny (model X.prog X.w) X.A (eval (.Call (.Name "enumerate" p2) [e] [] pos2) X.env) (fun x sB => ∃ (sA : Shared) (H1 : Hp) (l : Addr) (xs : List V) (hB : Heap), Inv X pins σ H1 sA ∧ x = .ref (sA.heap.objs.size + 1) ∧ sB = { sA with heap := hB } ∧
      IsEnum hB (sA.heap.objs.size + 1) sA.heap.objs.size 0 .none ∧ hB.IsListIter sA.heap.objs.size l 0 ∧ hB.objs.size = sA.heap.objs.size + 2 ∧ (∀ b o, sA.heap.get? b = some o → hB.get? b = some o) ∧ SqL X.K H1 l xs ∧
      ∀ (q : Addr) (as : List Addr), H1 q = none → (∀ t ∈ as, H1 t = none ∧ t ≠ q) → as.Nodup → as.length = xs.length → Q (.ref q) (putE (upd H1 q (.lst (as.map V.ref))) 0 as xs)) X.xe s := by
    refine Call_ (ld_blt I hg2 hm2 (show bootBuiltins "enumerate" = some (.type "enumerate") by decide +kernel) (PyProof.Rows.callWith_type1 (one_arg he I h (fun v sA x H1 IA r q => ?_) na) na))
    obtain ⟨l, xs, rfl, hx, q⟩ := q
    cases r
    obtain ⟨its, rv, ht, hz⟩ := IA.list hx
    exact call_enumerate_list ht.isList fun hB k1 k2 k3 k4 => ⟨sA, H1, l, xs, hB, IA, rfl, rfl, k1, k2, k3, k4, hx, q⟩
  refine Call_ (ld_blt I hg hm boot_list (PyProof.Rows.callWith_type1 (args_cons (thn inner fun x sB ⟨sA, H1, l, xs, hB, IA, ex, es, k1, k2, k3, k4, hx, q⟩ => args_nil ?_) rfl) rfl))
  subst ex es
  obtain ⟨its, rv, ht, hz⟩ := IA.list hx
  have hlen := rv.length
  have ll : l < sA.heap.objs.size := by obtain ⟨_, z, _⟩ := ht.isList; exact Heap.lt_size z
  refine en_call (IA.ok.hd hc) k1 k2 (ht.isList.at fun o z => k4 l o z) (Nat.succ_ne_self _) (Nat.ne_of_lt (Nat.lt_succ_of_lt ll)) (Nat.ne_of_lt ll) (by rw [List.size_toArray]; omega) fun h' tk acc c as keep hS hl hG hacc => ?_
  rw [show Shared.heap { sA with heap := hB } = hB from rfl] at hS hG keep
  rw [k3] at hS hG
  have keep2 : ∀ b o, sA.heap.get? b = some o → h'.get? b = some o := fun b o z => by
    have hb := Heap.lt_size z
    exact keep b o (fun w => by rw [w] at hb; exact absurd hb (Nat.not_lt.mpr (Nat.le_succ _))) (fun w => by rw [w] at hb; exact Nat.lt_irrefl _ hb) (k4 b o z)
  have hl' : as.length = its.length := by rw [hl, List.size_toArray]
  obtain ⟨z1, z2, z3, J⟩ := en_laid (tk := tk) IA (by omega) rv (Nat.le_add_right _ 2) keep2 hS hl' hG hacc
  exact ⟨.ref _, _, J, (by show _ = Value.ref _; rw [show Shared.heap { sA with heap := hB } = hB from rfl, k3]), q _ as z1 z2 z3 (by omega)⟩
end
end Ev

end

section
/-! EvU: sorted(set(xs)) of a list of ints. -/
namespace Ev
open PySem PySem.Spec PyProof.Rows L2
abbrev newS (w : World) : Obj := { cls := .type "set", dict := none, data := .set #[] 0 (.fresh 0 0 (!w.params.followText "set-order")) }
section
variable {P : Program} {w : World} {A : Around} {E : Value → Shared → Prop} {s : Shared}
/-- what the filling of a new set promises -/
def Filled (P : Program) (w : World) (s : Shared) (ns : List Int) (r : Value) (s2 : Shared) : Prop := r = .none ∧ ∃ h' tk c, s2 = { s with heap := h', toks := tk } ∧ SetR w h' s.heap.objs.size (fun j => decide (j ∈ ns)) c ∧ c ≤ ns.length ∧ ∀ b o, s.heap.get? b = some o → h'.get? b = some o
set_option maxHeartbeats 3200000 in
theorem set_of_list {l : Addr} {its : Array Value} (ns : List Int) {Q : Value → Shared → Prop} (hh : A.handled = none) (hl : s.heap.IsList l its) (hi : IntsAre its.toList ns) (hb : ns.length + 1 < scanBound)
    (k : ∀ (h' : Heap) (tk c : Nat), SetR w h' s.heap.objs.size (fun j => decide (j ∈ ns)) c → c ≤ ns.length → (∀ b o, s.heap.get? b = some o → h'.get? b = some o) → Q (.ref s.heap.objs.size) { s with heap := h', toks := tk }) :
    wpAny (model P w) A (call (.type "set") [.ref l]) Q E s := by
  have isz : its.size = ns.length := (Array.length_toList).symm.trans (IntsAre.length hi)
  have hlS : l < s.heap.objs.size := by obtain ⟨o, ho, _⟩ := id hl; exact Heap.lt_size ho
  obtain ⟨c, tl, f0⟩ := F.called_set.mro
  have f1 := F.called_set.made
  have f2 := F.called_set.sub
  have f3 := F.called_set.notType
  have f4 := F.called_set.canCreate
  have f5 := F.typeCall_set_1 (.ref l)
  refine wpAny_call (codeAny_of_tree (show wpAny _ _ (callAny (.type "set") _) _ _ _ from wpAny_pure ⟨Code.quiet_builtin _ (by decide +kernel), codeAny_builtin F.entry_type_call ?_⟩))
  rw [Around.under_plain (weight_type_call_type "set" [.ref l] []) rfl]
  repeat (any_goals (first | assumption | wp_step))
  refine codeAny_mono (code_set_led1 (.ref l) (E := E) (Q₁ := fun x s1 => x = .ref s.heap.objs.size ∧ s1 = { s with heap := s.heap.push (newS w) }) ⟨rfl, rfl⟩) fun r1 s1 hr1 => ?_
  rcases r1 with e | fl
  · exact hr1
  · cases fl with
    | ret x =>
      obtain ⟨rfl, rfl⟩ := hr1
      have gS : (s.heap.push (newS w)).get? s.heap.objs.size = some (newS w) := Heap.get?_push_size _ rfl
      have tS : Shared.TypeIs { s with heap := s.heap.push (newS w) } (.ref s.heap.objs.size) "set" := ⟨_, gS, rfl⟩
      have f6 := F.called_set.init.lookup
      have f7 := F.called_set.init.bind (.ref s.heap.objs.size)
      repeat (any_goals (first | assumption | wp_step))
      refine codeAny_mono (codeAny_call_builtin (R := wants (Filled P w s ns) E) F.called_set.init.plain F.entry_set_init (check_set_init_1 tS ?_)) fun r2 s2 hr2 => ?_
      · have e1 := F.sub_list_set
        have e2 := F.sub_list_frozenset
        have e3 : (Value.type "list" == Value.type "dict") = false := by decide
        obtain ⟨⟨oc, od, oa, os⟩, ho, hc, n, hd⟩ := id hl
        dsimp only at hc hd
        subst hc hd
        have ho1 : (s.heap.push (newS w)).get? l = some { cls := .type "list", dict := od, data := .seq its n, slots := os } := Heap.get?_push_of_some _ ho
        have hl1 : (s.heap.push (newS w)).IsList l its := ⟨_, ho1, rfl, n, rfl⟩
        unfold Builtin.«set.__init__» noKeywords Builtin.Frozenset.updateFrom
        generalize hPI : pyIter = PI
        wp_walk
        subst hPI
        have sz1 : (s.heap.push (newS w)).objs.size = s.heap.objs.size + 1 := Heap.size_push ..
        refine wpAny_pyIter_list hl1 (wpAny_bind (wpAny_runValue ?_))
        have g3 : A.in1.in1.in1.handled = none := by simp [hh]
        have n1 : l ≠ (s.heap.push (newS w)).objs.size := by rw [sz1]; exact Nat.ne_of_lt (Nat.lt_succ_of_lt hlS)
        have n2 : s.heap.objs.size ∉ [(s.heap.push (newS w)).objs.size, l] := by
          rw [sz1]
          intro z
          simp only [List.mem_cons, List.not_mem_nil, or_false] at z
          rcases z with z | z
          · exact Nat.ne_of_lt (Nat.lt_succ_self _) z
          · exact Nat.ne_of_gt hlS z
        have vl : ∀ (i : Nat) (v : Value), its[i]? = some v → ∃ k t, ns[i]? = some k ∧ v = .int k t := fun i v hv => by
          have hi2 : i < ns.length := by rw [← isz]; exact (Array.getElem?_eq_some_iff.mp hv).1
          obtain ⟨t, e⟩ := PyProof.Rows.IntsAre.int_at hi i v (by rw [Array.getElem?_toList]; exact hv)
          refine ⟨ns[i], t, List.getElem?_eq_getElem hi2, e.trans ?_⟩
          rw [List.getD_eq_getElem?_getD, List.getElem?_eq_getElem hi2] <;> rfl
        refine set_update_ints ((Walks.list g3 _ l n1 its).toS) s.heap.objs.size n2 ns isz hb vl (its.size - 0) 0 _ (by omega) (Nat.zero_le _) ⟨⟨_, Heap.get?_push_size _ rfl, rfl, rfl⟩, hl1.push _⟩ ⟨0, Nat.le_refl 0, setR_new_at (Heap.get?_push_of_some _ gS)⟩ ?_
        intro s3 c3 hm hc3 hS3
        obtain ⟨h', g', d', tk', o'⟩ := s3
        have eg : g' = s.gens := hm.gens
        have ed : d' = s.drawn := hm.drawn
        have eo : o' = s.os := hm.os
        subst eg ed eo
        refine wpAny_pure ?_
        show wpAny _ _ (ret Value.none) _ _ _
        refine wpAny_pure ⟨rfl, h', tk', c3, rfl, hS3, by rw [← isz]; exact hc3, fun b o e => ?_⟩
        have hb0 : b < s.heap.objs.size := Heap.lt_size e
        refine hm.heap b o (fun z => ?_) (Heap.get?_push_of_some _ (Heap.get?_push_of_some _ e))
        rw [sz1] at z
        simp only [List.mem_cons, List.not_mem_nil, or_false] at z
        rcases z with z | z
        · exact Nat.ne_of_lt hb0 z
        · exact Nat.ne_of_lt (Nat.lt_succ_of_lt hb0) z
      · rcases r2 with e | fl2
        · exact hr2
        · cases fl2 with
          | ret r =>
            obtain ⟨rfl, h', tk, c', rfl, q1, q2, q3⟩ := hr2
            repeat (any_goals (first | assumption | wp_step))
            exact k _ _ _ q1 q2 q3
          | _ => exact hr2.elim
    | _ => exact hr1.elim
end
section
variable {X : Cx}
def rSetOfL (K : PySem.W.Frag) (w : World) : List V → Hp → VK → Prop := fun xs H Q => ∃ (a : Addr) (ns : List Int), xs = [.ref a] ∧ SqL K H a (ns.map V.int) ∧ ns.length < 64 ∧ ∀ p n, H p = none → n ≤ ns.length → Q (.ref p) (upd H p (SetO w p (fun j => decide (j ∈ ns)) n))
theorem cr_setOfL (hc : X.calm = true) : CallR X (.type "set") (rSetOfL X.K X.w) := by
  intro pins s σ H xs us Q I r h
  obtain ⟨a, ns, rfl, hs, hn, q⟩ := h
  obtain rfl := Vals.ref1 r
  obtain ⟨its, rv, hl, hz⟩ := I.list hs
  refine set_of_list ns (I.ok.hd hc) hl.isList (ints_of_vals rv) (by unfold scanBound; omega) fun h' tk c R hc' kp => ?_
  exact ⟨.ref _, upd H s.heap.objs.size (SetO X.w s.heap.objs.size (fun j => decide (j ∈ ns)) c), I.laid (t' := tk) kp (Nat.le_refl _) (setO_new R), rfl, q _ c (I.hok.fresh (Nat.le_refl _)) hc'⟩
end
/-! ### one list -/
theorem uniq_mem : ∀ (l : List Int) (x : Int), x ∈ uniqI l ↔ x ∈ l
  | [], x => by simp [uniqI]
  | [y], x => by simp [uniqI]
  | y :: z :: r, x => by
    have ih := uniq_mem (z :: r) x
    unfold uniqI
    split
    · rename_i e
      subst e
      rw [ih]
      simp
    · rw [List.mem_cons, ih, List.mem_cons, List.mem_cons, List.mem_cons]
theorem uniq_sorted : ∀ l : List Int, l.Pairwise (· ≤ ·) → (uniqI l).Pairwise (· < ·)
  | [], _ => by simp [uniqI]
  | [y], _ => by simp [uniqI]
  | y :: z :: r, h => by
    have h' := List.pairwise_cons.mp h
    have ih := uniq_sorted (z :: r) h'.2
    unfold uniqI
    split
    · exact ih
    · rename_i e
      refine List.pairwise_cons.mpr ⟨fun x hx => ?_, ih⟩
      have h2 := (uniq_mem (z :: r) x).mp hx
      have h3 := h'.1 z List.mem_cons_self
      have h4 : z ≤ x := by
        rcases List.mem_cons.mp h2 with rfl | h2
        · exact Int.le_refl _
        · exact (List.pairwise_cons.mp h'.2).1 x h2
      omega
theorem lt_same : ∀ {a b : List Int}, a.Pairwise (· < ·) → b.Pairwise (· < ·) → (∀ x, x ∈ a ↔ x ∈ b) → a = b
  | [], [], _, _, _ => rfl
  | [], y :: b, _, _, h => absurd ((h y).mpr List.mem_cons_self) (by simp)
  | x :: a, [], _, _, h => absurd ((h x).mp List.mem_cons_self) (by simp)
  | x :: a, y :: b, ha, hb, h => by
    obtain ⟨a1, a2⟩ := List.pairwise_cons.mp ha
    obtain ⟨b1, b2⟩ := List.pairwise_cons.mp hb
    have e : x = y := by
      rcases List.mem_cons.mp ((h x).mp List.mem_cons_self) with e | h1
      · exact e
      · rcases List.mem_cons.mp ((h y).mpr List.mem_cons_self) with e | h2
        · exact e.symm
        · have := a1 y h2
          have := b1 x h1
          omega
    subst e
    rw [lt_same a2 b2 fun z => ?_]
    constructor
    · intro hz
      rcases List.mem_cons.mp ((h z).mp (List.mem_cons_of_mem _ hz)) with rfl | hz'
      · have := a1 z hz
        omega
      · exact hz'
    · intro hz
      rcases List.mem_cons.mp ((h z).mpr (List.mem_cons_of_mem _ hz)) with rfl | hz'
      · have := b1 z hz
        omega
      · exact hz'
theorem sset_same {ns l : List Int} (h : ns.Pairwise (· < ·)) (hm : ∀ k : Int, k ∈ ns ↔ decide (k ∈ l) = true) : ns = uniqI (sortI l) :=
  lt_same h (uniq_sorted _ (sortI_sorted l)) fun x => by rw [hm, decide_eq_true_eq, uniq_mem, (sortI_perm l).mem_iff]
end Ev

end

section
/-! EvW: the strip: how it lies in the heap, how it is made, its methods' calls. -/
namespace Ev
open PySem PySem.Spec PyProof.Rows L2

abbrev stA (K : PySem.W.Frag) : Addr := He.ga K "Strip"
section
variable {K : PySem.W.Frag} {S : GH} {H H' : Hp} {w : W}
/-- the strip's row, its past are others -/
theorem Sub.strip {a p dx : Addr} {row' : PyData} {past' : List PyData} {r' : Addr} {xs' : List V} (s : Sub K S H w) (ha : S a = some .stp) (h1 : H' a = some (.ins (He.ga K "Strip") dx [("row", .ref r'), ("past", .ref p)])) (hr : Rp S row' (.ref r'))
    (hp : S p = some .resS) (h2 : H' p = some (.lst xs')) (hps : Rps S past' xs') (hdx : S dx = some .resX) (hk : ∀ b, b ≠ a → b ≠ p → H' b = H b) : Sub K S H' ⟨w.dr, some (row', past'), w.scr⟩ := by
  refine ⟨fun b o e => ?_, s.one, s.oneS, fun b xs h => ?_⟩
  · by_cases hb : b = a
    · subst hb
      rw [ha] at e
      cases e
      exact ⟨row', past', r', p, dx, xs', rfl, h1, hr, hp, h2, hps, hdx⟩
    · by_cases hb2 : b = p
      · subst hb2
        rw [hp] at e
        cases e
        exact ⟨_, h2⟩
      · have g := s.ok b o e
        cases o with
        | tup xs => show H' b = _; rw [hk b hb hb2]; exact g
        | lst xs => show H' b = _; rw [hk b hb hb2]; exact g
        | exc c => show H' b = _; rw [hk b hb hb2]; exact g
        | stp => exact absurd (s.oneS b a e ha) hb
        | drw =>
          obtain ⟨m, ns, c, e0, k1, k2, k3⟩ := g
          have n1 : m ≠ a := by rintro rfl; rw [ha] at k2; cases k2
          have n2 : m ≠ p := by rintro rfl; rw [hp] at k2; cases k2
          exact ⟨m, ns, c, e0, by rw [hk b hb hb2]; exact k1, k2, by rw [hk m n1 n2]; exact k3⟩
        | resD => obtain ⟨u, g⟩ := g; exact ⟨u, by rw [hk b hb hb2]; exact g⟩
        | resS => obtain ⟨u, g⟩ := g; exact ⟨u, by rw [hk b hb hb2]; exact g⟩
        | resX => obtain ⟨u, g⟩ := g; exact ⟨u, by rw [hk b hb hb2]; exact g⟩
  · rcases s.scr b xs h with q | ⟨q1, o, q2⟩
    · exact .inl q
    · have n1 : b ≠ a := by rintro rfl; rw [ha] at q1; cases q1
      have n2 : b ≠ p := by rintro rfl; rw [hp] at q1; cases q1
      exact .inr ⟨q1, o, by rw [hk b n1 n2]; exact q2⟩
theorem Sub.noStp (s : Sub K S H w) (h : w.sp = none) (a : Addr) : S a ≠ some .stp := fun e => by
  obtain ⟨_, _, _, _, _, _, q, _⟩ := s.ok a _ e
  rw [h] at q
  cases q
/-- what S speaks of may change -/
theorem Nxt.chgS {a : Addr} {u : GO} {o : HO} (h : S a = some u) : Nxt S H S (upd H a o) := ⟨fun _ _ e => e, fun b v nb hb => by
  have : b ≠ a := by rintro rfl; rw [h] at nb; cases nb
  rw [upd_ne this]
  exact ⟨hb, nb⟩⟩
/-- a new strip -/
theorem Sub.mkStp {x dx r p : Addr} {H3 : Hp} (s : Sub K S H w) (hw : w.sp = none) (hx : H x = none) (hdx : H dx = none) (hr : H r = none) (hp : H p = none) (n1 : dx ≠ x) (n2 : r ≠ x) (n3 : r ≠ dx) (n4 : p ≠ x) (n5 : p ≠ dx) (n6 : p ≠ r)
    (k1 : H3 x = some (.ins (He.ga K "Strip") dx [("row", .ref r), ("past", .ref p)])) (k2 : H3 dx = some (.own x)) (k3 : H3 r = some (.lst [])) (k4 : H3 p = some (.lst [])) (hk : ∀ b, b ≠ x → b ≠ dx → b ≠ r → b ≠ p → H3 b = H b) :
    Sub K (updG (updG (updG (updG S dx .resX) r (.lst [])) p .resS) x .stp) H3 ⟨w.dr, some (.list [], []), w.scr⟩ ∧ Nxt S H (updG (updG (updG (updG S dx .resX) r (.lst [])) p .resS) x .stp) H3 := by
  have ns := s.noStp hw
  have sx := s.free hx
  have sdx := s.free hdx
  have sr := s.free hr
  have spp := s.free hp
  generalize hS' : updG (updG (updG (updG S dx .resX) r (.lst [])) p .resS) x .stp = S'
  have gx : S' x = some .stp := by rw [← hS']; exact updG_same
  have gp : S' p = some .resS := by rw [← hS', updG_ne n4]; exact updG_same
  have gr : S' r = some (.lst []) := by rw [← hS', updG_ne n2, updG_ne (Ne.symm n6)]; exact updG_same
  have gdx : S' dx = some .resX := by rw [← hS', updG_ne n1, updG_ne (Ne.symm n5), updG_ne (Ne.symm n3)]; exact updG_same
  have go : ∀ b, b ≠ x → b ≠ dx → b ≠ r → b ≠ p → S' b = S b := fun b h1 h2 h3 h4 => by rw [← hS', updG_ne h1, updG_ne h4, updG_ne h3, updG_ne h2]
  have le : LeG S S' := fun b o e => by
    rw [go b (by rintro rfl; rw [sx] at e; cases e) (by rintro rfl; rw [sdx] at e; cases e) (by rintro rfl; rw [sr] at e; cases e) (by rintro rfl; rw [spp] at e; cases e)]
    exact e
  have hkeep : ∀ b u, H b = some u → H3 b = some u := fun b u e => by
    rw [hk b (by rintro rfl; rw [hx] at e; cases e) (by rintro rfl; rw [hdx] at e; cases e) (by rintro rfl; rw [hr] at e; cases e) (by rintro rfl; rw [hp] at e; cases e)]
    exact e
  have cs : ∀ b o, S' b = some o → S b = some o ∨ (b = x ∧ o = .stp) ∨ (b = dx ∧ o = .resX) ∨ (b = r ∧ o = .lst []) ∨ (b = p ∧ o = .resS) := fun b o e => by
    by_cases h1 : b = x
    · subst h1; rw [gx] at e; cases e; exact .inr (.inl ⟨rfl, rfl⟩)
    by_cases h2 : b = dx
    · subst h2; rw [gdx] at e; cases e; exact .inr (.inr (.inl ⟨rfl, rfl⟩))
    by_cases h3 : b = r
    · subst h3; rw [gr] at e; cases e; exact .inr (.inr (.inr (.inl ⟨rfl, rfl⟩)))
    by_cases h4 : b = p
    · subst h4; rw [gp] at e; cases e; exact .inr (.inr (.inr (.inr ⟨rfl, rfl⟩)))
    rw [go b h1 h2 h3 h4] at e
    exact .inl e
  refine ⟨⟨fun b o e => ?_, fun b c e1 e2 => ?_, fun b c e1 e2 => ?_, fun a ns h => ?_⟩, le, fun b u nb hb => ⟨hkeep b u hb, ?_⟩⟩
  · rcases cs b o e with e | ⟨rfl, rfl⟩ | ⟨rfl, rfl⟩ | ⟨rfl, rfl⟩ | ⟨rfl, rfl⟩
    · have g := (s.ok b o e).keep (S' := S') (H' := H3) le (fun c u _ q => hkeep c u q) (fun c u _ q => ⟨u, hkeep c u q⟩)
      cases o with
      | stp => exact absurd e (ns b)
      | _ => exact g
    · exact ⟨.list [], [], r, p, dx, [], rfl, k1, .lst gr .nil, gp, k4, .nil, gdx⟩
    · exact ⟨_, k2⟩
    · exact k3
    · exact ⟨_, k4⟩
  · rcases cs b _ e1 with e1 | ⟨_, z⟩ | ⟨_, z⟩ | ⟨_, z⟩ | ⟨_, z⟩
    · rcases cs c _ e2 with e2 | ⟨_, z⟩ | ⟨_, z⟩ | ⟨_, z⟩ | ⟨_, z⟩
      · exact s.one b c e1 e2
      all_goals cases z
    all_goals cases z
  · rcases cs b _ e1 with e1 | ⟨z1, _⟩ | ⟨_, z⟩ | ⟨_, z⟩ | ⟨_, z⟩
    · exact absurd e1 (ns b)
    · rcases cs c _ e2 with e2 | ⟨z2, _⟩ | ⟨_, z⟩ | ⟨_, z⟩ | ⟨_, z⟩
      · exact absurd e2 (ns c)
      · exact z1.trans z2.symm
      all_goals cases z
    all_goals cases z
  · rcases s.scr a ns h with q | ⟨q1, o, q2⟩
    · exact .inl q
    · have h1 : a ≠ x := by rintro rfl; rw [hx] at q2; cases q2
      have h2 : a ≠ dx := by rintro rfl; rw [hdx] at q2; cases q2
      have h3 : a ≠ r := by rintro rfl; rw [hr] at q2; cases q2
      have h4 : a ≠ p := by rintro rfl; rw [hp] at q2; cases q2
      exact .inr ⟨by rw [go a h1 h2 h3 h4]; exact q1, o, hkeep _ _ q2⟩
  · rw [go b (by rintro rfl; rw [hx] at hb; cases hb) (by rintro rfl; rw [hdx] at hb; cases hb) (by rintro rfl; rw [hr] at hb; cases hb) (by rintro rfl; rw [hp] at hb; cases hb)]
    exact nb
end
/-! ### what making one promises -/
def mkG : List D → W → Res D := fun _ w => match w.sp with
  | none => .ok .stp ⟨w.dr, some (.list [], []), w.scr⟩
  | some _ => .stk
/-- __init__ -/
def spI (K : PySem.W.Frag) : Sp := fun vs H Q E => ∃ x dx, vs = [.ref x] ∧ H x = some (.ins (stA K) dx []) ∧ ∀ r p, H r = none → H p = none → p ≠ r →
  Q .non (upd (upd (upd (upd H r (.lst [])) x (.ins (stA K) dx [("row", .ref r)])) p (.lst [])) x (.ins (stA K) dx [("row", .ref r), ("past", .ref p)]))
/-- len(self.row), list(self.row) -/
def spL (K : PySem.W.Frag) : Sp := fun vs H Q E => ∃ x dx r p xs, vs = [.ref x] ∧ H x = some (.ins (stA K) dx [("row", .ref r), ("past", .ref p)]) ∧ H r = some (.lst xs) ∧ Q (.int xs.length) H
def spP (K : PySem.W.Frag) : Sp := fun vs H Q E => ∃ x dx r p xs, vs = [.ref x] ∧ H x = some (.ins (stA K) dx [("row", .ref r), ("past", .ref p)]) ∧ H r = some (.lst xs) ∧ ∀ b, H b = none → Q (.ref b) (upd H b (.lst xs))
/-- nothing is let out -/
theorem pass_no {X : Cx} : Passes (L2N.CX X.prog X.w) X (fun _ _ _ => False) := fun _ _ _ _ _ _ _ x => by
  obtain ⟨_, _, _, _, _, _, _, _, _, _, _, _, z⟩ := x
  exact z.elim
theorem meth_eval {o : Expr} {m : Str} {apos pos : Pos} {args : List Expr} {env : PySem.Env} (hbase : attributeBase o m env (eval o env) = eval o env)
    (hf : methodCallForm (args.length + ([] : List Keyword).length) (backTo pos (starEach args env)) (backToKw pos (keywordEach [] env)) = true) (hl : (apos.endLine == pos.line) = true) :
    eval (.Call (.Attribute o m apos) args [] pos) env = (do
      let ov ← eval o env
      standAt apos.atName
      let (f, first) ← holding [ov] (getMethod ov m (do return (← importBound o env).getD true))
      callWith pos f first (backTo pos (starEach args env)) (backToKw pos (keywordEach [] env))) := by
  rw [arm_eval_Call, hbase]
  unfold methodCall
  rw [hf]
  have h2 : methodCallPos true o env apos pos = pure pos := by unfold methodCallPos; simp [hl]
  rw [h2]
  rfl
/-- len(o) of an own __len__ -/
theorem len_own {X : Cx} {pins : List (Addr × Obj)} {σ : L2.St} {H : Hp} {s : Shared} {a C dx f : Addr} {fs : List (Str × V)} {k : Nat} {fd : FuncData} {ps : List Str} {sp : Sp} {Q : VK} (hm : Meth X.K C "__len__" f)
    (F : FnOk X.prog X.w X.K X.mg X.base (L2N.CX X.prog X.w) k f fd ps sp) (hr : Room (k + 1) X.A) (hb : Binds X.K fd ps []) (I : Inv X pins σ H s) (hH : H a = some (.ins C dx fs))
    (h : sp [.ref a] H (fun v H' => ∃ i : Int, v = .int i ∧ 0 ≤ i ∧ i < 2 ^ 63 ∧ Q (.int i) H') (fun _ _ _ => False)) :
    wpAny (model X.prog X.w) X.A (call (.builtin "len") [.ref a]) (EP X pins σ Q) X.xe s := by
  obtain ⟨mA, O, _, _, _, _⟩ := ins_get I.hok hH
  have sp1 : PySem.W.Looks (model X.prog X.w) s.heap (specialOf (.ref a) "__len__") (some (.ref f)) := (NwA.type_at O.obj rfl).andThen (PySem.W.looks_findIn I.kIn hm.at_)
  refine Calls.call_function_entry kind_len plain_len entry_len (args_len1 _) ?_
  unfold Builtin.«len»
  refine wpAny_bind (m := oneArg "len" _) (wpAny_pure ?_)
  refine wpAny_bind (m := callSpecial? (.ref a) (PySem.Str.ofString "__len__")) ?_
  unfold callSpecial?
  refine wpAny_bind (sp1.here (wpAny_holding (wpAny_bind ((PySem.W.bind_fn I.kIn (.ref a) (beq_iff_eq.mp hm.fn)).here ?_))))
  have b := hb s [.ref a] I.kIn (by have := F.len _ _ _ _ h; rw [List.append_nil]; exact this)
  rw [List.append_nil] at b
  refine wpAny_bind (wpAny_call (codeAny_mono (F.run X.A.in1 X.stack s H ⟨[.ref a], []⟩ [.ref a] [.ref a] _ _ hr.in1 I.env0.in1 b (.cons rfl .nil) h) fun r s' hq => ?_))
  cases r with
  | error e => exact pass_no pins σ H s e s' I hq
  | ok fl =>
    cases fl with
    | ret u =>
      obtain ⟨v, H', I3, rv, i, hev, i0, i1, q3⟩ := I.after hq
      subst hev
      obtain ⟨t, rfl⟩ := rv
      refine wpAny_pure (wpAny_bind (wpAny_holding (wpAny_pure ?_)))
      refine wpAny_bind (wpAny_letGo ?_)
      show wpAny _ _ (if i < 0 then _ else _) _ _ _
      rw [if_neg (by omega)]
      show wpAny _ _ (if i ≥ 2 ^ 63 then _ else _) _ _ _
      rw [if_neg (by omega)]
      exact wpAny_bind (wpAny_mkInt (wpAny_pure ⟨_, rfl, .int i, H', I3.tok _, ⟨_, rfl⟩, q3⟩))
    | next => exact False.elim hq
    | brk => exact False.elim hq
    | cont => exact False.elim hq
/-! ### o.m(..), what it lets out told at the slots -/
section
variable {X : Cx} {CX : CXT} {k : Nat} {f C : Addr} {fd : FuncData} {ps : List Str} {sp : Sp} {E : L2.St → XK} {m : Str} {pos apos : Pos} {e o : Expr} {es : List Expr} {ta : TE} {t : TA}
def tMethS (C : Addr) (m : Str) (sp : Sp) (E : L2.St → XK) (ta : TE) (t : TA) : TE := fun σ H Q => ta σ H fun x H1 => ∃ a dx fs, x = .ref a ∧ H1 a = some (.ins C dx fs) ∧ fs.lookup m = none ∧
  t σ H1 fun vs H2 => sp (x :: vs) H2 Q (E σ)
theorem pe_methS {pl : Sem Bool} (he : PE X o ta) (c : Cls X.K C) (hm : Meth X.K C m f) (F : FnOk X.prog X.w X.K X.mg X.base CX k f fd ps sp) (hr : Room k X.A) (hb : Binds X.K fd ps []) (hx : ∀ σ, PassesAt CX X σ (E σ)) (ha : PA X (e :: es) t)
    (hst : starEach (e :: es) X.env = (false, eval e X.env) :: starEach es X.env) (hpl : (backTo pos (starEach es X.env)).any (·.1) = false)
    (ht : eval (.Call (.Attribute o m apos) (e :: es) [] pos) X.env = (do
      let ov ← eval o X.env
      standAt apos.atName
      let (f, first) ← holding [ov] (getMethod ov m pl)
      callWith pos f first (backTo pos (starEach (e :: es) X.env)) (backToKw pos (keywordEach [] X.env))) := by rfl) :
    PE X (.Call (.Attribute o m apos) (e :: es) [] pos) (tMethS C m sp E ta t) := by
  refine ⟨fun pins s σ H Q I h => ?_⟩
  refine PySem.W.methodCall_KW (pl := pl) (thn (he.run pins s σ H _ I h) fun u s1 ⟨x, H1, I1, rx, a, dx, fs, ex, ea, l, q⟩ => ?_) ht
  subst ex
  obtain rfl : u = Value.ref a := rx
  refine getmeth_ok I1 ea c hm l ?_
  refine PySem.W.callWith_K (first := [.ref a]) (h₀ := X.base) I.ok.mod.kin hm.kp (thn (ha.run pos pins s1 σ H1 _ I1 q) fun us s2 ⟨vs, H2, I2, r, q2⟩ => ⟨I2.kIn, ?_⟩) hst hpl
  exact run_fnS (us := .ref a :: us) (vs := .ref a :: vs) F hr hb (hx σ) I2 (.cons rfl r) q2
theorem pe_methS0 {pl : Sem Bool} (he : PE X o ta) (c : Cls X.K C) (hm : Meth X.K C m f) (F : FnOk X.prog X.w X.K X.mg X.base CX k f fd ps sp) (hr : Room k X.A) (hb : Binds X.K fd ps []) (hx : ∀ σ, PassesAt CX X σ (E σ))
    (ht : eval (.Call (.Attribute o m apos) [] [] pos) X.env = (do
      let ov ← eval o X.env
      standAt apos.atName
      let (f, first) ← holding [ov] (getMethod ov m pl)
      callWith pos f first (backTo pos (starEach [] X.env)) (backToKw pos (keywordEach [] X.env))) := by rfl) :
    PE X (.Call (.Attribute o m apos) [] [] pos) (tMethS C m sp E ta tNil) := by
  refine ⟨fun pins s σ H Q I h => ?_⟩
  refine PySem.W.methodCall_KW (pl := pl) (thn (he.run pins s σ H _ I h) fun u s1 ⟨x, H1, I1, rx, a, dx, fs, ex, ea, l, q⟩ => ?_) ht
  subst ex
  obtain rfl : u = Value.ref a := rx
  refine getmeth_ok I1 ea c hm l ?_
  exact PySem.W.callWith_K0 (first := [.ref a]) I1.kIn hm.kp (run_fnS (us := [.ref a]) (vs := [.ref a]) F hr hb (hx σ) I1 (.cons rfl .nil) q)
end
end Ev

end

section
/-! EvD: the environment's relation, what is wanted, the check of a syntax. -/
namespace Ev
open PySem PySem.Spec PyProof.Rows L2

abbrev St := L2.St
/-! ### names -/
structure EOk (S : GH) (H : Hp) (ρ : Env) (σ : St) : Prop where
  len : ρ.length = σ.length
  val : ∀ i d, getV ρ i = some d → ∃ v, σ[i]? = some (some v) ∧ RD S d v
  own : ∀ i ds, getO ρ i = some ds → ∃ a xs, σ[i]? = some (some (.ref a)) ∧ S a = none ∧ H a = some (.lst xs) ∧ Rps S ds xs
  dis : ∀ i j ds es a, getO ρ i = some ds → getO ρ j = some es → σ[i]? = some (some (.ref a)) → σ[j]? = some (some (.ref a)) → i = j
theorem EOk.mono {S S' : GH} {H H' : Hp} {ρ : Env} {σ : St} (e : EOk S H ρ σ) (n : Nxt S H S' H') : EOk S' H' ρ σ := by
  refine ⟨e.len, fun i d h => ?_, fun i ds h => ?_, e.dis⟩
  · obtain ⟨v, h1, r⟩ := e.val i d h
    exact ⟨v, h1, r.mono n.s⟩
  · obtain ⟨a, xs, h1, h2, h3, r⟩ := e.own i ds h
    obtain ⟨k1, k2⟩ := n.k a _ h2 h3
    exact ⟨a, xs, h1, k2, k1, r.mono n.s⟩
theorem getV_lt {ρ : Env} {i : Nat} {d : D} (h : getV ρ i = some d) : i < ρ.length := by
  unfold getV at h
  split at h
  · rename_i e; exact (List.getElem?_eq_some_iff.mp e).1
  · cases h
theorem getV_set {ρ : Env} {i j : Nat} {s : Slot} : getV (ρ.set i s) j = if i = j then (if i < ρ.length then (match s with | .val d => some d | _ => none) else none) else getV ρ j := by
  unfold getV
  by_cases h : i = j
  · subst h
    rw [if_pos rfl]
    by_cases hl : i < ρ.length
    · rw [if_pos hl, List.getElem?_set_self hl]
      cases s <;> rfl
    · rw [if_neg hl, List.getElem?_eq_none (by simpa using hl)]
  · rw [if_neg h, List.getElem?_set_ne h]
theorem getO_set {ρ : Env} {i j : Nat} {s : Slot} : getO (ρ.set i s) j = if i = j then (if i < ρ.length then (match s with | .own d => some d | _ => none) else none) else getO ρ j := by
  unfold getO
  by_cases h : i = j
  · subst h
    rw [if_pos rfl]
    by_cases hl : i < ρ.length
    · rw [if_pos hl, List.getElem?_set_self hl]
      cases s <;> rfl
    · rw [if_neg hl, List.getElem?_eq_none (by simpa using hl)]
  · rw [if_neg h, List.getElem?_set_ne h]
section
variable {S : GH} {H : Hp} {ρ : Env} {σ : St} {i : Nat}
theorem EOk.setV {d : D} {v : V} (e : EOk S H ρ σ) (r : RD S d v) : EOk S H (setV ρ i d) (σ.set i (some v)) := by
  refine ⟨by unfold Ev.setV; rw [List.length_set, List.length_set]; exact e.len, fun j d' h => ?_, fun j ds h => ?_, fun j k ds es a h1 h2 h3 h4 => ?_⟩
  · unfold Ev.setV at h
    rw [getV_set] at h
    split at h
    · rename_i z
      subst z
      split at h
      · rename_i hl
        cases h
        exact ⟨v, List.getElem?_set_self (by rw [← e.len]; exact hl), r⟩
      · cases h
    · rename_i z
      obtain ⟨u, h1, q⟩ := e.val j d' h
      exact ⟨u, by rw [List.getElem?_set_ne z]; exact h1, q⟩
  · unfold Ev.setV at h
    rw [getO_set] at h
    split at h
    · split at h <;> cases h
    · rename_i z
      obtain ⟨a, xs, h1, q⟩ := e.own j ds h
      exact ⟨a, xs, by rw [List.getElem?_set_ne z]; exact h1, q⟩
  · unfold Ev.setV at h1 h2
    rw [getO_set] at h1 h2
    split at h1
    · split at h1 <;> cases h1
    · rename_i z1
      split at h2
      · split at h2 <;> cases h2
      · rename_i z2
        rw [List.getElem?_set_ne z1] at h3
        rw [List.getElem?_set_ne z2] at h4
        exact e.dis j k ds es a h1 h2 h3 h4
/-- an own list, new, at a slot -/
theorem EOk.setO {ds : List PyData} {a : Addr} {xs : List V} (e : EOk S H ρ σ) (n : S a = none) (h : H a = some (.lst xs)) (r : Rps S ds xs) (fresh : ∀ j es, j ≠ i → getO ρ j = some es → σ[j]? ≠ some (some (.ref a))) :
    EOk S H (ρ.set i (.own ds)) (σ.set i (some (.ref a))) := by
  refine ⟨by rw [List.length_set, List.length_set]; exact e.len, fun j d' h' => ?_, fun j es h' => ?_, fun j k es fs b h1 h2 h3 h4 => ?_⟩
  · rw [getV_set] at h'
    split at h'
    · split at h' <;> cases h'
    · rename_i z
      obtain ⟨u, h1, q⟩ := e.val j d' h'
      exact ⟨u, by rw [List.getElem?_set_ne z]; exact h1, q⟩
  · rw [getO_set] at h'
    split at h'
    · rename_i z
      subst z
      split at h'
      · rename_i hl
        cases h'
        exact ⟨a, xs, List.getElem?_set_self (by rw [← e.len]; exact hl), n, h, r⟩
      · cases h'
    · rename_i z
      obtain ⟨b, ys, h1, q⟩ := e.own j es h'
      exact ⟨b, ys, by rw [List.getElem?_set_ne z]; exact h1, q⟩
  · rw [getO_set] at h1 h2
    split at h1
    · rename_i z1
      split at h1
      · rename_i hl
        split at h2
        · rename_i z2; exact z1.symm.trans z2
        · rename_i z2
          rw [← z1, List.getElem?_set_self (by rw [← e.len]; exact hl)] at h3
          cases h3
          rw [List.getElem?_set_ne z2] at h4
          exact absurd h4 (fresh k fs (Ne.symm z2) h2)
      · cases h1
    · rename_i z1
      split at h2
      · rename_i z2
        split at h2
        · rename_i hl
          rw [← z2, List.getElem?_set_self (by rw [← e.len]; exact hl)] at h4
          cases h4
          rw [List.getElem?_set_ne z1] at h3
          exact absurd h3 (fresh j es (Ne.symm z1) h1)
        · cases h2
      · rename_i z2
        rw [List.getElem?_set_ne z1] at h3
        rw [List.getElem?_set_ne z2] at h4
        exact e.dis j k es fs b h1 h2 h3 h4
end

/-! ### targets -/
def gIs : List Nat → TGs
  | [] => gNil
  | i :: is => gCons (gName i) (gIs is)
def gT (K : PySem.W.Frag) : MT → TG
  | .one i => gName i
  | .tup is => gTup K is.length (gIs is)
def MT.ixs : MT → List Nat
  | .one i => [i]
  | .tup is => is
theorem wipe_get {σ : St} {j : Nat} : ∀ {vs : List Nat}, (wipe σ vs)[j]? = if j ∈ vs ∧ j < σ.length then some none else σ[j]?
  | [] => by simp [wipe]
  | v :: vs => by
    unfold wipe
    by_cases h : v = j
    · subst h
      by_cases hl : v < σ.length
      · rw [List.getElem?_set_self (by rw [wipe_length]; exact hl), if_pos ⟨List.mem_cons_self, hl⟩]
      · rw [List.getElem?_eq_none (by rw [List.length_set, wipe_length]; omega), if_neg (fun z => hl z.2), List.getElem?_eq_none (by omega)]
    · rw [List.getElem?_set_ne h, wipe_get]
      have e : (j ∈ v :: vs ∧ j < σ.length) ↔ (j ∈ vs ∧ j < σ.length) := by
        rw [List.mem_cons]
        constructor
        · rintro ⟨h1 | h1, h2⟩
          · exact absurd h1.symm h
          · exact ⟨h1, h2⟩
        · rintro ⟨h1, h2⟩
          exact ⟨.inr h1, h2⟩
      by_cases hc : j ∈ vs ∧ j < σ.length
      · rw [if_pos hc, if_pos (e.mpr hc)]
      · rw [if_neg hc, if_neg (fun z => hc (e.mp z))]
theorem wipe_set {σ : St} {i : Nat} {x : Option V} {vs : List Nat} (h : i ∈ vs) : wipe (σ.set i x) vs = wipe σ vs := by
  apply List.ext_getElem?
  intro j
  rw [wipe_get, wipe_get, List.length_set]
  by_cases hc : j ∈ vs ∧ j < σ.length
  · rw [if_pos hc, if_pos hc]
  · rw [if_neg hc, if_neg hc]
    by_cases hj : i = j
    · subst hj
      have hl : ¬ i < σ.length := fun z => hc ⟨h, z⟩
      rw [List.getElem?_eq_none (by rw [List.length_set]; omega), List.getElem?_eq_none (by omega)]
    · rw [List.getElem?_set_ne hj]
theorem gIs_ok {S : GH} {H : Hp} {Q : St → Hp → Prop} : ∀ (is : List Nat) {ρ ρ' : Env} {σ : St} {ds : List PyData} {xs : List V}, setVs ρ is ds = some ρ' → Rps S ds xs → EOk S H ρ σ →
    (∀ σ', EOk S H ρ' σ' → (∀ vs, (∀ i ∈ is, i ∈ vs) → wipe σ' vs = wipe σ vs) → Q σ' H) → gIs is xs σ H Q
  | [], ρ, ρ', σ, [], xs, h, r, e, k => by
    cases r
    cases h
    exact ⟨rfl, k σ e fun _ _ => rfl⟩
  | [], _, _, _, _ :: _, _, h, _, _, _ => by cases h
  | _ :: _, _, _, _, [], _, h, _, _, _ => by cases h
  | i :: is, ρ, ρ', σ, d :: ds, _, h, .cons r q, e, k => by
    refine ⟨_, _, rfl, ?_⟩
    refine gIs_ok is (σ := σ.set i _) h q (e.setV (d := .p d) r) fun σ' e' hw => k σ' e' fun vs hv => ?_
    rw [hw vs fun j hj => hv j (List.mem_cons_of_mem _ hj), wipe_set (hv i List.mem_cons_self)]
theorem setVs_len : ∀ {is : List Nat} {ρ ρ' : Env} {ds : List PyData}, setVs ρ is ds = some ρ' → ds.length = is.length
  | [], _, _, [], _ => rfl
  | [], _, _, _ :: _, h => by cases h
  | _ :: _, _, _, [], h => by cases h
  | _ :: is, _, _, _ :: ds, h => by rw [List.length_cons, List.length_cons, setVs_len (is := is) h]
theorem gT_ok {K : PySem.W.Frag} {S : GH} {H : Hp} {w : W} {Q : St → Hp → Prop} (t : MT) {ρ ρ' : Env} {σ : St} {d : PyData} {v : V} (h : tgt ρ t d = some ρ') (r : Rp S d v) (sb : Sub K S H w) (e : EOk S H ρ σ)
    (k : ∀ σ', EOk S H ρ' σ' → (∀ vs, (∀ i ∈ t.ixs, i ∈ vs) → wipe σ' vs = wipe σ vs) → Q σ' H) : gT K t v σ H Q := by
  unfold tgt at h
  split at h
  · cases h
    exact k _ (e.setV (d := .p d) r) fun vs hv => wipe_set (hv _ (by simp [MT.ixs]))
  · cases r with
    | tup h1 q => exact ⟨_, _, rfl, SqT.of (sb.tup h1), by rw [q.length, setVs_len h], gIs_ok _ h q e k⟩
  · cases h

/-! ### what is wanted -/
def post {α β : Type} (K : PySem.W.Frag) (R : GH → α → β → Prop) (S : GH) (H : Hp) (r : Res α) (Q : β → Hp → Prop) (E : Nat → Hp → Prop) : Prop :=
  match r with
  | .ok d w => ∀ S' H' v, Nxt S H S' H' → Sub K S' H' w → R S' d v → Q v H'
  | .exc c w => ∀ S' H', Nxt S H S' H' → Sub K S' H' w → E c H'
  | .stk => False
section
variable {α β γ δ : Type} {K : PySem.W.Frag} {R : GH → α → β → Prop} {R1 : GH → γ → δ → Prop} {S S1 : GH} {H H1 : Hp} {Q : β → Hp → Prop} {E : Nat → Hp → Prop}
theorem post.mono {r : Res α} (p : post K R S H r Q E) (n : Nxt S H S1 H1) : post K R S1 H1 r Q E := by
  cases r with
  | ok d w => exact fun S' H' v n' s q => p S' H' v (n.trans n') s q
  | exc c w => exact fun S' H' n' s => p S' H' (n.trans n') s
  | stk => exact p
theorem post.bind {r : Res γ} {f : γ → W → Res α} (p : post K R S H (r.bind f) Q E) :
    post K R1 S H r (fun x H1 => ∃ d w1 S1, Sub K S1 H1 w1 ∧ Nxt S H S1 H1 ∧ R1 S1 d x ∧ post K R S1 H1 (f d w1) Q E) E := by
  cases r with
  | ok d w => exact fun S' H' v n s q => ⟨d, w, S', s, n, q, p.mono n⟩
  | exc c w => exact p
  | stk => exact p
theorem post.imp {r : Res α} {Q' : β → Hp → Prop} (p : post K R S H r Q E) (h : ∀ x H', Q x H' → Q' x H') : post K R S H r Q' E := by
  cases r with
  | ok d w => exact fun S' H' v n s q => h _ _ (p S' H' v n s q)
  | exc c w => exact p
  | stk => exact p
theorem post.lif {o : Option α} {w : W} (p : post K R S H (lif o w) Q E) : ∃ d, o = some d ∧ ∀ S' H' v, Nxt S H S' H' → Sub K S' H' w → R S' d v → Q v H' := by
  cases o with
  | none => exact p.elim
  | some d => exact ⟨d, rfl, p⟩
end
/-- an expression's reading by the evaluator -/
def lft {α β : Type} (K : PySem.W.Frag) (R : GH → α → β → Prop) (f : Env → W → Res α) (Wx : WX) : St → Hp → (β → Hp → Prop) → Prop :=
  fun σ H Q => ∃ ρ w S, Sub K S H w ∧ EOk S H ρ σ ∧ post K R S H (f ρ w) Q fun c H' => Wx (.ref (excA K c)) none σ H'
def RB (_ : GH) (b c : Bool) : Prop := b = c
def RO (_ : GH) (b c : Option Int) : Prop := b = c
/-- an iteration of such items -/
def RI (K : PySem.W.Frag) (S : GH) (xs : List PyData) (J : It) : Prop :=
  ∀ i S1 H1 w1, LeG S S1 → Sub K S1 H1 w1 → (i = xs.length → J.stop i H1) ∧ ∀ d, xs[i]? = some d → J.go i H1 ∧ ∀ x H', J.yld i H1 x H' → ∃ S2, Nxt S1 H1 S2 H' ∧ Sub K S2 H' w1 ∧ Rp S2 d x

/-! ### what a def promises -/
def spF (K : PySem.W.Frag) (g : List D → W → Res D) : Sp := fun vs H Q E => ∃ ds S w, Sub K S H w ∧ RDs S ds vs ∧ post K RD S H (g ds w) Q fun c H' => E (.ref (excA K c)) none H'

/-! ### the text that is checked -/
structure Sig (Fn : Type) where
  nm : Fn → Str
  has : Fn → Bool
  hasE : Bool
  gi : List (Str × Int)
  gs : List (Str × Str)
  frees : List Str
  excs : List Nat
  hasS : Bool
  hasM : Fn → Bool
  isS : Fn → Bool
/-- isinstance over the own exceptions -/
structure ExcF (K : PySem.W.Frag) : Prop where
  cls : ∀ c k, c ≤ 6 → k ≤ 7 → PySem.W.kitOne K (.ref (excA K c)) (.ref (excA K k)) = some (decide (k = 7) || decide (c = k))
  verr : ∀ c, c ≤ 6 → PySem.W.kitOne K (.ref (excA K c)) (.type "ValueError") = some true
  exc : ∀ c, c ≤ 6 → ExcC K (excA K c)
structure XG {Fn : Type} (Γ : Sig Fn) (φ : Fn → List D → W → Res D) (X : Cx) (Wx : WX) (sc : Scope) : Prop where
  calm : X.calm = true
  nd : X.N.Nodup
  sc : X.env.scope = sc
  un : X.A.units + 65 < cLine
  tk : L2N.Takes X Wx
  po : PassesOwn (model X.prog X.w) X.A X.env X.xe
  fns : ∀ f, Γ.has f = true → ∃ a fd ps k, FnOk X.prog X.w X.K X.mg X.base (L2N.CX X.prog X.w) k a fd ps (spF X.K (φ f)) ∧ Room k X.A ∧ X.mg (Γ.nm f) = some (.ref a) ∧ PySem.W.keepIn X.K (.ref a) = true ∧ Binds X.K fd ps []
  frees : ∀ x, x ∈ Γ.frees → X.mg x = none
  gi : ∀ p, p ∈ Γ.gi → ∃ t, X.mg p.1 = some (.int p.2 t)
  gs : ∀ p, p ∈ Γ.gs → ∃ t, X.mg p.1 = some (.str p.2 t)
  exf : Γ.hasE = true → ExcF X.K
  gexc : ∀ c, c ∈ Γ.excs → X.mg (excN c) = some (.ref (excA X.K c))
  rexc : ∀ c, c ∈ Γ.excs → PySem.W.excIn X.K (excA X.K c) He.veBase "ValueError.__new__" = true ∧ PySem.W.keepIn X.K (.ref (excA X.K c)) = true ∧ PySem.W.subIn X.K (.ref (excA X.K c)) (.type "BaseException") = some true ∧
    PySem.W.typeIn X.K (.ref (excA X.K c)) = some (.type "type")
  mexc : ∀ c, c ∈ Γ.excs → c ≠ 7 → PySem.W.exmOne X.K (.ref (excA X.K c)) (.ref (excA X.K 7)) = some true
  stpC : Γ.hasS = true → Cls X.K (stA X.K) ∧ NoAttr X.K (stA X.K) "row" ∧ NoAttr X.K (stA X.K) "past"
  mts : ∀ f, Γ.hasM f = true → ∃ a fd ps k, FnOk X.prog X.w X.K X.mg X.base (L2N.CX X.prog X.w) k a fd ps (spF X.K (φ f)) ∧ Room k X.A ∧ Meth X.K (stA X.K) (Γ.nm f) a ∧ Binds X.K fd ps []
  mkf : ∀ f, Γ.isS f = true → (∀ w, φ f [] w = .stk) ∨ (X.mg (Γ.nm f) = some (.ref (stA X.K)) ∧ (∀ w, φ f [] w = mkG [] w) ∧
    ∃ fi fd ps k, Mk X.K (stA X.K) fi ∧ FnOk X.prog X.w X.K X.mg X.base (L2N.CX X.prog X.w) k fi fd ps (spI X.K) ∧ Room (k + 1) X.A ∧ Binds X.K fd ps [])
  lnp : Γ.hasS = true → Room 2 X.A ∧ (∃ a fd ps, FnOk X.prog X.w X.K X.mg X.base (L2N.CX X.prog X.w) 1 a fd ps (spL X.K) ∧ Meth X.K (stA X.K) "__len__" a ∧ Binds X.K fd ps []) ∧
    ∃ a fd ps, FnOk X.prog X.w X.K X.mg X.base (L2N.CX X.prog X.w) 1 a fd ps (spP X.K) ∧ Meth X.K (stA X.K) "points" a ∧ Binds X.K fd ps []
/-- a comprehension's block -/
theorem XG.blk {Fn : Type} {Γ : Sig Fn} {φ : Fn → List D → W → Res D} {X : Cx} {Wx : WX} {sc : Scope} (g : XG Γ φ X Wx sc) (scope : Scope) (s : Shared) (H : Hp) (C : Addr) (cl : List (Str × Addr)) (fp : List Addr) :
    XG Γ φ (X.blk s H scope (compEnvC scope cl C X.env) fp) (fun _ _ _ _ => False) (relS scope sc) where
  calm := g.calm
  nd := g.nd
  sc := by rw [← g.sc]; rfl
  un := g.un
  tk := fun _ _ x => by
    obtain ⟨_, _, _, _, _, _, _, _, _, _, _, _, _, _, _, _, z⟩ := x
    exact z.elim
  po := PassesOwn.never
  fns := g.fns
  frees := g.frees
  gi := g.gi
  gs := g.gs
  exf := g.exf
  gexc := g.gexc
  rexc := g.rexc
  mexc := g.mexc
  stpC := g.stpC
  mts := g.mts
  mkf := g.mkf
  lnp := g.lnp
theorem make_read {K : PySem.W.Frag} {S : GH} {H : Hp} {w : W} {Q : VK} {E : Nat → Hp → Prop} (sb : Sub K S H w) (p : post K RD S H (mkG [] w) Q E) :
    ∀ x dx, H x = none → H dx = none → dx ≠ x → spI K (.ref x :: ([] ++ [])) (upd (upd H dx (.own x)) x (.ins (stA K) dx [])) (fun v H2 => v = .non ∧ Q (.ref x) H2) (fun _ _ _ => False) := by
  intro x dx hx hdx hne
  refine ⟨x, dx, rfl, upd_same, fun r q hr hq hqr => ⟨rfl, ?_⟩⟩
  have nr1 : r ≠ x := by rintro rfl; rw [upd_same] at hr; cases hr
  have nr2 : r ≠ dx := by rintro rfl; rw [upd_ne nr1, upd_same] at hr; cases hr
  have np1 : q ≠ x := by rintro rfl; rw [upd_same] at hq; cases hq
  have np2 : q ≠ dx := by rintro rfl; rw [upd_ne np1, upd_same] at hq; cases hq
  have hr0 : H r = none := by rw [upd_ne nr1, upd_ne nr2] at hr; exact hr
  have hq0 : H q = none := by rw [upd_ne np1, upd_ne np2] at hq; exact hq
  unfold mkG at p
  split at p
  · rename_i hw
    obtain ⟨s1, n1⟩ := sb.mkStp (x := x) (dx := dx) (r := r) (p := q) hw hx hdx hr0 hq0 hne nr1 nr2 np1 np2 hqr
      (H3 := (upd (upd (upd (upd (upd (upd H dx (.own x)) x (.ins (stA K) dx [])) r (.lst [])) x (.ins (stA K) dx [("row", .ref r)])) q (.lst [])) x (.ins (stA K) dx [("row", .ref r), ("past", .ref q)])))
      upd_same (by rw [upd_ne hne, upd_ne (Ne.symm np2), upd_ne hne, upd_ne (Ne.symm nr2), upd_ne hne, upd_same])
      (by rw [upd_ne nr1, upd_ne (Ne.symm hqr), upd_ne nr1, upd_same]) (by rw [upd_ne np1, upd_same])
      (fun b h1 h2 h3 h4 => by rw [upd_ne h1, upd_ne h4, upd_ne h1, upd_ne h3, upd_ne h1, upd_ne h2])
    exact p _ _ _ n1 s1 ⟨x, rfl, updG_same⟩
  · exact p.elim
end Ev

end

section
/-! EvE: iterations, comprehensions. -/
namespace Ev
open PySem PySem.Spec PyProof.Rows L2

section
variable {K : PySem.W.Frag}
/-! ### iterations -/
theorem RI.list {S : GH} {a : Addr} {xs : List V} {ds : List PyData} (h : S a = some (.lst xs)) (r : Rps S ds xs) : RI K S ds (Itl K a) := by
  intro i S1 H1 w1 l sb
  have hh := sb.lst (l _ _ h)
  refine ⟨fun e => ⟨xs, SqL.of hh, by rw [r.length]; omega⟩, fun d hd => ?_⟩
  obtain ⟨v, hv, rv⟩ := r.get hd
  refine ⟨⟨xs, v, SqL.of hh, hv⟩, fun x H' y => ?_⟩
  obtain ⟨e, y⟩ := y
  subst e
  have e2 : xs[i]? = some x := y xs (SqL.of hh)
  rw [hv] at e2
  cases e2
  exact ⟨S1, Nxt.refl _ _, sb, rv.mono l⟩
theorem RI.str {S : GH} (x : Str) : RI K S (x.cps.toList.map fun c => .str ⟨#[c]⟩) (Its x) := by
  intro i S1 H1 w1 l sb
  refine ⟨fun e => ?_, fun d hd => ?_⟩
  · show x.cps.size ≤ i
    rw [e, List.length_map, Array.length_toList]
    exact Nat.le_refl _
  · rw [List.getElem?_map] at hd
    obtain ⟨c, hc, rfl⟩ := Option.map_eq_some_iff.mp hd
    rw [Array.getElem?_toList] at hc
    refine ⟨(Array.getElem?_eq_some_iff.mp hc).1, fun y H' q => ?_⟩
    obtain ⟨e, c', hc', e2⟩ := q
    rw [hc] at hc'
    cases hc'
    subst e e2
    exact ⟨S1, Nxt.refl _ _, sb, Rp.str _⟩
theorem RI.tup {S : GH} {a : Addr} {xs : List V} {ds : List PyData} (h : S a = some (.tup xs)) (r : Rps S ds xs) : RI K S ds (Itt K a) := by
  intro i S1 H1 w1 l sb
  have hh := sb.tup (l _ _ h)
  refine ⟨fun e => ⟨xs, SqT.of hh, by rw [r.length]; omega⟩, fun d hd => ?_⟩
  obtain ⟨v, hv, rv⟩ := r.get hd
  refine ⟨⟨xs, v, SqT.of hh, hv⟩, fun x H' y => ?_⟩
  obtain ⟨e, y⟩ := y
  subst e
  have e2 : xs[i]? = some x := y xs (SqT.of hh)
  rw [hv] at e2
  cases e2
  exact ⟨S1, Nxt.refl _ _, sb, rv.mono l⟩
theorem rngL_len : ∀ (n : Nat) (lo : Int), (rngL lo n).length = n
  | 0, _ => rfl
  | n + 1, lo => by unfold rngL; rw [List.length_cons, rngL_len n]
theorem rngL_get : ∀ (n : Nat) (lo : Int) (i : Nat), i < n → (rngL lo n)[i]? = some (.int (lo + i))
  | 0, _, i, h => by omega
  | n + 1, lo, 0, _ => by unfold rngL; simp
  | n + 1, lo, i + 1, h => by
    unfold rngL
    rw [List.getElem?_cons_succ, rngL_get n (lo + 1) i (by omega)]
    congr 2
    omega
theorem rngDn_len : ∀ (n : Nat) (lo : Int), (rngDn lo n).length = n
  | 0, _ => rfl
  | n + 1, lo => by unfold rngDn; rw [List.length_cons, rngDn_len n]
theorem rngDn_get : ∀ (n : Nat) (lo : Int) (i : Nat), i < n → (rngDn lo n)[i]? = some (.int (lo - i))
  | 0, _, i, h => by omega
  | n + 1, lo, 0, _ => by unfold rngDn; simp
  | n + 1, lo, i + 1, h => by
    unfold rngDn
    rw [List.getElem?_cons_succ, rngDn_get n (lo - 1) i (by omega)]
    congr 2
    omega
theorem RI.range {S : GH} (lo : Int) (n : Nat) : RI K S (rngL lo n) (Itr lo n) := by
  intro i S1 H1 w1 l sb
  refine ⟨fun e => by rw [rngL_len] at e; show n ≤ i; omega, fun d hd => ?_⟩
  have hi : i < n := by
    have := (List.getElem?_eq_some_iff.mp hd).1
    rw [rngL_len] at this
    exact this
  rw [rngL_get n lo i hi] at hd
  cases hd
  refine ⟨hi, fun x H' y => ?_⟩
  obtain ⟨e, y⟩ := y
  subst e y
  exact ⟨S1, Nxt.refl _ _, sb, .int _⟩
theorem RI.rangeDn {S : GH} (hi : Int) (n : Nat) : RI K S (rngDn hi n) (Itc hi (-1) n) := by
  intro i S1 H1 w1 l sb
  refine ⟨fun e => by rw [rngDn_len] at e; show n ≤ i; omega, fun d hd => ?_⟩
  have hl : i < n := by
    have := (List.getElem?_eq_some_iff.mp hd).1
    rw [rngDn_len] at this
    exact this
  rw [rngDn_get n hi i hl] at hd
  cases hd
  refine ⟨hl, fun x H' y => ?_⟩
  obtain ⟨e, y⟩ := y
  subst e y
  have e2 : hi - (i : Int) = hi + (i : Int) * -1 := by omega
  rw [e2]
  exact ⟨S1, Nxt.refl _ _, sb, .int _⟩
theorem enumL_get : ∀ (ds : List PyData) (n : Int) (i : Nat) (d : PyData), (enumL n ds)[i]? = some d → ∃ x, ds[i]? = some x ∧ d = .tuple [.int (n + i), x]
  | [], _, _, _, h => by simp [enumL] at h
  | x :: r, n, 0, d, h => by
    unfold enumL at h
    have e : _ = d := Option.some.inj h
    subst e
    exact ⟨x, rfl, by simp⟩
  | x :: r, n, i + 1, d, h => by
    unfold enumL at h
    rw [List.getElem?_cons_succ] at h
    obtain ⟨y, h1, h2⟩ := enumL_get r (n + 1) i d h
    refine ⟨y, h1, ?_⟩
    rw [h2]
    congr 3
    omega
theorem enumL_len : ∀ (ds : List PyData) (n : Int), (enumL n ds).length = ds.length
  | [], _ => rfl
  | x :: r, n => by unfold enumL; rw [List.length_cons, List.length_cons, enumL_len r]
theorem RI.enum {S : GH} {a : Addr} {xs : List V} {ds : List PyData} (h : S a = some (.lst xs)) (r : Rps S ds xs) : RI K S (enumL 0 ds) (Ite K a) := by
  intro i S1 H1 w1 l sb
  have hh := sb.lst (l _ _ h)
  refine ⟨fun e => ⟨xs, SqL.of hh, by rw [r.length, ← enumL_len ds 0]; omega⟩, fun d hd => ?_⟩
  obtain ⟨z, hz, rfl⟩ := enumL_get ds 0 i d hd
  obtain ⟨v, hv, rv⟩ := r.get hz
  refine ⟨⟨xs, v, SqL.of hh, hv⟩, fun x H' y => ?_⟩
  obtain ⟨T, u, rfl, hT, rfl, y⟩ := y
  have e2 : xs[i]? = some u := y xs (SqL.of hh)
  rw [hv] at e2
  cases e2
  have n : S1 T = none := sb.free hT
  refine ⟨_, Nxt.new n hT, sb.newT hT, Rp.tup updG_same (.cons ?_ (.cons ((rv.mono l).mono (LeG.upd n)) .nil))⟩
  rw [Int.zero_add]
  exact .int _
theorem zipL_get : ∀ (xs ys : List PyData) (i : Nat) (d : PyData), (zipL xs ys)[i]? = some d → ∃ x y, xs[i]? = some x ∧ ys[i]? = some y ∧ d = .tuple [x, y]
  | [], _, _, _, h => by simp [zipL] at h
  | _ :: _, [], _, _, h => by simp [zipL] at h
  | x :: r, y :: q, 0, d, h => by
    unfold zipL at h
    have e : _ = d := Option.some.inj h
    subst e
    exact ⟨x, y, rfl, rfl, rfl⟩
  | x :: r, y :: q, i + 1, d, h => by
    unfold zipL at h
    rw [List.getElem?_cons_succ] at h
    exact zipL_get r q i d h
theorem zipL_len : ∀ (xs ys : List PyData), (zipL xs ys).length = min xs.length ys.length
  | [], _ => by simp [zipL]
  | _ :: _, [] => by simp [zipL]
  | x :: r, y :: q => by unfold zipL; rw [List.length_cons, zipL_len r q, List.length_cons, List.length_cons]; omega
end

theorem RI.zip {K : PySem.W.Frag} {S : GH} {a b : Addr} {xs ys : List V} {ds es : List PyData} (h : S a = some (.lst xs)) (r : Rps S ds xs) (h2 : S b = some (.lst ys)) (r2 : Rps S es ys) : RI K S (zipL ds es) (Itz K a b) := by
  intro i S1 H1 w1 l sb
  have hh := sb.lst (l _ _ h)
  have hh2 := sb.lst (l _ _ h2)
  refine ⟨fun e => ⟨xs, ys, SqL.of hh, SqL.of hh2, by rw [r.length, r2.length]; rw [zipL_len] at e; omega⟩, fun d hd => ?_⟩
  obtain ⟨p, q, hp, hq, rfl⟩ := zipL_get ds es i d hd
  obtain ⟨v, hv, rv⟩ := r.get hp
  obtain ⟨u, hu, ru⟩ := r2.get hq
  refine ⟨⟨xs, ys, v, u, SqL.of hh, SqL.of hh2, hv, hu⟩, fun x H' y => ?_⟩
  obtain ⟨T, v', u', rfl, hT, rfl, y1, y2⟩ := y
  have e1 : xs[i]? = some v' := y1 xs (SqL.of hh)
  have e2 : ys[i]? = some u' := y2 ys (SqL.of hh2)
  rw [hv] at e1
  rw [hu] at e2
  cases e1
  cases e2
  have n : S1 T = none := sb.free hT
  exact ⟨_, Nxt.new n hT, sb.newT hT, Rp.tup updG_same (.cons ((rv.mono l).mono (LeG.upd n)) (.cons ((ru.mono l).mono (LeG.upd n)) .nil))⟩

/-! ### comprehensions -/
theorem wipe_idem {σ : St} {vs : List Nat} : wipe (wipe σ vs) vs = wipe σ vs := by
  apply List.ext_getElem?
  intro j
  rw [wipe_get, wipe_get, wipe_length]
  by_cases hc : j ∈ vs ∧ j < σ.length
  · rw [if_pos hc, if_pos hc]
  · rw [if_neg hc]
theorem noOwn_V {ρ : Env} {i : Nat} : getV (noOwn ρ) i = getV ρ i := by
  unfold getV noOwn
  rw [List.getElem?_map]
  cases h : ρ[i]? with
  | none => rfl
  | some s => cases s <;> rfl
theorem noOwn_O {ρ : Env} {i : Nat} : getO (noOwn ρ) i = none := by
  unfold getO noOwn
  rw [List.getElem?_map]
  cases h : ρ[i]? with
  | none => rfl
  | some s => cases s <;> rfl
theorem wipeE_len {ρ : Env} : ∀ {vs : List Nat}, (wipeE ρ vs).length = ρ.length
  | [] => rfl
  | v :: vs => by unfold wipeE; rw [List.length_set, wipeE_len]
theorem wipeE_V {ρ : Env} {i : Nat} {d : D} : ∀ {vs : List Nat}, getV (wipeE ρ vs) i = some d → getV ρ i = some d ∧ i ∉ vs
  | [], h => ⟨h, by simp⟩
  | v :: vs, h => by
    unfold wipeE at h
    rw [getV_set] at h
    split at h
    · split at h <;> cases h
    · rename_i z
      obtain ⟨h1, h2⟩ := wipeE_V h
      exact ⟨h1, by rw [List.mem_cons]; rintro (e | e); exact z e.symm; exact h2 e⟩
theorem wipeE_O {ρ : Env} {i : Nat} {d : List PyData} : ∀ {vs : List Nat}, getO (wipeE ρ vs) i = some d → getO ρ i = some d
  | [], h => h
  | v :: vs, h => by
    unfold wipeE at h
    rw [getO_set] at h
    split at h
    · split at h <;> cases h
    · exact wipeE_O h
theorem EOk.block {S : GH} {H : Hp} {ρ : Env} {σ : St} (e : EOk S H ρ σ) (vs : List Nat) : EOk S H (wipeE (noOwn ρ) vs) (wipe σ vs) := by
  have no : ∀ i ds, getO (wipeE (noOwn ρ) vs) i ≠ some ds := fun i ds h => by
    have z := wipeE_O h
    rw [noOwn_O] at z
    cases z
  refine ⟨by rw [wipeE_len, wipe_length]; unfold noOwn; rw [List.length_map]; exact e.len, fun i d h => ?_, fun i ds h => (no i ds h).elim, fun i j ds es a h1 => (no i ds h1).elim⟩
  obtain ⟨h1, h2⟩ := wipeE_V h
  rw [noOwn_V] at h1
  obtain ⟨v, h3, r⟩ := e.val i d h1
  exact ⟨v, by rw [wipe_get, if_neg (fun z => h2 z.1)]; exact h3, r⟩
theorem compGo_exc {step : Env → W → Res (Option PyData)} {ρ : Env} {t : MT} : ∀ {xs : List PyData} {w : W} {c : Nat} {w' : W}, compGo step ρ t xs w ≠ .exc c w'
  | [], w, c, w', h => by simp [compGo] at h
  | x :: xs, w, c, w', h => by
    unfold compGo at h
    split at h
    · cases h
    · split at h
      · split at h <;> cases h
      · exact compGo_exc h
      · cases h
/-- how one turn is read -/
def RoV (S : GH) : Option PyData → Option V → Prop
  | some d, some v => Rp S d v
  | none, none => True
  | _, _ => False
theorem comp_read {K : PySem.W.Frag} {t : MT} {tt : TT} {te : TE} {vs : List Nat} {step : Env → W → Res (Option PyData)} {S1 : GH} {H1 : Hp} {w1 : W} {ρ : Env} {σ : St} {xs : List PyData} {J : It} {Q : VK}
    (sb : Sub K S1 H1 w1) (e0 : EOk S1 H1 ρ σ) (hJ : RI K S1 xs J) (hsz : xs.length ≤ 16000000) (ht : ∀ i ∈ t.ixs, i ∈ vs)
    (hstep : ∀ ρ' w S H σ2 o w', Sub K S H w → EOk S H ρ' σ2 → step ρ' w = .ok o w' → ∀ P : Option V → Hp → Prop, (∀ S4 H4 ov, Nxt S H S4 H4 → Sub K S4 H4 w' → RoV S4 o ov → P ov H4) →
      tt σ2 H fun b H3 => if b = true then te σ2 H3 fun y H4 => P (some y) H4 else P none H3)
    (mtt : ∀ σ H (Q Q' : Bool → Hp → Prop), (∀ b H1, Q b H1 → Q' b H1) → tt σ H Q → tt σ H Q') (mte : ∀ σ H (Q Q' : VK), (∀ b H1, Q b H1 → Q' b H1) → te σ H Q → te σ H Q')
    (nst : compGo step (wipeE (noOwn ρ) vs) t xs w1 ≠ .stk)
    (p : ∀ ys w2, compGo step (wipeE (noOwn ρ) vs) t xs w1 = .ok ys w2 → ∀ S' H' a acc, Nxt S1 H1 S' H' → Sub K S' H' w2 → H1 a = none → S' a = none → H' a = some (.lst acc) → Rps S' ys acc → Q (.ref a) H') (D : Addr) (hD : H1 D = none) :
    ∃ W : Nat → Nat → Hp → Prop, (∃ m, W 0 m (upd H1 D (.lst []))) ∧ ∀ i m H, W i m H →
      (J.stop i H ∧ Q (.ref D) H) ∨ (J.go i H ∧ ∃ Nx : Hp → Prop, (∀ H', Nx H' → ∃ m', m' < m ∧ W (i + 1) m' H') ∧ ∀ x H', J.yld i H x H' → gT K t x (wipe σ vs) H' fun σ2 H2 => wipe σ2 vs = wipe σ vs ∧ tt σ2 H2 fun b H3 =>
        if b = true then te σ2 H3 fun y H4 => ∃ acc, H4 D = some (.lst acc) ∧ acc.length < sizeLine ∧ Nx (upd H4 D (.lst (acc ++ [y]))) else Nx H3) := by
  have eB := e0.block vs
  have nD : S1 D = none := sb.free hD
  cases hr : compGo step (wipeE (noOwn ρ) vs) t xs w1 with
  | exc c w' => exact absurd hr compGo_exc
  | stk => exact absurd hr nst
  | ok ys w2 =>
    refine ⟨fun i m H' => m = xs.length - i ∧ i ≤ xs.length ∧ ∃ S' w' acc ys1 ys2, Nxt S1 H1 S' H' ∧ Sub K S' H' w' ∧ H' D = some (.lst acc) ∧ S' D = none ∧ Rps S' ys1 acc ∧
      compGo step (wipeE (noOwn ρ) vs) t (xs.drop i) w' = .ok ys2 w2 ∧ ys = ys1 ++ ys2 ∧ acc.length ≤ i, ⟨xs.length, by omega, Nat.zero_le _, S1, w1, [], [], ys, Nxt.newO hD, sb.updO nD (nf_none hD), upd_same, nD, .nil, hr, rfl, Nat.le_refl _⟩, ?_⟩
    rintro i m H' ⟨rfl, hi, S', w', acc, ys1, ys2, nx, sb', hacc, nD', ra, hgo, hys, hal⟩
    obtain ⟨j1, j2⟩ := hJ i S' H' w' nx.s sb'
    by_cases hlt : i < xs.length
    · have hget : xs[i]? = some xs[i] := by simp [hlt]
      obtain ⟨g1, g2⟩ := j2 _ hget
      refine .inr ⟨g1, fun H'' => ∃ S'' w'' acc ys1 ys2, Nxt S1 H1 S'' H'' ∧ Sub K S'' H'' w'' ∧ H'' D = some (.lst acc) ∧ S'' D = none ∧ Rps S'' ys1 acc ∧
        compGo step (wipeE (noOwn ρ) vs) t (xs.drop (i + 1)) w'' = .ok ys2 w2 ∧ ys = ys1 ++ ys2 ∧ acc.length ≤ i + 1, fun H'' z => ⟨_, by omega, rfl, hlt, z⟩, fun x H2 hy => ?_⟩
      obtain ⟨S2, n2, sb2, rx⟩ := g2 x H2 hy
      obtain ⟨hD2, nD2⟩ := n2.k D _ nD' hacc
      have eB2 := eB.mono (nx.trans n2)
      rw [List.drop_eq_getElem_cons hlt] at hgo
      unfold compGo at hgo
      split at hgo
      · cases hgo
      · rename_i ρ' hρ
        refine gT_ok t hρ rx sb2 eB2 fun σ2 e2 hw => ⟨by rw [hw vs ht, wipe_idem], ?_⟩
        have fin : ∀ o w3 ys3, step ρ' w' = .ok o w3 → compGo step (wipeE (noOwn ρ) vs) t (xs.drop (i + 1)) w3 = .ok ys3 w2 → ys2 = o.toList ++ ys3 →
            tt σ2 H2 fun b H3 => if b = true then te σ2 H3 fun y H4 => ∃ acc, H4 D = some (.lst acc) ∧ acc.length < sizeLine ∧ (∃ S'' w'' acc' ys1 ys2, Nxt S1 H1 S'' (upd H4 D (.lst (acc ++ [y]))) ∧ Sub K S'' (upd H4 D (.lst (acc ++ [y]))) w'' ∧
                (upd H4 D (.lst (acc ++ [y]))) D = some (.lst acc') ∧ S'' D = none ∧ Rps S'' ys1 acc' ∧ compGo step (wipeE (noOwn ρ) vs) t (xs.drop (i + 1)) w'' = .ok ys2 w2 ∧ ys = ys1 ++ ys2 ∧ acc'.length ≤ i + 1)
              else ∃ S'' w'' acc ys1 ys2, Nxt S1 H1 S'' H3 ∧ Sub K S'' H3 w'' ∧ H3 D = some (.lst acc) ∧ S'' D = none ∧ Rps S'' ys1 acc ∧ compGo step (wipeE (noOwn ρ) vs) t (xs.drop (i + 1)) w'' = .ok ys2 w2 ∧ ys = ys1 ++ ys2 ∧ acc.length ≤ i + 1 := by
          intro o w3 ys3 hs hg he
          have z := hstep ρ' w' S2 H2 σ2 o w3 sb2 e2 hs (fun ov H4 => match ov with
            | some y => ∃ acc, H4 D = some (.lst acc) ∧ acc.length < sizeLine ∧ (∃ S'' w'' acc' ys1 ys2, Nxt S1 H1 S'' (upd H4 D (.lst (acc ++ [y]))) ∧ Sub K S'' (upd H4 D (.lst (acc ++ [y]))) w'' ∧
                (upd H4 D (.lst (acc ++ [y]))) D = some (.lst acc') ∧ S'' D = none ∧ Rps S'' ys1 acc' ∧ compGo step (wipeE (noOwn ρ) vs) t (xs.drop (i + 1)) w'' = .ok ys2 w2 ∧ ys = ys1 ++ ys2 ∧ acc'.length ≤ i + 1)
            | none => ∃ S'' w'' acc ys1 ys2, Nxt S1 H1 S'' H4 ∧ Sub K S'' H4 w'' ∧ H4 D = some (.lst acc) ∧ S'' D = none ∧ Rps S'' ys1 acc ∧ compGo step (wipeE (noOwn ρ) vs) t (xs.drop (i + 1)) w'' = .ok ys2 w2 ∧ ys = ys1 ++ ys2 ∧ acc.length ≤ i + 1) ?_
          · refine mtt _ _ _ _ (fun b H3 q => ?_) z
            cases b with
            | true =>
              rw [if_pos rfl] at q ⊢
              exact q
            | false =>
              rw [if_neg Bool.false_ne_true] at q ⊢
              exact q
          · intro S4 H4 ov n4 sb4 rv
            obtain ⟨hD4, nD4⟩ := n4.k D _ nD2 hD2
            have nn := (nx.trans n2).trans n4
            cases o with
            | none =>
              cases ov with
              | none => exact ⟨S4, w3, acc, ys1, ys3, nn, sb4, hD4, nD4, (ra.mono n2.s).mono n4.s, hg, by rw [hys, he]; rfl, by omega⟩
              | some v => exact rv.elim
            | some y =>
              cases ov with
              | none => exact rv.elim
              | some v =>
                refine ⟨acc, hD4, ?_, S4, w3, acc ++ [v], ys1 ++ [y], ys3, ⟨nn.s, fun b u nb hb => ?_⟩, sb4.updO nD4 (nf_lst hD4), upd_same, nD4, ((ra.mono n2.s).mono n4.s).append (.cons rv .nil), hg, by rw [hys, he, List.append_assoc]; rfl, by rw [List.length_append, List.length_singleton]; omega⟩
                · have := line_le
                  omega
                · have hne : b ≠ D := by rintro rfl; rw [hD] at hb; cases hb
                  rw [upd_ne hne]
                  exact nn.k b u nb hb
        split at hgo
        · rename_i y w3 hs
          split at hgo
          · rename_i ys3 w4 hg
            cases hgo
            exact fin _ _ _ hs hg rfl
          · cases hgo
        · rename_i w3 hs
          exact fin _ _ _ hs hgo rfl
        · cases hgo
    · have e : i = xs.length := by omega
      subst e
      rw [List.drop_length] at hgo
      unfold compGo at hgo
      cases hgo
      rw [List.append_nil] at hys
      subst hys
      exact .inl ⟨j1 rfl, p _ _ hr _ _ D acc nx sb' hD nD' hacc ra⟩
/-! ### list(enumerate(xs)): the ghost -/
theorem en_ghost {K : PySem.W.Frag} {w : W} : ∀ (as : List Addr) (xs : List V) (ds : List PyData) (i : Nat) (S : GH) (H : Hp), as.length = xs.length → as.Nodup → (∀ t ∈ as, H t = none) → Sub K S H w → Rps S ds xs →
    ∃ S', Nxt S H S' (putE H i as xs) ∧ Sub K S' (putE H i as xs) w ∧ Rps S' (enumL (i : Nat) ds) (as.map V.ref) ∧ ∀ b, b ∉ as → S' b = S b
  | [], [], ds, i, S, H, _, _, _, sb, r => by
    cases r
    exact ⟨S, Nxt.refl _ _, sb, .nil, fun _ _ => rfl⟩
  | [], _ :: _, _, _, _, _, h, _, _, _, _ => by cases h
  | _ :: _, [], _, _, _, _, h, _, _, _, _ => by cases h
  | a :: as, x :: xs, _, i, S, H, h, hn, hN, sb, .cons (d := d) (ds := ds) rd r => by
    have hn' := List.nodup_cons.mp hn
    have ha := hN a List.mem_cons_self
    have na := sb.free ha
    have up : LeG S (updG S a (.tup [.int (i : Nat), x])) := LeG.upd na
    obtain ⟨S', n1, s1, r1, k1⟩ := en_ghost as xs ds (i + 1) (updG S a (.tup [.int (i : Nat), x])) (upd H a (.tup [.int (i : Nat), x])) (Nat.succ.inj h) hn'.2
      (fun t ht => by rw [upd_ne (fun z => hn'.1 (by rw [← z]; exact ht))]; exact hN t (List.mem_cons_of_mem _ ht)) (sb.newT ha) (r.mono up)
    refine ⟨S', (Nxt.new na ha).trans n1, s1, ?_, fun b hb => ?_⟩
    · show Rps S' (.tuple [.int (i : Nat), d] :: enumL ((i : Nat) + 1) ds) (V.ref a :: as.map V.ref)
      have r1' : Rps S' (enumL ((i : Nat) + 1 : Int) ds) (as.map V.ref) := by
        have e : ((i + 1 : Nat) : Int) = (i : Int) + 1 := by omega
        rw [← e]
        exact r1
      exact .cons (Rp.tup (n1.s _ _ updG_same) (.cons (.int _) (.cons ((rd.mono up).mono n1.s) .nil))) r1'
    · rw [k1 b (fun z => hb (List.mem_cons_of_mem _ z)), updG_ne (fun z => hb (by rw [z]; exact List.mem_cons_self))]
end Ev

end

section
/-! EvF: the check of a syntax against the model's own. -/
namespace Ev
open PySem PySem.Spec PyProof.Rows L2

def visB (sc : Scope) (x : Str) : Bool := match sc.names.lookup x with
  | some .local => true
  | some .cell => true
  | some .free => true
  | _ => false
def stoB (sc : Scope) (x : Str) : Bool := match sc.names.lookup x with
  | some .local => true
  | some .cell => true
  | _ => false
def glB (sc : Scope) (x : Str) : Bool := decide (sc.names.lookup x = some .globalImplicit)
def okN (x : Str) : Bool := !(x == ("__debug__" : Str)) && !(x == ("__classdict__" : Str))
def bNm : BF → Str
  | .len => "len"
  | .abs => "abs"
  | .min => "min"
  | .max => "max"
  | .sum => "sum"
  | .all => "all"
  | .sorted => "sorted"
  | .list => "list"
  | .tuple => "tuple"
  | .str => "str"
  | .int => "int"
def tNm : TyN → Str
  | .int => "int"
  | .bool => "bool"
  | .tuple => "tuple"
  | .list => "list"
  | .str => "str"
  | .verr => "ValueError"
  | .cls c => excN c
section
variable {Fn : Type} (Γ : Sig Fn) (N : List Str)
def blt (sc : Scope) (x y : Str) : Bool := decide (x = y) && glB sc y && decide (y ∈ Γ.frees)
def chkTy (sc : Scope) (t : TyN) (e : Expr) : Bool := match t, e with
  | .cls c, .Name x _ => decide (x = excN c) && glB sc x && okN x && Γ.hasE && decide (c ∈ Γ.excs) && decide (c ≤ 7)
  | .verr, .Name x _ => blt Γ sc x "ValueError" && Γ.hasE
  | t, .Name x _ => blt Γ sc x (tNm t)
  | _, _ => false
def chkNs (sto : Str → Bool) : List Nat → List Expr → Bool
  | [], [] => true
  | i :: is, .Name x _ :: es => decide (N[i]? = some x) && sto x && chkNs sto is es
  | _, _ => false
def chkT (sto : Str → Bool) (t : MT) (e : Expr) : Bool := match t, e with
  | .one i, .Name x _ => decide (N[i]? = some x) && sto x
  | .tup is, .Tuple es _ _ => chkNs N sto is es
  | _, _ => false
/-- not super() -/
def noSup : Expr → Bool
  | .Call (.Name _ _) [] [] _ => false
  | _ => true
def isTup : Expr → Bool
  | .Tuple .. => true
  | _ => false
/-- the parts of an f-string -/
def fsB : MEs Fn → Bool
  | .nil => true
  | .cons (.fmt _) es => fsB es
  | .cons (.str x) es => decide (x.length ≤ 1000) && fsB es
  | .cons _ _ => false
mutual
def chkE (sc : Scope) : ME Fn → Expr → Bool
  | .var i, ee => match ee with
    | .Name x _ => decide (N[i]? = some x) && visB sc x && okN x
    | _ => false
  | .non, ee => match ee with
    | .Constant .none _ _ => true
    | _ => false
  | .bl b, ee => match ee with
    | .Constant (.bool c) _ _ => b == c
    | _ => false
  | .int i, ee => match ee with
    | .Constant (.int j) _ _ => decide (i = j)
    | _ => false
  | .str x, ee => match ee with
    | .Constant (.str y) _ _ => decide (x = y)
    | _ => false
  | .gint y i, ee => match ee with
    | .Name x _ => decide (x = y) && glB sc x && okN x && decide ((y, i) ∈ Γ.gi)
    | _ => false
  | .gstr y z, ee => match ee with
    | .Name x _ => decide (x = y) && glB sc x && okN x && decide ((y, z) ∈ Γ.gs)
    | _ => false
  | .bin op a b, ee => match ee with
    | .BinOp x o y _ => decide (o = bo op) && chkE sc a x && chkE sc b y
    | _ => false
  | .neg a, ee => match ee with
    | .UnaryOp .USub x _ => chkE sc a x
    | _ => false
  | .not a, ee => match ee with
    | .UnaryOp .Not x _ => chkE sc a x
    | _ => false
  | .cmp op a b, ee => match ee with
    | .Compare x [o] [y] _ => decide (o = co op) && chkE sc a x && chkE sc b y
    | _ => false
  | .chain op op' a b c, ee => match ee with
    | .Compare x [o, o'] [y, z] _ => decide (o = co op) && decide (o' = co op') && chkE sc a x && chkE sc b y && chkE sc c z
    | _ => false
  | .and a b, ee => match ee with
    | .BoolOp .And (x :: y :: r) p => chkE sc a x && chkE sc b (.BoolOp .And (y :: r) p)
    | _ => false
  | .or a b, ee => match ee with
    | .BoolOp .Or (x :: y :: r) p => chkE sc a x && chkE sc b (.BoolOp .Or (y :: r) p)
    | _ => false
  | .and1 a, ee => match ee with
    | .BoolOp .And [x] _ => chkE sc a x
    | _ => false
  | .or1 a, ee => match ee with
    | .BoolOp .Or [x] _ => chkE sc a x
    | _ => false
  | .ite c a b, ee => match ee with
    | .IfExp z x y _ => chkE sc c z && chkE sc a x && chkE sc b y
    | _ => false
  | .call0 f, ee => match ee with
    | .Call (.Name x _) [] [] _ => decide (x = Γ.nm f) && Γ.has f && glB sc x && okN x
    | _ => false
  | .call f es, ee => match ee with
    | .Call (.Name x _) (y :: ys) [] _ => decide (x = Γ.nm f) && Γ.has f && glB sc x && okN x && chkEs sc es (y :: ys)
    | _ => false
  | .bcall b es, ee => match ee with
    | .Call (.Name x _) (y :: ys) [] _ => blt Γ sc x (bNm b) && chkEs sc es (y :: ys)
    | _ => false
  | .isi a t, ee => match ee with
    | .Call (.Name x _) [y, z] [] _ => blt Γ sc x "isinstance" && chkE sc a y && chkTy Γ sc t z
    | _ => false
  | .ix a b, ee => match ee with
    | .Subscript x y _ => chkE sc a x && chkE sc b y
    | _ => false
  | .sl a lo hi, ee => match ee with
    | .Subscript x (.Slice l h none _) _ => chkE sc a x && chkO sc lo l && chkO sc hi h
    | _ => false
  | .tup es, ee => match ee with
    | .Tuple ys _ _ => chkEs sc es ys && decide (ys.length ≤ 1000)
    | _ => false
  | .lst es, ee => match ee with
    | .List ys _ => chkEs sc es ys && decide (ys.length ≤ 1000)
    | _ => false
  | .comp elt t it vs, ee => match ee with
    | .ListComp x [⟨tg, iter, [], 0⟩] scope _ => blkC N sc scope (vs.map fun i => (N.getD i Str.empty, i)) && chkI sc it tg iter && chkT N (stoB scope) t tg && decide (∀ i ∈ t.ixs, i ∈ vs) && chkE (relS scope sc) elt x
    | _ => false
  | .compIf elt t it c vs, ee => match ee with
    | .ListComp x [⟨tg, iter, [y], 0⟩] scope _ => blkC N sc scope (vs.map fun i => (N.getD i Str.empty, i)) && chkI sc it tg iter && chkT N (stoB scope) t tg && decide (∀ i ∈ t.ixs, i ∈ vs) && chkE (relS scope sc) elt x && chkE (relS scope sc) c y
    | _ => false
  | .lenO i, ee => match ee with
    | .Call (.Name x _) [.Name y _] [] _ => blt Γ sc x "len" && decide (N[i]? = some y) && visB sc y && okN y
    | _ => false
  | .ixO i b, ee => match ee with
    | .Subscript (.Name x _) y _ => decide (N[i]? = some x) && visB sc x && okN x && chkE sc b y
    | _ => false
  | .ninO a i, ee => match ee with
    | .Compare x [.NotIn] [.Name y _] _ => chkE sc a x && decide (N[i]? = some y) && visB sc y && okN y
    | _ => false
  | .sset a, ee => match ee with
    | .Call (.Name x _) [.Call (.Name y _) [z] [] _] [] _ => blt Γ sc x "sorted" && blt Γ sc y "set" && chkE sc a z
    | _ => false
  | .fmt a, ee => match ee with
    | .FormattedValue x c none _ => decide (c = -1) && chkE sc a x
    | _ => false
  | .fstr es, ee => match ee with
    | .JoinedStr (x :: y :: r) _ => fsB es && decide ((x :: y :: r).length ≤ 100) && chkEs sc es (x :: y :: r)
    | _ => false
  | .join a b, ee => match ee with
    | .Call (.Attribute x nm ap) [y] [] cp => decide (nm = "join") && (ap.endLine == cp.line) && noSup x && chkE sc a x && chkE sc b y
    | _ => false
  | .split a b, ee => match ee with
    | .Call (.Attribute x nm ap) [y] [] cp => decide (nm = "split") && (ap.endLine == cp.line) && noSup x && chkE sc a x && chkE sc b y
    | _ => false
  | .index a b, ee => match ee with
    | .Call (.Attribute x nm ap) [y] [] cp => decide (nm = "index") && (ap.endLine == cp.line) && noSup x && chkE sc a x && chkE sc b y
    | _ => false
  | .count a b, ee => match ee with
    | .Call (.Attribute x nm ap) [y] [] cp => decide (nm = "count") && (ap.endLine == cp.line) && noSup x && chkE sc a x && chkE sc b y
    | _ => false
  | .lenum e, ee => match ee with
    | .Call (.Name x _) [.Call (.Name y _) [z] [] _] [] _ => blt Γ sc x "list" && blt Γ sc y "enumerate" && chkE sc e z
    | _ => false
  | .lrng a b, ee => match ee with
    | .Call (.Name x _) [.Call (.Name y _) [z, u] [] _] [] _ => blt Γ sc x "list" && blt Γ sc y "range" && chkE sc a z && chkE sc b u
    | _ => false
  | .slS a lo st, ee => match ee with
    | .Subscript x (.Slice l none (some u) _) _ => chkE sc a x && chkO sc lo l && chkE sc st u
    | _ => false
  | .mkS f, ee => match ee with
    | .Call (.Name x _) [] [] _ => decide (x = Γ.nm f) && Γ.isS f && glB sc x && okN x
    | _ => false
  | .meth f i es, ee => match ee with
    | .Call (.Attribute (.Name x _) nm ap) [y] [] cp => decide (N[i]? = some x) && visB sc x && okN x && decide (nm = Γ.nm f) && Γ.hasS && Γ.hasM f && decide (nm ≠ "row" ∧ nm ≠ "past") && chkEs sc es [y] && (ap.endLine == cp.line)
    | _ => false
  | .meth0 f i, ee => match ee with
    | .Call (.Attribute (.Name x _) nm ap) [] [] cp => decide (N[i]? = some x) && visB sc x && okN x && decide (nm = Γ.nm f) && Γ.hasS && Γ.hasM f && decide (nm ≠ "row" ∧ nm ≠ "past") && (ap.endLine == cp.line)
    | _ => false
  | .srow i, ee => match ee with
    | .Attribute (.Name x _) nm _ => decide (N[i]? = some x) && visB sc x && okN x && decide (nm = "row") && Γ.hasS
    | _ => false
  | .noPast i, ee => match ee with
    | .Compare (.Attribute (.Name x _) nm _) [.Eq] [.List [] _] _ => decide (N[i]? = some x) && visB sc x && okN x && decide (nm = "past") && Γ.hasS
    | _ => false
  | .lenS i, ee => match ee with
    | .Call (.Name x _) [.Name y _] [] _ => blt Γ sc x "len" && decide (N[i]? = some y) && visB sc y && okN y && Γ.hasS
    | _ => false
  | .neO i, ee => match ee with
    | .Compare (.Name x _) [.NotEq] [.List [] _] _ => decide (N[i]? = some x) && visB sc x && okN x
    | _ => false
def chkEs (sc : Scope) : MEs Fn → List Expr → Bool
  | .nil, ee => match ee with
    | [] => true
    | _ => false
  | .cons e es, ee => match ee with
    | y :: ys => chkE sc e y && chkEs sc es ys
    | _ => false
def chkI (sc : Scope) : MI Fn → Expr → Expr → Bool
  | .seq e, _, ee => chkE sc e ee
  | .range1 a, _, ee => match ee with
    | .Call (.Name f _) [x] [] _ => blt Γ sc f "range" && chkE sc a x
    | _ => false
  | .range2 a b, _, ee => match ee with
    | .Call (.Name f _) [x, y] [] _ => blt Γ sc f "range" && chkE sc a x && chkE sc b y
    | _ => false
  | .range3 a b c, _, ee => match ee with
    | .Call (.Name f _) [x, y, z] [] _ => blt Γ sc f "range" && chkE sc a x && chkE sc b y && chkE sc c z
    | _ => false
  | .enum e, tg, ee => match ee with
    | .Call (.Name f _) [x] [] _ => isTup tg && blt Γ sc f "enumerate" && chkE sc e x
    | _ => false
  | .zip a b, tg, ee => match ee with
    | .Call (.Name f _) [x, y] [] _ => isTup tg && blt Γ sc f "zip" && chkE sc a x && chkE sc b y
    | _ => false
def chkO (sc : Scope) : MO Fn → Option Expr → Bool
  | .non, ee => match ee with
    | none => true
    | _ => false
  | .some e, ee => match ee with
    | some x => chkE sc e x
    | _ => false
end
end
end Ev

end

section
/-! EvG: the readings put together. -/
namespace Ev
open PySem PySem.Spec PyProof.Rows L2

/-! ### weaker readings -/
section
variable {X : Cx} {e : Expr}
theorem weakE {t t' : TE} (h : PE X e t) (k : ∀ σ H Q, t' σ H Q → t σ H Q) : PE X e t' := ⟨fun pins s σ H Q I q => h.run pins s σ H Q I (k σ H Q q)⟩
theorem weakT {t t' : TT} (h : PT X e t) (k : ∀ σ H Q, t' σ H Q → t σ H Q) : PT X e t' := ⟨fun pins s σ H Q I q => h.run pins s σ H Q I (k σ H Q q)⟩
theorem weakW {t t' : TT} (h : PW X e t) (k : ∀ σ H Q, t' σ H Q → t σ H Q) : PW X e t' := ⟨fun wh pins s σ H Q I q => h.run wh pins s σ H Q I (k σ H Q q)⟩
theorem weakA {es : List Expr} {t t' : TA} (h : PA X es t) (k : ∀ σ H Q, t' σ H Q → t σ H Q) : PA X es t' := ⟨fun p pins s σ H Q I q => h.run p pins s σ H Q I (k σ H Q q)⟩
theorem weakI {tg : Expr} {t t' : TI} (h : PI X tg e t) (k : ∀ σ H Q, t' σ H Q → t σ H Q) : PI X tg e t' := ⟨fun pins s σ H Q I q => h.run pins s σ H Q I (k σ H Q q)⟩
theorem weakO {o : Option Expr} {t t' : TO} (h : PO X o t) (k : ∀ σ H Q, t' σ H Q → t σ H Q) : PO X o t' := ⟨fun pins s σ H Q I q => h.run pins s σ H Q I (k σ H Q q)⟩
theorem weakS {st : Stmt} {t t' : TS} (h : PS X st t) (k : ∀ D σ H, t' D σ H → t D σ H) : PS X st t' := ⟨fun pins s σ H D I q => h.run pins s σ H D I (k D σ H q)⟩
theorem weakSs {st : List Stmt} {t t' : TS} (h : PSs X st t) (k : ∀ D σ H, t' D σ H → t D σ H) : PSs X st t' := ⟨fun pins s σ H D I q => h.run pins s σ H D I (k D σ H q)⟩
end

abbrev MonoR {α β : Type} (R : GH → α → β → Prop) : Prop := ∀ S S' d v, LeG S S' → R S d v → R S' d v
theorem monoD : MonoR RD := fun _ _ _ _ l r => r.mono l
theorem monoDs : MonoR RDs := fun _ _ _ _ l r => r.mono l
theorem monoB : MonoR RB := fun _ _ _ _ _ r => r
theorem monoO : MonoR RO := fun _ _ _ _ _ r => r
section
variable {α α1 α2 β β1 β2 : Type} {K : PySem.W.Frag} {R : GH → α → β → Prop} {R1 : GH → α1 → β1 → Prop} {R2 : GH → α2 → β2 → Prop} {Wx : WX} {σ : St} {H : Hp} {Q : β → Hp → Prop}
theorem lft.un {f : Env → W → Res α1} {k : Env → α1 → W → Res α} (h : lft K R (fun ρ w => (f ρ w).bind (k ρ)) Wx σ H Q) :
    lft K R1 f Wx σ H fun x H1 => ∃ d ρ S w, Sub K S H1 w ∧ EOk S H1 ρ σ ∧ R1 S d x ∧ post K R S H1 (k ρ d w) Q fun c H' => Wx (.ref (excA K c)) none σ H' := by
  obtain ⟨ρ, w, S, sb, eo, p⟩ := h
  refine ⟨ρ, w, S, sb, eo, (post.bind (R1 := R1) p).imp fun x H1 ⟨d, w1, S1, sb1, n1, r1, p1⟩ => ⟨d, ρ, S1, w1, sb1, eo.mono n1, r1, p1⟩⟩
theorem lft.bin {f : Env → W → Res α1} {g : Env → W → Res α2} {k : Env → α1 → α2 → W → Res α} (m : MonoR R1) (h : lft K R (fun ρ w => (f ρ w).bind fun x w1 => (g ρ w1).bind fun y w2 => k ρ x y w2) Wx σ H Q) :
    lft K R1 f Wx σ H fun x H1 => lft K R2 g Wx σ H1 fun y H2 => ∃ d e ρ S w, Sub K S H2 w ∧ EOk S H2 ρ σ ∧ R1 S d x ∧ R2 S e y ∧ post K R S H2 (k ρ d e w) Q fun c H' => Wx (.ref (excA K c)) none σ H' := by
  obtain ⟨ρ, w, S, sb, eo, p⟩ := h
  refine ⟨ρ, w, S, sb, eo, (post.bind (R1 := R1) p).imp fun x H1 ⟨d, w1, S1, sb1, n1, r1, p1⟩ => ?_⟩
  refine ⟨ρ, w1, S1, sb1, eo.mono n1, (post.bind (R1 := R2) p1).imp fun y H2 ⟨e, w2, S2, sb2, n2, r2, p2⟩ => ⟨d, e, ρ, S2, w2, sb2, (eo.mono n1).mono n2, m _ _ _ _ n2.s r1, r2, p2⟩⟩
theorem lft.here {f : Env → W → Res α} {ρ : Env} {w : W} {S : GH} (sb : Sub K S H w) (eo : EOk S H ρ σ) (p : post K R S H (f ρ w) Q fun c H' => Wx (.ref (excA K c)) none σ H') : lft K R f Wx σ H Q := ⟨ρ, w, S, sb, eo, p⟩
end
section
variable {K : PySem.W.Frag} {Wx : WX} {X : Cx} {e : Expr}
theorem toB_some {d : D} {b : Bool} (h : toB d = some b) : d = .bl b := by
  unfold toB at h
  split at h
  · cases h; rfl
  · cases h
/-- a test from a value -/
theorem testOf {f : Env → W → Res D} (h : PE X e (lft K RD f Wx)) (he : ∀ whole, isTrue e X.env whole = (do let v ← whole; standAt e.pos; holding [v] (truthy v)) := by intro _; rfl) :
    PT X e (lft K RB (fun ρ w => tst (f ρ w)) Wx) := by
  refine weakT (pt_val h he) fun σ H Q q => ?_
  have q' : lft K RB (fun ρ w => (f ρ w).bind fun d w => lif (toB d) w) Wx σ H Q := q
  obtain ⟨ρ, w, S, sb, eo, p⟩ := q'
  refine ⟨ρ, w, S, sb, eo, (post.bind (R1 := RD) p).imp fun x H1 ⟨d, w1, S1, sb1, n1, r1, p1⟩ => ?_⟩
  obtain ⟨b, hb, k⟩ := p1.lif
  cases toB_some hb
  cases (show Rp S1 _ x from r1)
  exact ⟨b, rfl, k _ _ _ (Nxt.refl _ _) sb1 rfl⟩
/-- a comparison's test from its value's rule -/
theorem r2_read {op : D → D → Option D} {f g : Env → W → Res D} {σ : St} {H : Hp} {Q : VK} (h : lft K RD (fun ρ w => (f ρ w).bind fun x w1 => (g ρ w1).bind fun y w2 => lif (op x y) w2) Wx σ H Q) :
    lft K RD f Wx σ H fun x H1 => lft K RD g Wx σ H1 fun y H2 => r2 K op x y H2 Q := by
  obtain ⟨ρ, w, S, sb, eo, p⟩ := lft.bin (R1 := RD) (R2 := RD) monoD h
  refine ⟨ρ, w, S, sb, eo, p.imp fun x H1 ⟨ρ, w, S, sb, eo, p⟩ => ⟨ρ, w, S, sb, eo, p.imp fun y H2 ⟨d, e, ρ, S, w, sb, eo, r1, r2, p⟩ => ?_⟩⟩
  obtain ⟨c, hc, k⟩ := p.lif
  exact ⟨d, e, S, w, c, sb, r1, r2, hc, k⟩
theorem r2_readT {op : D → D → Option D} {f g : Env → W → Res D} {σ : St} {H : Hp} {Q : Bool → Hp → Prop} (h : lft K RB (fun ρ w => tst ((f ρ w).bind fun x w1 => (g ρ w1).bind fun y w2 => lif (op x y) w2)) Wx σ H Q) :
    lft K RD f Wx σ H fun x H1 => lft K RD g Wx σ H1 fun y H2 => r2 K op x y H2 fun z H3 => ∃ k, z = .bl k ∧ Q k H3 := by
  refine r2_read ?_
  have q' : lft K RB (fun ρ w => ((f ρ w).bind fun x w1 => (g ρ w1).bind fun y w2 => lif (op x y) w2).bind fun d w => lif (toB d) w) Wx σ H Q := h
  obtain ⟨ρ, w, S, sb, eo, p⟩ := q'
  refine ⟨ρ, w, S, sb, eo, (post.bind (R1 := RD) p).imp fun x H1 ⟨d, w1, S1, sb1, n1, r1, p1⟩ => ?_⟩
  obtain ⟨b, hb, k⟩ := p1.lif
  cases toB_some hb
  cases (show Rp S1 _ x from r1)
  exact ⟨b, rfl, k _ _ _ (Nxt.refl _ _) sb1 rfl⟩
end

/-! ### stars, sets, slices are not in the syntax -/
section
variable {Fn : Type} {Γ : Sig Fn} {N : List Str} {sc : Scope}
theorem chk_star {m : ME Fn} {e : Expr} {p : Pos} : chkE Γ N sc m (.Starred e p) = false := by cases m <;> rfl
theorem chk_set {m : ME Fn} {es : List Expr} {k : Nat} {p : Pos} : chkE Γ N sc m (.Set es k p) = false := by cases m <;> rfl
theorem chk_slice {m : ME Fn} {a b c : Option Expr} {p : Pos} : chkE Γ N sc m (.Slice a b c p) = false := by cases m <;> rfl
theorem star_cons {m : ME Fn} {e : Expr} (h : chkE Γ N sc m e = true) (es : List Expr) (env : PySem.Env) : starEach (e :: es) env = (false, eval e env) :: starEach es env := by
  cases e with
  | Starred e p => rw [chk_star] at h; cases h
  | _ => rfl
theorem star_none {pos : Pos} {env : PySem.Env} : ∀ {ms : MEs Fn} {es : List Expr}, chkEs Γ N sc ms es = true → (backTo pos (starEach es env)).any (·.1) = false
  | .nil, [], _ => rfl
  | .nil, _ :: _, h => by simp [chkEs] at h
  | .cons _ _, [], h => by simp [chkEs] at h
  | .cons m ms, e :: es, h => by
    unfold chkEs at h
    simp only [Bool.and_eq_true] at h
    rw [star_cons h.1]
    have ih := star_none (pos := pos) (env := env) h.2
    unfold backTo at ih ⊢
    rw [List.map_cons, List.any_cons, ih]
    rfl
theorem mark_of {m : ME Fn} {e : Expr} (h : chkE Γ N sc m e = true) (op : CmpOp) : behindInMarks op e = false := by
  cases e with
  | Set es k p => rw [chk_set] at h; cases h
  | _ => rfl
theorem plain_of {m : ME Fn} {e : Expr} (h : chkE Γ N sc m e = true) : PlainIx e := by
  cases e with
  | Slice a b c p => rw [chk_slice] at h; cases h
  | _ => exact fun _ _ => rfl
theorem fold_of {m : ME Fn} {e : Expr} (h : chkE Γ N sc m e = true) (env : PySem.Env) : ∀ x, foldedSetIterable e env x = pure x := by
  cases e with
  | Set es k p => rw [chk_set] at h; cases h
  | _ => intro x; rfl
theorem noSup_of {o : Expr} (h : noSup o = true) {a : Str} {env : PySem.Env} {m : Sem Value} : attributeBase o a env m = m := by
  unfold attributeBase
  split
  · cases h
  · rfl
theorem bt {a b : Bool} (h : (a && b) = true) : a = true ∧ b = true := Bool.and_eq_true_iff.mp h
theorem vis_of {x : Str} (h : visB sc x = true) : Vis sc x := by
  unfold visB at h
  split at h
  · exact .inl (by assumption)
  · exact .inr (.inl (by assumption))
  · exact .inr (.inr (by assumption))
  · cases h
theorem okN_of {x : Str} (h : okN x = true) : (x == ("__debug__" : Str)) = false ∧ (x == ("__classdict__" : Str)) = false := by
  unfold okN at h
  obtain ⟨h1, h2⟩ := bt h
  exact ⟨by simpa using h1, by simpa using h2⟩
theorem blt_of {x y : Str} (h : blt Γ sc x y = true) : x = y ∧ sc.names.lookup y = some .globalImplicit ∧ y ∈ Γ.frees := by
  unfold blt glB at h
  simp only [Bool.and_eq_true, decide_eq_true_eq] at h
  exact ⟨h.1.1, h.1.2, h.2⟩
theorem chkNs_len {sto : Str → Bool} : ∀ {is : List Nat} {es : List Expr}, chkNs N sto is es = true → es.length = is.length
  | [], [], _ => rfl
  | [], _ :: _, h => by simp [chkNs] at h
  | _ :: _, [], h => by simp [chkNs] at h
  | i :: is, e :: es, h => by
    cases e with
    | Name x p =>
      unfold chkNs at h
      rw [List.length_cons, List.length_cons, chkNs_len (bt h).2]
    | _ => simp [chkNs] at h
end
section
variable {X : Cx} {sto : Str → Bool}
theorem pgs_of (nd : X.N.Nodup) (hs : ∀ x, sto x = true → Loc X.env.scope x ∧ (X.fn x = true ∨ X.env.scope.names.lookup x = some .local)) : ∀ {is : List Nat} {es : List Expr}, chkNs X.N sto is es = true →
    PGs X es (gIs is) ∧ (assignEach es X.env).length = is.length ∧ (assignEach es X.env).findIdx? (·.1) = none
  | [], [], _ => ⟨pgs_nil, rfl, rfl⟩
  | [], _ :: _, h => by simp [chkNs] at h
  | _ :: _, [], h => by simp [chkNs] at h
  | i :: is, e :: es, h => by
    cases e with
    | Name x p =>
      unfold chkNs at h
      obtain ⟨h1, h2⟩ := bt h
      obtain ⟨h3, h4⟩ := bt h1
      obtain ⟨a, b, c⟩ := pgs_of nd hs h2
      obtain ⟨l, f⟩ := hs x h4
      refine ⟨pgs_cons (pg_name nd (of_decide_eq_true h3) l f) a rfl, ?_, ?_⟩
      · show ((false, assign (.Name x p) X.env) :: assignEach es X.env).length = _
        rw [List.length_cons, List.length_cons, b]
      · show ((false, assign (.Name x p) X.env) :: assignEach es X.env).findIdx? (·.1) = none
        rw [List.findIdx?_cons, c]
        rfl
    | _ => simp [chkNs] at h
theorem pg_of (hc : X.calm = true) (nd : X.N.Nodup) (hs : ∀ x, sto x = true → Loc X.env.scope x ∧ (X.fn x = true ∨ X.env.scope.names.lookup x = some .local)) {t : MT} {e : Expr} (h : chkT X.N sto t e = true) : PG X e (gT X.K t) := by
  unfold chkT at h
  split at h
  · obtain ⟨h1, h2⟩ := bt h
    obtain ⟨l, f⟩ := hs _ h2
    exact pg_name nd (of_decide_eq_true h1) l f
  · obtain ⟨a, b, c⟩ := pgs_of nd hs h
    exact pg_tup hc a b c
  · cases h
theorem sto_blk {scope : Scope} {s : Shared} {H : Hp} {C : Addr} {cl : List (Str × Addr)} {fp : List Addr} (x : Str) (h : stoB scope x = true) :
    Loc (X.blk s H scope (compEnvC scope cl C X.env) fp).env.scope x ∧ ((X.blk s H scope (compEnvC scope cl C X.env) fp).fn x = true ∨ (X.blk s H scope (compEnvC scope cl C X.env) fp).env.scope.names.lookup x = some .local) := by
  unfold stoB at h
  split at h
  · rename_i e
    have z : (X.blk s H scope (compEnvC scope cl C X.env) fp).env.scope.names.lookup x = some .local := lookup_relS_keep (sc := X.env.scope) (by decide) e
    exact ⟨.inl z, .inr z⟩
  · rename_i e
    have z : (X.blk s H scope (compEnvC scope cl C X.env) fp).env.scope.names.lookup x = some .cell := lookup_relS_keep (sc := X.env.scope) (by decide) e
    refine ⟨.inr z, .inl ?_⟩
    show (scope.names.lookup x == some .cell) = true
    rw [e]
    rfl
  · cases h
end
end Ev

end

section
/-! EvH: every expression that is checked reads as the evaluator says. -/
namespace Ev
open PySem PySem.Spec PyProof.Rows L2

theorem boot_b : ∀ b : BF, bootBuiltins (bNm b) = some (bFn b) := by
  intro b
  cases b <;> decide +kernel
section
variable {Fn : Type} {Γ : Sig Fn} {φ : Fn → List D → W → Res D}
section
variable {X : Cx} {Wx : WX} {sc : Scope} (g : XG Γ φ X Wx sc)
include g
theorem XG.vis {x : Str} (h : visB sc x = true) : Vis X.env.scope x := by rw [g.sc]; exact vis_of h
theorem XG.gl {x : Str} (h : sc.names.lookup x = some .globalImplicit) : Gl X x := by
  show X.env.scope.names.lookup x = _
  rw [g.sc]; exact h
end

theorem bind_ok0 {α β : Type} {r : Res α} {f : α → W → Res β} {b : β} {w : W} (h : r.bind f = .ok b w) : ∃ a w1, r = .ok a w1 ∧ f a w1 = .ok b w := by
  cases r with
  | ok a w1 => exact ⟨a, w1, rfl, h⟩
  | exc c w1 => cases h
  | stk => cases h
/-! ### a call without arguments -/
section
variable {X : Cx} {CX : CXT} {k : Nat} {f : Addr} {fd : FuncData} {sp : Sp} {E : St → XK} {x : Str} {p pos : Pos}
def tCall0 (sp : Sp) (E : St → XK) : TE := fun σ H Q => sp [] H Q (E σ)
theorem pe_callS0 (F : FnOk X.prog X.w X.K X.mg X.base CX k f fd [] sp) (hr : Room k X.A) (hg : Gl X x) (hm : X.mg x = some (.ref f)) (hk : PySem.W.keepIn X.K (.ref f) = true) (hb : Binds X.K fd [] []) (hx : ∀ σ, PassesAt CX X σ (E σ))
    (hdb : (x == ("__debug__" : Str)) = false := by decide) : PE X (.Call (.Name x p) [] [] pos) (tCall0 sp E) := by
  refine ⟨fun pins s σ H Q I h => ?_⟩
  refine wpAny_Call_Name_kw (ld_glob I hg hm ?_ hdb)
  exact PySem.W.callWith_K0 I.kIn hk (run_fnS (us := []) F hr hb (hx σ) I .nil h)
end
/-! ### the parts of an f-string -/
def tTxt (tf : TE) : TE := fun σ H Q => tf σ H fun x H1 => ∃ y : Str, x = .str y ∧ Q (.str y) H1
def PJs (X : Cx) (Wx : WX) (φ : Fn → List D → W → Res D) (es : MEs Fn) (ys : List Expr) : Prop := ∃ ts, PJ X ys ts ∧ ∀ (acc : Str) σ H (Q : Str → Hp → Prop), acc.length + 1000 * ys.length ≤ 200000 → lft X.K RDs (fun ρ => evEs φ ρ es) Wx σ H (fun xs H1 => ∃ l out, xs = l.map V.str ∧ catL acc l = some out ∧ Q out H1) → tJs ts acc σ H Q
theorem joinV_some {a : Str} {y c : D} (h : joinV (.p (.str a)) y = some c) : ∃ xs ys, y = .lst xs ∧ strsOf xs = some ys ∧ (ys.map (·.length)).sum + ys.length * a.length ≤ 16777216 ∧ c = .str (Txt.join a ys) := by
  cases y with
  | p d =>
    cases d with
    | list xs =>
      obtain ⟨l, hl, hc⟩ := Option.bind_eq_some_iff.mp h
      split at hc
      · rename_i hz
        exact ⟨xs, l, rfl, hl, hz, (Option.some.inj hc).symm⟩
      · cases hc
    | _ => cases h
  | _ => cases h
theorem splitV_some {a : Str} {y c : D} (h : splitV (.p (.str a)) y = some c) : ∃ b, y = .str b ∧ ((b.length == 0) = false ∧ a.length + 2 ≤ sizeLine) ∧ c = .lst ((Txt.split a b).map PyData.str) := by
  cases y with
  | p d =>
    cases d with
    | str b =>
      have h : (if (b.length == 0) = false ∧ a.length + 2 ≤ sizeLine then some (D.lst ((Txt.split a b).map PyData.str)) else none) = some c := h
      split at h
      · rename_i hz
        exact ⟨b, rfl, hz, (Option.some.inj h).symm⟩
      · cases h
    | _ => cases h
  | _ => cases h
/-- what a part is -/
theorem part_str {φ : Fn → List D → W → Res D} {ρ : Env} {m : ME Fn} {ms : MEs Fn} (h : fsB (.cons m ms) = true) {w w' : W} {d : D} (e : evE φ ρ m w = .ok d w') : fsB ms = true ∧ ∃ y : Str, d = .str y ∧ y.length ≤ 1000 := by
  cases m with
  | fmt a =>
    unfold fsB at h
    refine ⟨h, ?_⟩
    unfold evE at e
    obtain ⟨x, w1, e1, e2⟩ := bind_ok0 e
    unfold lif at e2
    split at e2
    · rename_i z hz
      cases e2
      unfold fmtV at hz
      split at hz
      · split at hz
        · rename_i hy
          cases hz
          exact ⟨_, rfl, hy⟩
        · cases hz
      · split at hz
        · rename_i hy
          cases hz
          exact ⟨_, rfl, hy.2⟩
        · cases hz
      · cases hz
    · cases e2
  | str x =>
    unfold fsB at h
    obtain ⟨h1, h2⟩ := bt h
    refine ⟨h2, ?_⟩
    unfold evE at e
    cases e
    exact ⟨_, rfl, of_decide_eq_true h1⟩
  | _ => unfold fsB at h; cases h
/-! ### isinstance of an own exception -/
def rIsX (K : PySem.W.Frag) : List V → Hp → VK → Prop := fun xs H Q => ∃ a C c cv b, xs = [.ref a, c] ∧ H a = some (ExX C a) ∧ ExcC K C ∧ (∀ u, RelV c u → u = cv) ∧ PySem.W.kitOne K (.ref C) cv = some b ∧ Q (.bl b) H
theorem call_isX {X : Cx} : CallR X (.builtin "isinstance") (rIsX X.K) := by
  intro pins s σ H xs us Q I r h
  obtain ⟨a, C, c, cv, b, rfl, hA, hC, hcv, e, q⟩ := h
  cases r with
  | cons rx rr =>
    cases rr with
    | cons rt rr =>
      cases rr
      cases rx
      have ec := hcv _ rt
      subst ec
      obtain ⟨⟨oe, vs, hget, hz, hv⟩, _⟩ := I.hok a _ hA
      have J : PySem.W.InstAt s.heap a oe C none := by
        obtain ⟨oc, od, oda, osl⟩ := oe
        obtain ⟨h1, h2⟩ := hz
        dsimp only at h1 h2 hv
        subst h1 h2 hv
        exact ⟨hget, rfl, rfl, trivial⟩
      exact PySem.W.kia_one (PySem.W.handS_kitx_exc hC.hg hC.hk hC.hs hC.hd hC.ha hC.hn hC.ht hC.hm) I.kIn J e (fun z => nomatch z) fun tk => ⟨.bl b, H, I.kept (t' := tk) fun _ _ z => z, rfl, q⟩


def tStr : TyN → String
  | .int => "int"
  | .bool => "bool"
  | .tuple => "tuple"
  | .list => "list"
  | .str => "str"
  | .verr => "ValueError"
  | .cls _ => ""
def dStr : PyData → String
  | .none => "NoneType"
  | .bool _ => "bool"
  | .int _ => "int"
  | .str _ => "str"
  | .list _ => "list"
  | .tuple _ => "tuple"
  | .dict _ => "dict"
theorem kit_tab {d : PyData} {t : TyN} {b : Bool} (h : isiV (.p d) t = some b) : kitB (dStr d) (tStr t) = some b := by
  cases d <;> cases t <;> first
    | (cases h; dsimp only [dStr, tStr]; decide +kernel)
    | (cases h; done)
theorem tyx_of {K : PySem.W.Frag} {S : GH} {H : Hp} {w : W} {d : PyData} {x : V} (sb : Sub K S H w) (r : Rp S d x) : TyX K H x (.type (dStr d)) := by
  cases r with
  | non => exact .base .non
  | bl c => exact .base (.bl c)
  | int c => exact .base (.int c)
  | str c => exact .base (.str c)
  | lst h1 q => exact .base (.lst (sb.lst h1))
  | tup h1 q => exact .base (.tup (sb.tup h1))
theorem tNm_str (t : TyN) (h : ∀ c, t ≠ .cls c) : bootBuiltins (tNm t) = some (.type (tStr t)) := by
  cases t with
  | cls c => exact absurd rfl (h c)
  | _ => decide +kernel
theorem isi_ok {X : Cx} {Wx : WX} {sc : Scope} (g : XG Γ φ X Wx sc) {m : ME Fn} {y z : Expr} {f : Env → W → Res D} {t : TyN} {p pos : Pos} (hy : PE X y (lft X.K RD f Wx)) (cy : chkE Γ X.N sc m y = true) (ct : chkTy Γ sc t z = true)
    (hb : blt Γ sc "isinstance" "isinstance" = true) : PE X (.Call (.Name "isinstance" p) [y, z] [] pos) (lft X.K RD (fun ρ w => (f ρ w).bind fun x w1 => lif ((isiV x t).map D.bl) w1) Wx) := by
  obtain ⟨_, hg, hf⟩ := blt_of hb
  have key : ∀ {v : V} {xx : Str} {pp : Pos}, z = .Name xx pp → PE X z (tC v) →
      (∀ d S H w b x (Q : VK), Sub X.K S H w → RD S d x → isiV d t = some b → Q (.bl b) H → rIsi X.K [x, v] H Q ∨ rIsX X.K [x, v] H Q) →
      PE X (.Call (.Name "isinstance" p) [y, z] [] pos) (lft X.K RD (fun ρ w => (f ρ w).bind fun x w1 => lif ((isiV x t).map D.bl) w1) Wx) := by
    intro v xx pp hz pz k
    subst hz
    refine weakE (pe_callB (CallR.or call_isi call_isX) (g.gl hg) (g.frees _ hf) boot_isinstance (pa_cons hy (pa_cons pz pa_nil rfl) (star_cons cy _ _)) (he := star_cons cy _ _)) fun σ H Q q => ?_
    obtain ⟨ρ, w, S, sb, eo, q⟩ := lft.un (R1 := RD) q
    refine ⟨ρ, w, S, sb, eo, q.imp fun x H1 ⟨d, ρ, S, w, sb, eo, r, q⟩ => ?_⟩
    obtain ⟨c, hc, q⟩ := q.lif
    obtain ⟨b, hb, rfl⟩ := Option.map_eq_some_iff.mp hc
    exact k d S H1 w b x Q sb r hb (q _ _ _ (Nxt.refl _ _) sb (.bl b))
  have plain : (∀ c, t ≠ .cls c) → ∀ {xx : Str} {pp : Pos}, z = .Name xx pp → blt Γ sc xx (tNm t) = true → (t = .verr → Γ.hasE = true) →
      PE X (.Call (.Name "isinstance" p) [y, z] [] pos) (lft X.K RD (fun ρ w => (f ρ w).bind fun x w1 => lif ((isiV x t).map D.bl) w1) Wx) := by
    intro nc xx pp hz hb2 hE
    obtain ⟨e1, hg2, hf2⟩ := blt_of hb2
    subst e1
    refine key (v := .ty (tStr t)) hz (by rw [hz]; exact pe_bltn (g.gl hg2) (g.frees _ hf2) (tNm_str t nc) rfl (by cases t <;> first | decide | exact absurd rfl (nc _)) (by cases t <;> first | decide | exact absurd rfl (nc _))) fun d S H w b x Q sb r hi q => ?_
    cases d with
    | p d => exact .inl ⟨_, _, _, _, b, rfl, .ty _, tyx_of sb r, kit_ty (kit_tab hi), q⟩
    | exc c =>
      cases t with
      | verr =>
        obtain ⟨a, rfl, ha⟩ := r
        have hi' : (if c ≤ 6 then some true else none) = some b := hi
        split at hi'
        · rename_i hc
          cases hi'
          have ga := sb.ok a _ ha
          exact .inr ⟨a, _, _, _, true, rfl, ga, (g.exf (hE rfl)).exc c hc, fun u h => h, (g.exf (hE rfl)).verr c hc, q⟩
        · cases hi'
      | cls k => exact absurd rfl (nc k)
      | _ => cases hi
    | drw => cases t <;> cases hi
    | stp => cases t <;> cases hi
    | scr a => cases t <;> cases hi
  unfold chkTy at ct
  split at ct
  · rename_i c xx pp
    simp only [Bool.and_eq_true, decide_eq_true_eq] at ct
    obtain ⟨⟨⟨⟨⟨e1, hg2⟩, hn⟩, hE⟩, hc⟩, h7⟩ := ct
    unfold glB at hg2
    subst e1
    have mg := g.gexc c hc
    refine key (v := .ref (excA X.K c)) rfl (pe_glob (g.gl (of_decide_eq_true hg2)) mg rfl (okN_of hn).1) fun d S H w b x Q sb r hi q => ?_
    cases d with
    | p d => cases d <;> cases hi
    | exc k =>
      obtain ⟨a, rfl, ha⟩ := r
      unfold isiV at hi
      simp only at hi
      split at hi
      · rename_i hk
        cases hi
        exact .inr ⟨a, _, _, _, _, rfl, sb.ok a _ ha, (g.exf hE).exc k hk, fun u h => h, (g.exf hE).cls k c hk h7, q⟩
      · cases hi
    | drw => cases hi
    | stp => cases hi
    | scr a => cases hi
  · obtain ⟨h1, h2⟩ := bt ct
    exact plain (fun c z => by cases z) rfl h1 fun _ => h2
  · rename_i n1 n2
    exact plain (fun c z => n1 _ z) rfl ct fun z => absurd z n2
  · cases ct

/-! ### the theorem -/
/-- of a test's chain -/
def wOk (m : ME Fn) (X : Cx) (e : Expr) (t : TT) : Prop := match m with
  | .and _ _ => PW X e t
  | .or _ _ => PW X e t
  | .and1 _ => PW X e t
  | .or1 _ => PW X e t
  | _ => True
structure EX (φ : Fn → List D → W → Res D) (X : Cx) (Wx : WX) (m : ME Fn) (e : Expr) : Prop where
  v : PE X e (lft X.K RD (fun ρ => evE φ ρ m) Wx)
  t : PT X e (lft X.K RB (fun ρ w => tst (evE φ ρ m w)) Wx)
  w : wOk m X e (lft X.K RB (fun ρ w => tst (evE φ ρ m w)) Wx)
theorem EX.of {X : Cx} {Wx : WX} {m : ME Fn} {e : Expr} (h : PE X e (lft X.K RD (fun ρ => evE φ ρ m) Wx)) (hw : ∀ t, wOk m X e t := by intro _; trivial)
    (he : ∀ whole, isTrue e X.env whole = (do let v ← whole; standAt e.pos; holding [v] (truthy v)) := by intro _; rfl) : EX φ X Wx m e := ⟨h, testOf h he, hw _⟩
theorem bind_assoc {α β γ : Type} (r : Res α) (f : α → W → Res β) (k : β → W → Res γ) : (r.bind f).bind k = r.bind fun x w => (f x w).bind k := by cases r <;> rfl
theorem tst_bind {α : Type} (r : Res α) (f : α → W → Res D) : tst (r.bind f) = r.bind fun x w => tst (f x w) := by cases r <;> rfl
theorem tst_ok (b : Bool) (w : W) : tst (.ok (.bl b) w) = .ok b w := rfl
theorem ite_read {X : Cx} {Wx : WX} {σ : St} {H : Hp} {Q : VK} {c a b : Env → W → Res D} (h : lft X.K RD (fun ρ w => (tst (c ρ w)).bind fun t w1 => match t with
      | true => a ρ w1
      | false => b ρ w1) Wx σ H Q) : tIf (lft X.K RB (fun ρ w => tst (c ρ w)) Wx) (lft X.K RD a Wx) (lft X.K RD b Wx) σ H Q := by
  obtain ⟨ρ, w, S, sb, eo, p⟩ := lft.un (R1 := RB) h
  refine ⟨ρ, w, S, sb, eo, p.imp fun x H1 ⟨d, ρ, S, w, sb, eo, r, p⟩ => ?_⟩
  cases r
  cases x with
  | true => rw [if_pos rfl]; exact ⟨ρ, w, S, sb, eo, p⟩
  | false => rw [if_neg Bool.false_ne_true]; exact ⟨ρ, w, S, sb, eo, p⟩
theorem and_readV {X : Cx} {Wx : WX} {σ : St} {H : Hp} {Q : VK} {a b : Env → W → Res D} (h : lft X.K RD (fun ρ w => (tst (a ρ w)).bind fun t w1 => match t with
      | true => b ρ w1
      | false => .ok (.bl false) w1) Wx σ H Q) : tAndV (lft X.K RD a Wx) (lft X.K RD b Wx) σ H Q := by
  have h' : lft X.K RD (fun ρ w => (a ρ w).bind fun d w1 => (lif (toB d) w1).bind fun t w1 => match t with
      | true => b ρ w1
      | false => .ok (.bl false) w1) Wx σ H Q := by
    obtain ⟨ρ, w, S, sb, eo, p⟩ := h
    refine ⟨ρ, w, S, sb, eo, ?_⟩
    dsimp only at p ⊢
    unfold tst at p
    rw [bind_assoc] at p
    exact p
  obtain ⟨ρ, w, S, sb, eo, p⟩ := lft.un (R1 := RD) h'
  refine ⟨ρ, w, S, sb, eo, p.imp fun x H1 ⟨d, ρ, S, w, sb, eo, r, p⟩ => ?_⟩
  cases hb : toB d with
  | none => rw [hb] at p; exact p.elim
  | some t =>
    rw [hb] at p
    cases toB_some hb
    cases (show Rp S _ x from r)
    refine ⟨t, rfl, ?_⟩
    cases t with
    | true => rw [if_pos rfl]; exact ⟨ρ, w, S, sb, eo, p⟩
    | false => rw [if_neg Bool.false_ne_true]; exact p _ _ _ (Nxt.refl _ _) sb (.bl false)
theorem or_readV {X : Cx} {Wx : WX} {σ : St} {H : Hp} {Q : VK} {a b : Env → W → Res D} (h : lft X.K RD (fun ρ w => (tst (a ρ w)).bind fun t w1 => match t with
      | true => .ok (.bl true) w1
      | false => b ρ w1) Wx σ H Q) : tOrV (lft X.K RD a Wx) (lft X.K RD b Wx) σ H Q := by
  have h' : lft X.K RD (fun ρ w => (a ρ w).bind fun d w1 => (lif (toB d) w1).bind fun t w1 => match t with
      | true => .ok (.bl true) w1
      | false => b ρ w1) Wx σ H Q := by
    obtain ⟨ρ, w, S, sb, eo, p⟩ := h
    refine ⟨ρ, w, S, sb, eo, ?_⟩
    dsimp only at p ⊢
    unfold tst at p
    rw [bind_assoc] at p
    exact p
  obtain ⟨ρ, w, S, sb, eo, p⟩ := lft.un (R1 := RD) h'
  refine ⟨ρ, w, S, sb, eo, p.imp fun x H1 ⟨d, ρ, S, w, sb, eo, r, p⟩ => ?_⟩
  cases hb : toB d with
  | none => rw [hb] at p; exact p.elim
  | some t =>
    rw [hb] at p
    cases toB_some hb
    cases (show Rp S _ x from r)
    refine ⟨t, rfl, ?_⟩
    cases t with
    | true => rw [if_pos rfl]; exact p _ _ _ (Nxt.refl _ _) sb (.bl true)
    | false => rw [if_neg Bool.false_ne_true]; exact ⟨ρ, w, S, sb, eo, p⟩
theorem and_readT {X : Cx} {Wx : WX} {σ : St} {H : Hp} {Q : Bool → Hp → Prop} {a b : Env → W → Res D} (h : lft X.K RB (fun ρ w => tst ((tst (a ρ w)).bind fun t w1 => match t with
      | true => b ρ w1
      | false => .ok (.bl false) w1)) Wx σ H Q) : tAnd (lft X.K RB (fun ρ w => tst (a ρ w)) Wx) (lft X.K RB (fun ρ w => tst (b ρ w)) Wx) σ H Q := by
  obtain ⟨ρ, w, S, sb, eo, p⟩ := h
  dsimp only at p
  rw [tst_bind] at p
  refine ⟨ρ, w, S, sb, eo, (post.bind (R1 := RB) p).imp fun x H1 ⟨d, w1, S1, sb1, n1, r, p⟩ => ?_⟩
  cases r
  cases x with
  | true => rw [if_pos rfl]; exact ⟨ρ, w1, S1, sb1, eo.mono n1, p⟩
  | false => rw [if_neg Bool.false_ne_true]; exact p _ _ _ (Nxt.refl _ _) sb1 rfl
theorem or_readT {X : Cx} {Wx : WX} {σ : St} {H : Hp} {Q : Bool → Hp → Prop} {a b : Env → W → Res D} (h : lft X.K RB (fun ρ w => tst ((tst (a ρ w)).bind fun t w1 => match t with
      | true => .ok (.bl true) w1
      | false => b ρ w1)) Wx σ H Q) : tOr (lft X.K RB (fun ρ w => tst (a ρ w)) Wx) (lft X.K RB (fun ρ w => tst (b ρ w)) Wx) σ H Q := by
  obtain ⟨ρ, w, S, sb, eo, p⟩ := h
  dsimp only at p
  rw [tst_bind] at p
  refine ⟨ρ, w, S, sb, eo, (post.bind (R1 := RB) p).imp fun x H1 ⟨d, w1, S1, sb1, n1, r, p⟩ => ?_⟩
  cases r
  cases x with
  | true => rw [if_pos rfl]; exact p _ _ _ (Nxt.refl _ _) sb1 rfl
  | false => rw [if_neg Bool.false_ne_true]; exact ⟨ρ, w1, S1, sb1, eo.mono n1, p⟩
/-- one stage, then a value -/
theorem un_read {K : PySem.W.Frag} {Wx : WX} {σ : St} {H : Hp} {Q : VK} {f : Env → W → Res D} {o : D → Option D} (h : lft K RD (fun ρ w => (f ρ w).bind fun x w1 => lif (o x) w1) Wx σ H Q) :
    lft K RD f Wx σ H fun x H1 => ∃ d S w c, Sub K S H1 w ∧ RD S d x ∧ o d = some c ∧ Ans K S H1 w c Q := by
  obtain ⟨ρ, w, S, sb, eo, p⟩ := lft.un (R1 := RD) h
  refine ⟨ρ, w, S, sb, eo, p.imp fun x H1 ⟨d, ρ, S, w, sb, eo, r, p⟩ => ?_⟩
  obtain ⟨c, hc, k⟩ := p.lif
  exact ⟨d, S, w, c, sb, r, hc, k⟩

theorem chain_read {K : PySem.W.Frag} {Wx : WX} {op op' : CO} {σ : St} {H : Hp} {Q : VK} {fa fb fc : Env → W → Res D}
    (h : lft K RD (fun ρ w => (fa ρ w).bind fun x w1 => (fb ρ w1).bind fun y w2 => (lif ((cmpV op x y).bind toB) w2).bind fun t w3 =>
      match t with
      | true => (fc ρ w3).bind fun z w4 => lif (cmpV op' y z) w4
      | false => .ok (.bl false) w3) Wx σ H Q) : tChain (r2 K (cmpV op)) (r2 K (cmpV op')) (lft K RD fa Wx) (lft K RD fb Wx) (lft K RD fc Wx) σ H Q := by
  obtain ⟨ρ, w, S, sb, eo, p⟩ := lft.bin (R1 := RD) (R2 := RD) monoD h
  refine ⟨ρ, w, S, sb, eo, p.imp fun x H1 ⟨ρ, w, S, sb, eo, p⟩ => ⟨ρ, w, S, sb, eo, p.imp fun y H2 ⟨d, e, ρ, S, w, sb, eo, r1, r2, p⟩ => ?_⟩⟩
  cases hc : (cmpV op d e).bind toB with
  | none => rw [hc] at p; exact p.elim
  | some t =>
    obtain ⟨c, hc1, hc2⟩ := Option.bind_eq_some_iff.mp hc
    cases toB_some hc2
    refine ⟨d, e, S, w, _, sb, r1, r2, hc1, fun S3 H3 v n3 sb3 r3 => ?_⟩
    cases (show Rp S3 _ v from r3)
    refine ⟨t, rfl, ?_⟩
    rw [hc] at p
    cases t with
    | true =>
      rw [if_pos rfl]
      have p : post K RD S H2 ((fc ρ w).bind fun z w4 => lif (cmpV op' e z) w4) Q fun c H' => Wx (.ref (excA K c)) none σ H' := p
      refine ⟨ρ, w, S3, sb3, eo.mono n3, (post.bind (R1 := RD) (p.mono n3)).imp fun z H4 ⟨f, w4, S4, sb4, n4, r4, p4⟩ => ?_⟩
      obtain ⟨u, hu, k⟩ := p4.lif
      exact ⟨e, f, S4, w4, u, sb4, (r2.mono n3.s).mono n4.s, r4, hu, k⟩
    | false =>
      rw [if_neg Bool.false_ne_true]
      have p : ∀ S' H' v, Nxt S H2 S' H' → Sub K S' H' w → RD S' (.bl false) v → Q v H' := p
      exact p S3 H3 _ n3 sb3 (.bl false)
theorem chain_readT {K : PySem.W.Frag} {Wx : WX} {op op' : CO} {σ : St} {H : Hp} {Q : Bool → Hp → Prop} {fa fb fc : Env → W → Res D}
    (h : lft K RB (fun ρ w => tst ((fa ρ w).bind fun x w1 => (fb ρ w1).bind fun y w2 => (lif ((cmpV op x y).bind toB) w2).bind fun t w3 =>
      match t with
      | true => (fc ρ w3).bind fun z w4 => lif (cmpV op' y z) w4
      | false => .ok (.bl false) w3)) Wx σ H Q) : tTest (tChain (r2 K (cmpV op)) (r2 K (cmpV op')) (lft K RD fa Wx) (lft K RD fb Wx) (lft K RD fc Wx)) σ H Q := by
  refine chain_read ?_
  obtain ⟨ρ, w, S, sb, eo, p⟩ := h
  refine ⟨ρ, w, S, sb, eo, (post.bind (R1 := RD) p).imp fun x H1 ⟨d, w1, S1, sb1, n1, r1, p1⟩ => ?_⟩
  obtain ⟨b, hb, k⟩ := p1.lif
  cases toB_some hb
  cases (show Rp S1 _ x from r1)
  exact ⟨b, rfl, k _ _ _ (Nxt.refl _ _) sb1 rfl⟩
theorem plainR_some {r : Res D} {o : Option PyData} {w : W} (h : plainR r = .ok o w) : ∃ d, o = some d ∧ r = .ok (.p d) w := by
  unfold plainR at h
  split at h
  · cases h; exact ⟨_, rfl, rfl⟩
  · cases h
theorem lft.impE {α β : Type} {K : PySem.W.Frag} {R : GH → α → β → Prop} {Wx : WX} {f : Env → W → Res α} {σ : St} {H : Hp} {Q Q' : β → Hp → Prop} (h : ∀ b H1, Q b H1 → Q' b H1) (q : lft K R f Wx σ H Q) : lft K R f Wx σ H Q' := by
  obtain ⟨ρ, w, S, sb, eo, p⟩ := q
  exact ⟨ρ, w, S, sb, eo, p.imp h⟩

theorem post.bindE {α β γ δ : Type} {K : PySem.W.Frag} {R : GH → α → β → Prop} {R1 : GH → γ → δ → Prop} {S : GH} {H : Hp} {Q : β → Hp → Prop} {E : Nat → Hp → Prop} {r : Res γ} {f : γ → W → Res α} (p : post K R S H (r.bind f) Q E) :
    post K R1 S H r (fun x H1 => ∃ d w1 S1, r = .ok d w1 ∧ Sub K S1 H1 w1 ∧ Nxt S H S1 H1 ∧ R1 S1 d x ∧ post K R S1 H1 (f d w1) Q E) E := by
  cases r with
  | ok d w => exact fun S' H' v n s q => ⟨d, w, S', rfl, s, n, q, p.mono n⟩
  | exc c w => exact p
  | stk => exact p
theorem bind_ok {α β : Type} {r : Res α} {f : α → W → Res β} {b : β} {w : W} (h : r.bind f = .ok b w) : ∃ a w1, r = .ok a w1 ∧ f a w1 = .ok b w := by
  cases r with
  | ok a w1 => exact ⟨a, w1, rfl, h⟩
  | exc c w1 => cases h
  | stk => cases h
theorem evEs_len {N : List Str} {sc : Scope} {ρ : Env} : ∀ {es : MEs Fn} {ys : List Expr} {w : W} {ds : List D} {w' : W}, chkEs Γ N sc es ys = true → evEs φ ρ es w = .ok ds w' → ds.length = ys.length
  | .nil, [], _, _, _, _, h => by unfold evEs at h; cases h; rfl
  | .nil, _ :: _, _, _, _, h, _ => by simp [chkEs] at h
  | .cons _ _, [], _, _, _, h, _ => by simp [chkEs] at h
  | .cons e es, y :: ys, w, ds, w', h, h2 => by
    unfold chkEs at h
    unfold evEs at h2
    obtain ⟨x, w1, _, h3⟩ := bind_ok h2
    obtain ⟨xs, w2, h4, h5⟩ := bind_ok h3
    cases h5
    rw [List.length_cons, List.length_cons, evEs_len (bt h).2 h4]
theorem small_line {n : Nat} (h : n ≤ 1000) : n ≤ sizeLine := Nat.le_trans h (by rw [sizeLine_eq]; decide)
section
variable {X : Cx}
def tIfT (t ta tb : TT) : TT := fun σ H Q => t σ H fun c H1 => if c = true then ta σ H1 Q else tb σ H1 Q
theorem pt_ifExp {c a b : Expr} {pos : Pos} {tc ta tb : TT} (hc : PT X c tc) (ha : PT X a ta) (hb : PT X b tb) : PT X (.IfExp c a b pos) (tIfT tc ta tb) := by
  refine ⟨fun pins s σ H Q I h => ?_⟩
  show wpAny _ _ (isTrue c X.env (eval c X.env) >>= fun t => if t = true then isTrue a X.env (eval a X.env) else isTrue b X.env (eval b X.env)) _ _ _
  refine wpAny_bind (thn (hc.run pins s σ H _ I h) fun d s1 ⟨H1, I1, q1⟩ => ?_)
  cases d with
  | true => rw [if_pos rfl]; exact ha.run pins s1 σ H1 Q I1 q1
  | false => rw [if_neg Bool.false_ne_true]; exact hb.run pins s1 σ H1 Q I1 q1
end
theorem ite_readT {K : PySem.W.Frag} {Wx : WX} {σ : St} {H : Hp} {Q : Bool → Hp → Prop} {c a b : Env → W → Res D} (h : lft K RB (fun ρ w => tst ((tst (c ρ w)).bind fun t w1 => match t with
      | true => a ρ w1
      | false => b ρ w1)) Wx σ H Q) : tIfT (lft K RB (fun ρ w => tst (c ρ w)) Wx) (lft K RB (fun ρ w => tst (a ρ w)) Wx) (lft K RB (fun ρ w => tst (b ρ w)) Wx) σ H Q := by
  obtain ⟨ρ, w, S, sb, eo, p⟩ := h
  dsimp only at p
  rw [tst_bind] at p
  refine ⟨ρ, w, S, sb, eo, (post.bind (R1 := RB) p).imp fun x H1 ⟨d, w1, S1, sb1, n1, r, p⟩ => ?_⟩
  cases r
  cases x with
  | true => rw [if_pos rfl]; exact ⟨ρ, w1, S1, sb1, eo.mono n1, p⟩
  | false => rw [if_neg Bool.false_ne_true]; exact ⟨ρ, w1, S1, sb1, eo.mono n1, p⟩
theorem bcall_ok {X : Cx} {Wx : WX} {sc : Scope} (g : XG Γ φ X Wx sc) {b : BF} {y : Expr} {ys : List Expr} {p pos : Pos} {f : Env → W → Res (List D)} (ha : PA X (y :: ys) (lft X.K RDs f Wx)) (hb : blt Γ sc (bNm b) (bNm b) = true)
    (he : starEach (y :: ys) X.env = (false, eval y X.env) :: starEach ys X.env) (hpl : (backTo pos (starEach ys X.env)).any (·.1) = false) :
    PE X (.Call (.Name (bNm b) p) (y :: ys) [] pos) (lft X.K RD (fun ρ w => (f ρ w).bind fun ds w1 => lif (bV b ds) w1) Wx) := by
  obtain ⟨_, hg, hf⟩ := blt_of hb
  have hv := boot_b b
  have hc := call_B (X := X) b g.calm g.un
  have key : ∀ {σ : St} {H : Hp} {Q : VK}, lft X.K RD (fun ρ w => (f ρ w).bind fun ds w1 => lif (bV b ds) w1) Wx σ H Q → tCB (rB X.K b) (lft X.K RDs f Wx) σ H Q := by
    intro σ H Q q
    obtain ⟨ρ, w, S, sb, eo, q⟩ := lft.un (R1 := RDs) q
    refine ⟨ρ, w, S, sb, eo, q.imp fun x H1 ⟨d, ρ, S, w, sb, eo, r, q⟩ => ?_⟩
    obtain ⟨c, hc, k⟩ := q.lif
    exact ⟨d, S, w, c, sb, r, hc, k⟩
  cases b <;> first
    | exact weakE (pe_callB hc (g.gl hg) (g.frees _ hf) hv ha (by decide) (by decide) he hpl) fun σ H Q q => key q
    | exact weakE (pe_callTy hc (g.gl hg) (g.frees _ hf) hv ha (by decide) (by decide) he hpl) fun σ H Q q => key q
theorem own_map {N : List Str} (vs : List Nat) : (vs.map fun i => (N.getD i Str.empty, i)).map (·.2) = vs := by
  rw [List.map_map]
  exact List.map_id'' (fun _ => rfl) vs
theorem wOk_of {X : Cx} {Wx : WX} {sc : Scope} {N : List Str} {b : ME Fn} {op : BoolOp} {es : List Expr} {p : Pos} (hb : EX φ X Wx b (.BoolOp op es p)) (h : chkE Γ N sc b (.BoolOp op es p) = true) :
    PW X (.BoolOp op es p) (lft X.K RB (fun ρ w => tst (evE φ ρ b w)) Wx) := by
  have z := hb.w
  unfold wOk at z
  cases b <;> first
    | exact z
    | (unfold chkE at h; cases h)
/-- a test's wish as a value's -/
theorem tst_lift {K : PySem.W.Frag} {Wx : WX} {f : Env → W → Res D} {σ : St} {H : Hp} {Q : Bool → Hp → Prop} (h : lft K RB (fun ρ w => tst (f ρ w)) Wx σ H Q) : lft K RD f Wx σ H fun x H' => ∃ k, x = .bl k ∧ Q k H' := by
  obtain ⟨ρ, w, S, sb, eo, p⟩ := h
  refine ⟨ρ, w, S, sb, eo, (post.bind (R1 := RD) p).imp fun x H1 ⟨d, w1, S1, sb1, n1, r1, p1⟩ => ?_⟩
  obtain ⟨b, hb, k⟩ := p1.lif
  cases toB_some hb
  cases (show Rp S1 _ x from r1)
  exact ⟨b, rfl, k _ _ _ (Nxt.refl _ _) sb1 rfl⟩
theorem seq_read {X : Cx} {Wx : WX} {tg e : Expr} {f : Env → W → Res D} (h : PE X e (lft X.K RD f Wx)) : PI X tg e (lft X.K (RI X.K) (fun ρ w => (f ρ w).bind fun x w1 => lif (seqV x) w1) Wx) := by
  refine ⟨fun pins s σ H R I q => ?_⟩
  obtain ⟨ρ, w, S, sb, eo, p⟩ := q
  dsimp only at p
  cases hr : f ρ w with
  | ok d w1 =>
    rw [hr] at p
    have p : post X.K (RI X.K) S H (lif (seqV d) w1) R _ := p
    obtain ⟨xs, hx, k⟩ := p.lif
    unfold seqV at hx
    split at hx
    · unfold seqD at hx
      split at hx
      · cases hx
        refine (pi_list h).run pins s σ H R I ⟨ρ, w, S, sb, eo, ?_⟩
        rw [hr]
        intro S' H' v n s r
        cases (show Rp S' _ v from r) with
        | lst h1 q1 => exact ⟨_, rfl, ⟨_, SqL.of (s.lst h1)⟩, k S' H' _ n s (RI.list h1 q1)⟩
      · cases hx
        refine (pi_tup h).run pins s σ H R I ⟨ρ, w, S, sb, eo, ?_⟩
        rw [hr]
        intro S' H' v n s r
        cases (show Rp S' _ v from r) with
        | tup h1 q1 => exact ⟨_, rfl, ⟨_, SqT.of (s.tup h1)⟩, k S' H' _ n s (RI.tup h1 q1)⟩
      · cases hx
        refine (pi_str h).run pins s σ H R I ⟨ρ, w, S, sb, eo, ?_⟩
        rw [hr]
        intro S' H' v n s r
        cases (show Rp S' _ v from r)
        exact ⟨_, rfl, k S' H' _ n s (RI.str _)⟩
      · cases hx
    · cases hx
  | exc c w1 =>
    rw [hr] at p
    refine (pi_list h).run pins s σ H R I ⟨ρ, w, S, sb, eo, ?_⟩
    rw [hr]
    exact p
  | stk => rw [hr] at p; exact p.elim
theorem comp_fin {K : PySem.W.Frag} {S1 : GH} {H1 : Hp} {Q : VK} {E : Nat → Hp → Prop} {r : Res (List PyData)} (p : post K RD S1 H1 (r.bind fun ys w2 => .ok (.lst ys) w2) Q E) :
    r ≠ .stk ∧ ∀ ys w2, r = .ok ys w2 → ∀ S' H' a acc, Nxt S1 H1 S' H' → Sub K S' H' w2 → H1 a = none → S' a = none → H' a = some (.lst acc) → Rps S' ys acc → Q (.ref a) H' := by
  refine ⟨fun z => ?_, fun ys w2 hr S' H' a acc nx sb ha na hacc ra => ?_⟩
  · rw [z] at p; exact p.elim
  · rw [hr] at p
    have p : ∀ S' H' v, Nxt S1 H1 S' H' → Sub K S' H' w2 → RD S' (.lst ys) v → Q v H' := p
    refine p _ _ _ ⟨fun b o h => LeG.upd na b o (nx.s b o h), fun b o nb hb => ?_⟩ (sb.addL na hacc) (Rp.lst updG_same (ra.mono (LeG.upd na)))
    have hne : b ≠ a := by rintro rfl; rw [ha] at hb; cases hb
    obtain ⟨k1, k2⟩ := nx.k b o nb hb
    exact ⟨k1, by rw [updG_ne hne]; exact k2⟩
theorem bigB_of {i : Int} (h : bigB i = true) : -(2 ^ 62) ≤ i ∧ i < 2 ^ 62 := of_decide_eq_true h
mutual
theorem ok_e : ∀ (m : ME Fn) {X : Cx} {Wx : WX} {sc : Scope} {e : Expr}, XG Γ φ X Wx sc → chkE Γ X.N sc m e = true → EX φ X Wx m e
  | .var i, X, Wx, sc, e, g, h => by
    unfold chkE at h
    split at h
    · obtain ⟨h1, h2⟩ := bt h
      obtain ⟨h3, h4⟩ := bt h1
      obtain ⟨n1, n2⟩ := okN_of h2
      refine EX.of (weakE (pe_var (of_decide_eq_true h3) (g.vis h4) n1 n2) fun σ H Q q => ?_)
      obtain ⟨ρ, w, S, sb, eo, p⟩ := q
      dsimp only at p
      unfold evE at p
      obtain ⟨d, hd, k⟩ := p.lif
      obtain ⟨v, hv, r⟩ := eo.val i d hd
      exact ⟨v, hv, k S H v (Nxt.refl _ _) sb r⟩
    · cases h
  | .non, X, Wx, sc, e, g, h => by
    unfold chkE at h
    split at h
    · refine EX.of (weakE pe_non fun σ H Q q => ?_)
      obtain ⟨ρ, w, S, sb, eo, p⟩ := q
      exact p S H _ (Nxt.refl _ _) sb .non
    · cases h
  | .bl b, X, Wx, sc, e, g, h => by
    unfold chkE at h
    split at h
    · have z := eq_of_beq h
      subst z
      refine EX.of (weakE pe_bl fun σ H Q q => ?_)
      obtain ⟨ρ, w, S, sb, eo, p⟩ := q
      exact p S H _ (Nxt.refl _ _) sb (.bl b)
    · cases h
  | .int i, X, Wx, sc, e, g, h => by
    unfold chkE at h
    split at h
    · have z := of_decide_eq_true h
      subst z
      refine EX.of (weakE pe_int fun σ H Q q => ?_)
      obtain ⟨ρ, w, S, sb, eo, p⟩ := q
      exact p S H _ (Nxt.refl _ _) sb (.int i)
    · cases h
  | .str x, X, Wx, sc, e, g, h => by
    unfold chkE at h
    split at h
    · have z := of_decide_eq_true h
      subst z
      refine EX.of (weakE pe_str fun σ H Q q => ?_)
      obtain ⟨ρ, w, S, sb, eo, p⟩ := q
      exact p S H _ (Nxt.refl _ _) sb (.str x)
    · cases h
  | .gint y i, X, Wx, sc, e, g, h => by
    unfold chkE at h
    split at h
    · simp only [Bool.and_eq_true, decide_eq_true_eq] at h
      obtain ⟨⟨⟨h1, h2⟩, h3⟩, h4⟩ := h
      subst h1
      obtain ⟨t, ht⟩ := g.gi _ h4
      refine EX.of (weakE (pe_glob (v := .int i) (g.gl (of_decide_eq_true h2)) ht ⟨t, rfl⟩ (okN_of h3).1) fun σ H Q q => ?_)
      obtain ⟨ρ, w, S, sb, eo, p⟩ := q
      exact p S H _ (Nxt.refl _ _) sb (.int i)
    · cases h
  | .gstr y z, X, Wx, sc, e, g, h => by
    unfold chkE at h
    split at h
    · simp only [Bool.and_eq_true, decide_eq_true_eq] at h
      obtain ⟨⟨⟨h1, h2⟩, h3⟩, h4⟩ := h
      subst h1
      obtain ⟨t, ht⟩ := g.gs _ h4
      refine EX.of (weakE (pe_glob (v := .str z) (g.gl (of_decide_eq_true h2)) ht ⟨t, rfl⟩ (okN_of h3).1) fun σ H Q q => ?_)
      obtain ⟨ρ, w, S, sb, eo, p⟩ := q
      exact p S H _ (Nxt.refl _ _) sb (.str z)
    · cases h
  | .bin op a b, X, Wx, sc, e, g, h => by
    unfold chkE at h
    split at h
    · simp only [Bool.and_eq_true, decide_eq_true_eq] at h
      obtain ⟨⟨h1, h2⟩, h3⟩ := h
      subst h1
      exact EX.of (weakE (pe_op (op_bin op) (ok_e a g h2).v (ok_e b g h3).v) fun σ H Q q => r2_read q)
    · cases h
  | .neg a, X, Wx, sc, e, g, h => by
    unfold chkE at h
    split at h
    · refine EX.of (weakE (pe_un un_neg (ok_e a g h).v) fun σ H Q q => ?_)
      obtain ⟨ρ, w, S, sb, eo, p⟩ := un_read q
      refine ⟨ρ, w, S, sb, eo, p.imp fun x H1 ⟨d, S, w, c, sb, r, hc, k⟩ => ?_⟩
      unfold negV at hc
      split at hc
      · cases hc
        cases (show Rp S _ x from r)
        exact ⟨_, rfl, k.int sb⟩
      · cases hc
    · cases h
  | .not a, X, Wx, sc, e, g, h => by
    unfold chkE at h
    split at h
    · have ih := ok_e a g h
      refine ⟨weakE (pe_not ih.v) fun σ H Q q => ?_, weakT (pt_not ih.t) fun σ H Q q => ?_, trivial⟩
      · obtain ⟨ρ, w, S, sb, eo, p⟩ := un_read q
        refine ⟨ρ, w, S, sb, eo, p.imp fun x H1 ⟨d, S, w, c, sb, r, hc, k⟩ => ?_⟩
        unfold notV at hc
        split at hc
        · cases hc
          cases (show Rp S _ x from r)
          exact ⟨_, rfl, k.bl sb⟩
        · cases hc
      · obtain ⟨ρ, w, S, sb, eo, p⟩ := q
        refine ⟨ρ, w, S, sb, eo, ?_⟩
        dsimp only at p ⊢
        unfold evE at p
        rw [tst_bind] at p
        unfold tst
        cases hr : evE φ ρ a w with
        | ok d w' =>
          rw [hr] at p
          have p : post X.K RB S H (tst (lif (notV d) w')) Q _ := p
          cases d with
          | p d =>
            cases d with
            | bool b =>
              intro S' H' v n s r
              cases r
              exact p S' H' _ n s rfl
            | _ => exact p.elim
          | _ => exact p.elim
        | exc c w' => rw [hr] at p; exact p
        | stk => rw [hr] at p; exact p
    · cases h
  | .cmp op a b, X, Wx, sc, e, g, h => by
    unfold chkE at h
    split at h
    · simp only [Bool.and_eq_true, decide_eq_true_eq] at h
      obtain ⟨⟨h1, h2⟩, h3⟩ := h
      subst h1
      have ha := (ok_e a g h2).v
      have hb := (ok_e b g h3).v
      exact ⟨weakE (pe_cmpR (op_cmpV op g.un) ha hb (mark_of h3 _)) fun σ H Q q => r2_read q, weakT (pt_cmpR (op_cmpV op g.un) ha hb (mark_of h3 _)) fun σ H Q q => r2_readT q, trivial⟩
    · cases h
  | .chain op op' a b c, X, Wx, sc, e, g, h => by
    unfold chkE at h
    split at h
    · simp only [Bool.and_eq_true, decide_eq_true_eq] at h
      obtain ⟨⟨⟨⟨h0, h1⟩, h2⟩, h3⟩, h4⟩ := h
      subst h0 h1
      have ha := (ok_e a g h2).v
      have hb := (ok_e b g h3).v
      have hc := (ok_e c g h4).v
      exact ⟨weakE (pe_chain (op_cmpV op g.un) (op_cmpV op' g.un) ha hb hc (mark_of h4 _)) fun σ H Q q => chain_read q, weakT (pt_chain (op_cmpV op g.un) (op_cmpV op' g.un) ha hb hc (mark_of h4 _)) fun σ H Q q => chain_readT q, trivial⟩
    · cases h
  | .and a b, X, Wx, sc, e, g, h => by
    unfold chkE at h
    split at h
    · obtain ⟨h1, h2⟩ := bt h
      have ha := ok_e a g h1
      have hb := ok_e b g h2
      have hw := wOk_of hb h2
      exact ⟨weakE (pe_and ha.v hb.v) fun σ H Q q => and_readV q, weakT (pw_and ha.t hw).pt fun σ H Q q => and_readT q, weakW (pw_and ha.t hw) fun σ H Q q => and_readT q⟩
    · cases h
  | .or a b, X, Wx, sc, e, g, h => by
    unfold chkE at h
    split at h
    · obtain ⟨h1, h2⟩ := bt h
      have ha := ok_e a g h1
      have hb := ok_e b g h2
      have hw := wOk_of hb h2
      exact ⟨weakE (pe_or ha.v hb.v) fun σ H Q q => or_readV q, weakT (pw_or ha.t hw).pt fun σ H Q q => or_readT q, weakW (pw_or ha.t hw) fun σ H Q q => or_readT q⟩
    · cases h
  | .and1 a, X, Wx, sc, e, g, h => by
    unfold chkE at h
    split at h
    · have ha := ok_e a g h
      exact ⟨weakE (pe_one ha.v) fun σ H Q q => q, weakT (pw_and1 ha.t).pt fun σ H Q q => q, weakW (pw_and1 ha.t) fun σ H Q q => q⟩
    · cases h
  | .or1 a, X, Wx, sc, e, g, h => by
    unfold chkE at h
    split at h
    · have ha := ok_e a g h
      exact ⟨weakE (pe_one ha.v) fun σ H Q q => q, weakT (pw_or1 ha.t).pt fun σ H Q q => q, weakW (pw_or1 ha.t) fun σ H Q q => q⟩
    · cases h
  | .ite c a b, X, Wx, sc, e, g, h => by
    unfold chkE at h
    split at h
    · simp only [Bool.and_eq_true] at h
      obtain ⟨⟨h1, h2⟩, h3⟩ := h
      have hc := ok_e c g h1
      have ha := ok_e a g h2
      have hb := ok_e b g h3
      exact ⟨weakE (pe_ifExp hc.t ha.v hb.v) fun σ H Q q => ite_read q, weakT (pt_ifExp hc.t ha.t hb.t) fun σ H Q q => ite_readT q, trivial⟩
    · cases h
  | .call f es, X, Wx, sc, e, g, h => by
    unfold chkE at h
    split at h
    · simp only [Bool.and_eq_true, decide_eq_true_eq] at h
      obtain ⟨⟨⟨⟨h1, h2⟩, h3⟩, h4⟩, h5⟩ := h
      have h3 := of_decide_eq_true h3
      subst h1
      obtain ⟨a, fd, ps, k, F, hr, hm, hk, hb⟩ := g.fns f h2
      have h6 := h5
      cases es with
      | nil => simp [chkEs] at h6
      | cons m ms =>
        unfold chkEs at h6
        refine EX.of (weakE (pe_callS F hr (g.gl h3) hm hk hb (fun σ => L2N.passAt g.tk σ) (ok_es (.cons m ms) g h5) (okN_of h4).1 (star_cons (bt h6).1 _ _) (star_none (bt h6).2)) fun σ H Q q => ?_)
        obtain ⟨ρ, w, S, sb, eo, q⟩ := lft.un (R1 := RDs) q
        exact ⟨ρ, w, S, sb, eo, q.imp fun x H1 ⟨d, ρ, S, w, sb, eo, r, q⟩ => ⟨d, S, w, sb, r, q⟩⟩
    · cases h
  | .bcall b es, X, Wx, sc, e, g, h => by
    unfold chkE at h
    split at h
    · obtain ⟨h1, h2⟩ := bt h
      obtain ⟨e1, hg, hf⟩ := blt_of h1
      subst e1
      have h6 := h2
      cases es with
      | nil => simp [chkEs] at h6
      | cons m ms =>
        unfold chkEs at h6
        exact EX.of (bcall_ok g (ok_es (.cons m ms) g h2) h1 (star_cons (bt h6).1 _ _) (star_none (bt h6).2))
    · cases h
  | .call0 f, X, Wx, sc, e, g, h => by
    unfold chkE at h
    split at h
    · simp only [Bool.and_eq_true, decide_eq_true_eq] at h
      obtain ⟨⟨⟨h1, h2⟩, h3⟩, h4⟩ := h
      have h3 := of_decide_eq_true h3
      subst h1
      obtain ⟨a, fd, ps, k, F, hr, hm, hk, hb⟩ := g.fns f h2
      by_cases hps : ps = []
      · subst hps
        refine EX.of (weakE (pe_callS0 F hr (g.gl h3) hm hk hb (fun σ => L2N.passAt g.tk σ) (okN_of h4).1) fun σ H Q q => ?_)
        obtain ⟨ρ, w, S, sb, eo, q⟩ := q
        exact ⟨[], S, w, sb, .nil, q⟩
      · refine EX.of ⟨fun pins s σ H Q I q => ?_⟩
        obtain ⟨ρ, w, S, sb, eo, q⟩ := q
        have l := F.len [] H Q (fun cls d H' => Wx cls d σ H') ⟨[], S, w, sb, .nil, q⟩
        exact absurd (List.length_eq_zero_iff.mp l.symm) hps
    · cases h
  | .mkS f, X, Wx, sc, e, g, h => by
    unfold chkE at h
    split at h
    · simp only [Bool.and_eq_true, decide_eq_true_eq] at h
      obtain ⟨⟨⟨h1, h2⟩, h3⟩, h4⟩ := h
      have h3 := of_decide_eq_true h3
      subst h1
      rcases g.mkf f h2 with hst | ⟨hm, hG, fi, fd, ps, k, M, F, hr, hb⟩
      · refine EX.of ⟨fun pins s σ H Q I q => ?_⟩
        obtain ⟨ρ, w, S, sb, eo, q⟩ := q
        dsimp only at q
        unfold evE at q
        rw [hst] at q
        exact q.elim
      · refine EX.of (weakE (pe_make0 M F hr (g.gl h3) hm hb .nil pass_no (okN_of h4).1) fun σ H Q q => ?_)
        obtain ⟨ρ, w, S, sb, eo, q⟩ := q
        dsimp only at q
        unfold evE at q
        rw [hG] at q
        exact make_read sb q
    · cases h
  | .meth f i es, X, Wx, sc, e, g, h => by
    unfold chkE at h
    split at h
    · simp only [Bool.and_eq_true, decide_eq_true_eq] at h
      obtain ⟨⟨⟨⟨⟨⟨⟨⟨h1, h2⟩, h3⟩, h4⟩, h5⟩, h6⟩, h7⟩, h8⟩, hln⟩ := h
      obtain ⟨n1, n2⟩ := okN_of h3
      subst h4
      obtain ⟨C, A1, A2⟩ := g.stpC h5
      obtain ⟨a, fd, ps, k, F, hr, hm, hb⟩ := g.mts f h6
      have h9 := h8
      cases es with
      | nil => simp [chkEs] at h9
      | cons m ms =>
        unfold chkEs at h9
        refine EX.of (weakE (pe_methS (pe_var h1 (g.vis h2) n1 n2) C hm F hr hb (fun σ => L2N.passAt g.tk σ) (ok_es (.cons m ms) g h8) (star_cons (bt h9).1 _ _) (star_none (bt h9).2) (meth_eval rfl (by rw [star_cons (bt h9).1]; rfl) hln)) fun σ H Q q => ?_)
        obtain ⟨ρ, w, S, sb, eo, q⟩ := q
        dsimp only at q
        unfold evE at q
        split at q
        · rename_i hV
          obtain ⟨v, hv, a, e1, hS⟩ := eo.val i _ hV
          subst e1
          obtain ⟨row, past, r0, p0, dx, xs0, e0, k1, k2, k3, k4, k5, k6⟩ := sb.ok a _ hS
          refine ⟨_, hv, a, dx, _, rfl, k1, ?_, ?_⟩
          · obtain ⟨m1, m2⟩ := h7
            simp only [List.lookup]
            rw [show (Γ.nm f == ("row" : Str)) = false from beq_false_of_ne m1, show (Γ.nm f == ("past" : Str)) = false from beq_false_of_ne m2]
          · refine ⟨ρ, w, S, sb, eo, q.bind.imp fun x H1 ⟨d, w1, S1, sb1, nx, r1, q1⟩ => ?_⟩
            exact ⟨.stp :: d, S1, w1, sb1, .cons ⟨a, rfl, nx.s _ _ hS⟩ r1, q1⟩
        · exact q.elim
    · cases h
  | .meth0 f i, X, Wx, sc, e, g, h => by
    unfold chkE at h
    split at h
    · simp only [Bool.and_eq_true, decide_eq_true_eq] at h
      obtain ⟨⟨⟨⟨⟨⟨⟨h1, h2⟩, h3⟩, h4⟩, h5⟩, h6⟩, h7⟩, hln⟩ := h
      obtain ⟨n1, n2⟩ := okN_of h3
      subst h4
      obtain ⟨C, A1, A2⟩ := g.stpC h5
      obtain ⟨a, fd, ps, k, F, hr, hm, hb⟩ := g.mts f h6
      refine EX.of (weakE (pe_methS0 (pe_var h1 (g.vis h2) n1 n2) C hm F hr hb (fun σ => L2N.passAt g.tk σ) (meth_eval rfl rfl hln)) fun σ H Q q => ?_)
      obtain ⟨ρ, w, S, sb, eo, q⟩ := q
      dsimp only at q
      unfold evE at q
      split at q
      · rename_i hV
        obtain ⟨v, hv, a, e1, hS⟩ := eo.val i _ hV
        subst e1
        obtain ⟨row, past, r0, p0, dx, xs0, e0, k1, k2, k3, k4, k5, k6⟩ := sb.ok a _ hS
        refine ⟨_, hv, a, dx, _, rfl, k1, ?_, ?_⟩
        · obtain ⟨m1, m2⟩ := h7
          simp only [List.lookup]
          rw [show (Γ.nm f == ("row" : Str)) = false from beq_false_of_ne m1, show (Γ.nm f == ("past" : Str)) = false from beq_false_of_ne m2]
        · exact ⟨[.stp], S, w, sb, .cons ⟨a, rfl, hS⟩ .nil, q⟩
      · exact q.elim
    · cases h
  | .srow i, X, Wx, sc, e, g, h => by
    unfold chkE at h
    split at h
    · simp only [Bool.and_eq_true, decide_eq_true_eq] at h
      obtain ⟨⟨⟨⟨h1, h2⟩, h3⟩, h4⟩, h5⟩ := h
      obtain ⟨n1, n2⟩ := okN_of h3
      subst h4
      obtain ⟨C, A1, A2⟩ := g.stpC h5
      refine EX.of (weakE (pe_fld (pe_var h1 (g.vis h2) n1 n2) rfl) fun σ H Q q => ?_)
      obtain ⟨ρ, w, S, sb, eo, q⟩ := q
      dsimp only at q
      unfold evE at q
      split at q
      · rename_i row past hV hsp
        obtain ⟨v, hv, a, e1, hS⟩ := eo.val i _ hV
        subst e1
        obtain ⟨row', past', r0, p0, dx, xs0, e0, k1, k2, k3, k4, k5, k6⟩ := sb.ok a _ hS
        rw [hsp] at e0
        cases e0
        exact ⟨_, hv, a, _, dx, _, _, rfl, k1, C, A1, rfl, q S H _ (Nxt.refl S H) sb k2⟩
      · exact q.elim
    · cases h
  | .noPast i, X, Wx, sc, e, g, h => by
    unfold chkE at h
    split at h
    · simp only [Bool.and_eq_true, decide_eq_true_eq] at h
      obtain ⟨⟨⟨⟨h1, h2⟩, h3⟩, h4⟩, h5⟩ := h
      obtain ⟨n1, n2⟩ := okN_of h3
      subst h4
      obtain ⟨C, A1, A2⟩ := g.stpC h5
      have key : ∀ σ H Q, lft X.K RD (fun ρ => evE φ ρ (.noPast i)) Wx σ H Q → tOp (L2.rEqD X.K) (tFld X.K (tVar i) "past") (L2.tLst tNil) σ H Q := fun σ H Q q => by
        obtain ⟨ρ, w, S, sb, eo, q⟩ := q
        dsimp only at q
        unfold evE at q
        split at q
        · rename_i row past hV hsp
          obtain ⟨v, hv, a, e1, hS⟩ := eo.val i _ hV
          subst e1
          obtain ⟨row', past', r0, p0, dx, xs0, e0, k1, k2, k3, k4, k5, k6⟩ := sb.ok a _ hS
          rw [hsp] at e0
          cases e0
          have ec : cmpD .eq (.list past) (.list []) = if shp (.list past) = true ∧ shp (.list []) = true then some (PyData.eqv (.list past) (.list [])) else none := rfl
          rw [ec] at q
          by_cases hsh : shp (.list past) = true ∧ shp (.list []) = true
          · rw [if_pos hsh] at q
            exact ⟨_, hv, a, _, dx, _, _, rfl, k1, C, A2, rfl, Nat.zero_le _, fun p hp => by
              have sb1 := sb.updO (sb.free hp) (nf_none hp) (o := .lst [])
              have np0 : p0 ≠ p := by rintro rfl; rw [hp] at k4; cases k4
              exact ⟨.list past, .list [], .lst (SqL.of (by rw [upd_ne np0]; exact k4)) (k5.dp sb1), .lst (SqL.of upd_same) .nil, hsh.1, hsh.2, q S _ _ (Nxt.newO hp) sb1 (Rp.bl _)⟩⟩
          · rw [if_neg hsh] at q
            exact q.elim
        · exact q.elim
      have un : X.A.units + 64 < cLine := by have := g.un; omega
      refine ⟨weakE (pe_cmpR (op_eqD un) (pe_fld (pe_var h1 (g.vis h2) n1 n2) rfl) (pe_lst pa_nil) (nomark _)) key, weakT (pt_cmpR (op_eqD un) (pe_fld (pe_var h1 (g.vis h2) n1 n2) rfl) (pe_lst pa_nil) (nomark _)) fun σ H Q q => key σ H _ ?_, trivial⟩
      obtain ⟨ρ, w, S, sb, eo, q⟩ := q
      refine ⟨ρ, w, S, sb, eo, ?_⟩
      dsimp only at q ⊢
      unfold evE at q ⊢
      split at q
      · cases hc : cmpD .eq (.list _) (.list []) with
        | none => rw [hc] at q; exact q.elim
        | some b =>
          rw [hc] at q
          exact fun S' H' v n s r => by
            cases (show Rp S' (.bool b) v from r)
            exact ⟨b, rfl, q S' H' b n s rfl⟩
      · exact q.elim
    · cases h
  | .lenS i, X, Wx, sc, e, g, h => by
    unfold chkE at h
    split at h
    · simp only [Bool.and_eq_true, decide_eq_true_eq] at h
      obtain ⟨⟨⟨⟨h1, h2⟩, h3⟩, h4⟩, h5⟩ := h
      obtain ⟨e1, g1, f1⟩ := blt_of h1
      subst e1
      obtain ⟨n1, n2⟩ := okN_of h4
      obtain ⟨R2, ⟨fa, fd, ps, F, M, B⟩, _⟩ := g.lnp h5
      have cr : CallR X (.builtin "len") (fun xs H Q => ∃ a dx fs, xs = [.ref a] ∧ H a = some (.ins (stA X.K) dx fs) ∧ spL X.K [.ref a] H (fun v H' => ∃ i : Int, v = .int i ∧ 0 ≤ i ∧ i < 2 ^ 63 ∧ Q (.int i) H') (fun _ _ _ => False)) := by
        rintro pins s σ H xs us Q I r ⟨a, dx, fs, rfl, hH, q⟩
        obtain ⟨u, rfl, ru⟩ := r.one
        cases ru
        exact len_own M F R2 B I hH q
      refine EX.of (weakE (pe_callB cr (g.gl g1) (g.frees _ f1) (boot_b .len) (pa_cons (pe_var h2 (g.vis h3) n1 n2) pa_nil)) fun σ H Q q => ?_)
      obtain ⟨ρ, w, S, sb, eo, q⟩ := q
      dsimp only at q
      unfold evE at q
      split at q
      · rename_i xs past hV hsp
        obtain ⟨v, hv, a, e1, hS⟩ := eo.val i _ hV
        subst e1
        obtain ⟨row', past', r0, p0, dx, xs0, e0, k1, k2, k3, k4, k5, k6⟩ := sb.ok a _ hS
        rw [hsp] at e0
        cases e0
        split at q
        · rename_i hz
          cases k2 with
          | lst m1 m2 =>
            have hz := of_decide_eq_true hz
            refine ⟨_, hv, a, dx, _, rfl, k1, a, dx, r0, p0, _, rfl, k1, sb.lst m1, _, rfl, by omega, ?_, ?_⟩
            · rw [m2.length]; omega
            · rw [m2.length]
              exact q S H _ (Nxt.refl S H) sb (Rp.int _)
        · exact q.elim
      · exact q.elim
    · cases h
  | .neO i, X, Wx, sc, e, g, h => by
    unfold chkE at h
    split at h
    · simp only [Bool.and_eq_true, decide_eq_true_eq] at h
      obtain ⟨⟨h1, h2⟩, h3⟩ := h
      obtain ⟨n1, n2⟩ := okN_of h3
      have key : ∀ σ H Q, lft X.K RD (fun ρ => evE φ ρ (.neO i)) Wx σ H Q → tOp (L2.rNeD X.K) (tVar i) (L2.tLst tNil) σ H Q := fun σ H Q q => by
        obtain ⟨ρ, w, S, sb, eo, q⟩ := q
        dsimp only at q
        unfold evE at q
        split at q
        · rename_i xs hO
          obtain ⟨a, ys, k1, k2, k3, k4⟩ := eo.own i xs hO
          have ec : cmpD .ne (.list xs) (.list []) = if shp (.list xs) = true ∧ shp (.list []) = true then some (!PyData.eqv (.list xs) (.list [])) else none := rfl
          rw [ec] at q
          by_cases hsh : shp (.list xs) = true ∧ shp (.list []) = true
          · rw [if_pos hsh] at q
            exact ⟨_, k1, Nat.zero_le _, fun p hp => by
              have sb1 := sb.updO (sb.free hp) (nf_none hp) (o := .lst [])
              have np0 : a ≠ p := by rintro rfl; rw [hp] at k3; cases k3
              exact ⟨.list xs, .list [], .lst (SqL.of (by rw [upd_ne np0]; exact k3)) (k4.dp sb1), .lst (SqL.of upd_same) .nil, hsh.1, hsh.2, q S _ _ (Nxt.newO hp) sb1 (Rp.bl _)⟩⟩
          · rw [if_neg hsh] at q
            exact q.elim
        · exact q.elim
      have un : X.A.units + 64 < cLine := by have := g.un; omega
      refine ⟨weakE (pe_cmpR (op_neD un) (pe_var h1 (g.vis h2) n1 n2) (pe_lst pa_nil) (nomark _)) key, weakT (pt_cmpR (op_neD un) (pe_var h1 (g.vis h2) n1 n2) (pe_lst pa_nil) (nomark _)) fun σ H Q q => key σ H _ ?_, trivial⟩
      obtain ⟨ρ, w, S, sb, eo, q⟩ := q
      refine ⟨ρ, w, S, sb, eo, ?_⟩
      dsimp only at q ⊢
      unfold evE at q ⊢
      split at q
      · cases hc : cmpD .ne (.list _) (.list []) with
        | none => rw [hc] at q; exact q.elim
        | some b =>
          rw [hc] at q
          exact fun S' H' v n s r => by
            cases (show Rp S' (.bool b) v from r)
            exact ⟨b, rfl, q S' H' b n s rfl⟩
      · exact q.elim
    · cases h
  | .sset a, X, Wx, sc, e, g, h => by
    unfold chkE at h
    split at h
    · rename_i x p1 y p2 z p3 p4
      simp only [Bool.and_eq_true] at h
      obtain ⟨⟨h1, h2⟩, h3⟩ := h
      obtain ⟨e1, g1, f1⟩ := blt_of h1
      obtain ⟨e2, g2, f2⟩ := blt_of h2
      subst e1 e2
      refine EX.of (weakE (pe_callB (cr_sortedSet g.calm) (g.gl g1) (g.frees _ f1) (boot_b .sorted) (pa_cons (pe_callTy (cr_setOfL g.calm) (g.gl g2) (g.frees _ f2) boot_set (pa_cons (ok_e a g h3).v pa_nil (star_cons h3 _ _)) (by decide) (by decide) (star_cons h3 _ _)) pa_nil)) fun σ H Q q => ?_)
      obtain ⟨ρ, w, S, sb, eo, p⟩ := un_read q
      refine ⟨ρ, w, S, sb, eo, p.imp fun x H1 ⟨d, S, w, c, sb, r, hc, k⟩ => ?_⟩
      unfold ssetV at hc
      split at hc
      · rename_i ds
        obtain ⟨l, hl, hc⟩ := Option.bind_eq_some_iff.mp hc
        split at hc
        · rename_i h64
          cases hc
          cases (show Rp S (.list ds) x from r) with
          | lst k1 k2 =>
            have e1 := k2.ints hl
            subst e1
            refine ⟨_, l, rfl, SqL.of (sb.lst k1), h64, fun p n hp hn => ?_⟩
            have sp := sb.free hp
            have sb1 : Sub X.K S (upd H1 p (SetO X.w p (fun j => decide (j ∈ l)) n)) w := sb.updO sp (nf_none hp)
            refine ⟨p, _, n, rfl, upd_same, by omega, fun ns q hs hm hn2 hq => ?_⟩
            rw [sset_same hs hm]
            refine k _ _ _ ?_ (sb1.newL hq) (Rp.lst updG_same ((Rps.ofInts _).mono (LeG.upd (sb1.free hq))))
            exact (Nxt.newO (S := S) hp).trans (Nxt.new (sb1.free hq) hq)
        · cases hc
      · cases hc
    · cases h
  | .fmt a, X, Wx, sc, e, g, h => by
    unfold chkE at h
    split at h
    · obtain ⟨h1, h2⟩ := bt h
      have h1 := of_decide_eq_true h1
      subst h1
      refine EX.of (weakE (pe_fmt (ok_e a g h2).v) fun σ H Q q => ?_)
      obtain ⟨ρ, w, S, sb, eo, p⟩ := un_read q
      refine ⟨ρ, w, S, sb, eo, p.imp fun x H1 ⟨d, S, w, c, sb, r, hc, k⟩ => ?_⟩
      unfold fmtV at hc
      split at hc
      · split at hc
        · rename_i hy
          cases hc
          cases (show Rp S _ x from r)
          exact .inl ⟨_, rfl, small_line hy, k.here sb (Rp.str _)⟩
        · cases hc
      · split at hc
        · rename_i hy
          cases hc
          cases (show Rp S _ x from r)
          exact .inr ⟨_, rfl, hy.1, k.here sb (Rp.str _)⟩
        · cases hc
      · cases hc
    · cases h
  | .fstr es, X, Wx, sc, e, g, h => by
    unfold chkE at h
    split at h
    · simp only [Bool.and_eq_true, decide_eq_true_eq] at h
      obtain ⟨⟨h1, h2⟩, h3⟩ := h
      obtain ⟨ts, hj, hq⟩ := ok_js es g h1 h3
      refine EX.of (weakE (pe_joined hj) fun σ H Q q => ?_)
      refine hq _ _ _ _ (by show 0 + _ ≤ _; omega) ?_
      obtain ⟨ρ, w, S, sb, eo, p⟩ := lft.un (R1 := RDs) q
      refine ⟨ρ, w, S, sb, eo, p.imp fun xs H1 ⟨d, ρ, S, w, sb, eo, r, p⟩ => ?_⟩
      obtain ⟨c, hc, k⟩ := p.lif
      unfold fstrV at hc
      obtain ⟨l, hl, hc⟩ := Option.bind_eq_some_iff.mp hc
      obtain ⟨ps, hp, hl⟩ := Option.bind_eq_some_iff.mp hl
      obtain ⟨out, ho, rfl⟩ := Option.map_eq_some_iff.mp hc
      exact ⟨l, out, strsOf_vals (r.plains hp) hl, ho, k _ _ _ (Nxt.refl _ _) sb (Rp.str _)⟩
    · cases h
  | .join a b, X, Wx, sc, e, g, h => by
    unfold chkE at h
    split at h
    · simp only [Bool.and_eq_true, decide_eq_true_eq] at h
      obtain ⟨⟨⟨⟨h1, h2⟩, hs⟩, h3⟩, h4⟩ := h
      subst h1
      refine EX.of (weakE (pe_join (ok_e a g h3).v (ok_e b g h4).v (star_cons h4 _ _) (noSup_of hs) h2) fun σ H Q q => ?_)
      obtain ⟨ρ, w, S, sb, eo, p⟩ := lft.un (R1 := RD) q
      refine ⟨ρ, w, S, sb, eo, p.imp fun x H1 ⟨d, ρ, S, w, sb, eo, r, p⟩ => ?_⟩
      split at p
      · cases (show Rp S _ x from r)
        refine ⟨⟨_, rfl⟩, ρ, w, S, sb, eo, (post.bind (R1 := RD) p).imp fun y H2 ⟨d2, w2, S2, sb2, n2, r2, p2⟩ => ?_⟩
        obtain ⟨c, hc, k⟩ := p2.lif
        obtain ⟨xs, l, rfl, hl, hz, rfl⟩ := joinV_some hc
        cases (show Rp S2 _ y from r2) with
        | lst k1 k2 =>
          have e1 := strsOf_vals k2 hl
          subst e1
          exact ⟨_, _, l, rfl, rfl, .inl (SqL.of (sb2.lst k1)), hz, k _ _ _ (Nxt.refl _ _) sb2 (Rp.str _)⟩
      · exact p.elim
    · cases h
  | .split a b, X, Wx, sc, e, g, h => by
    unfold chkE at h
    split at h
    · simp only [Bool.and_eq_true, decide_eq_true_eq] at h
      obtain ⟨⟨⟨⟨h1, h2⟩, hs⟩, h3⟩, h4⟩ := h
      subst h1
      refine EX.of (weakE (pe_split (ok_e a g h3).v (ok_e b g h4).v (star_cons h4 _ _) (noSup_of hs) h2) fun σ H Q q => ?_)
      obtain ⟨ρ, w, S, sb, eo, p⟩ := lft.un (R1 := RD) q
      refine ⟨ρ, w, S, sb, eo, p.imp fun x H1 ⟨d, ρ, S, w, sb, eo, r, p⟩ => ?_⟩
      split at p
      · cases (show Rp S _ x from r)
        refine ⟨⟨_, rfl⟩, ρ, w, S, sb, eo, (post.bind (R1 := RD) p).imp fun y H2 ⟨d2, w2, S2, sb2, n2, r2, p2⟩ => ?_⟩
        obtain ⟨c, hc, k⟩ := p2.lif
        obtain ⟨z, rfl, hz, rfl⟩ := splitV_some hc
        cases (show Rp S2 _ y from r2)
        refine ⟨_, _, rfl, rfl, hz.1, hz.2, fun p hp => ?_⟩
        exact Ans.lst (show Ans X.K S2 H2 w2 (.lst _) Q from k) sb2 (Rps.ofStrs _) p hp
      · exact p.elim
    · cases h
  | .index a b, X, Wx, sc, e, g, h => by
    unfold chkE at h
    split at h
    · simp only [Bool.and_eq_true, decide_eq_true_eq] at h
      obtain ⟨⟨⟨⟨h1, h2⟩, hs⟩, h3⟩, h4⟩ := h
      subst h1
      refine EX.of (weakE (pe_bm PySem.F.plainAttrs_list PySem.F.slot_list_index PySem.F.type_list_index (mt_idxV g.un) (ok_e a g h3).v (pa_cons (ok_e b g h4).v pa_nil (star_cons h4 _ _)) (noSup_of hs) (by rw [star_cons h4]; rfl) h2 (star_cons h4 _ _)) fun σ H Q q => ?_)
      obtain ⟨ρ, w, S, sb, eo, p⟩ := lft.un (R1 := RD) q
      refine ⟨ρ, w, S, sb, eo, p.imp fun x H1 ⟨d, ρ, S, w, sb, eo, r, p⟩ => ?_⟩
      split at p
      · rename_i ds
        refine ⟨?_, ρ, w, S, sb, eo, (post.bind (R1 := RD) p).imp fun y H2 ⟨d2, w2, S2, sb2, n2, r2, p2⟩ => ?_⟩
        · cases (show Rp S _ x from r) with
          | lst k1 k2 => exact .inl ⟨rfl, _, SqL.of (sb.lst k1)⟩
        · obtain ⟨c, hc, k⟩ := p2.lif
          exact ⟨y, _, d2, S2, w2, c, rfl, sb2, r.mono n2.s, r2, hc, k⟩
      · exact p.elim
    · cases h
  | .count a b, X, Wx, sc, e, g, h => by
    unfold chkE at h
    split at h
    · simp only [Bool.and_eq_true, decide_eq_true_eq] at h
      obtain ⟨⟨⟨⟨h1, h2⟩, hs⟩, h3⟩, h4⟩ := h
      subst h1
      refine EX.of (weakE (pe_bm PySem.F.plainAttrs_list PySem.F.slot_list_count PySem.F.type_list_count (mt_cntV g.un) (ok_e a g h3).v (pa_cons (ok_e b g h4).v pa_nil (star_cons h4 _ _)) (noSup_of hs) (by rw [star_cons h4]; rfl) h2 (star_cons h4 _ _)) fun σ H Q q => ?_)
      obtain ⟨ρ, w, S, sb, eo, p⟩ := lft.un (R1 := RD) q
      refine ⟨ρ, w, S, sb, eo, p.imp fun x H1 ⟨d, ρ, S, w, sb, eo, r, p⟩ => ?_⟩
      split at p
      · rename_i ds
        refine ⟨?_, ρ, w, S, sb, eo, (post.bind (R1 := RD) p).imp fun y H2 ⟨d2, w2, S2, sb2, n2, r2, p2⟩ => ?_⟩
        · cases (show Rp S _ x from r) with
          | lst k1 k2 => exact .inl ⟨rfl, _, SqL.of (sb.lst k1)⟩
        · obtain ⟨c, hc, k⟩ := p2.lif
          exact ⟨y, _, d2, S2, w2, c, rfl, sb2, r.mono n2.s, r2, hc, k⟩
      · exact p.elim
    · cases h
  | .lenum a, X, Wx, sc, e, g, h => by
    unfold chkE at h
    split at h
    · simp only [Bool.and_eq_true] at h
      obtain ⟨⟨h1, h2⟩, h3⟩ := h
      obtain ⟨e1, g1, f1⟩ := blt_of h1
      obtain ⟨e2, g2, f2⟩ := blt_of h2
      subst e1 e2
      refine EX.of (weakE (pe_listEn g.calm (g.gl g1) (g.frees _ f1) (g.gl g2) (g.frees _ f2) (ok_e a g h3).v (star_cons h3 _ _)) fun σ H Q q => ?_)
      obtain ⟨ρ, w, S, sb, eo, p⟩ := un_read q
      refine ⟨ρ, w, S, sb, eo, p.imp fun x H1 ⟨d, S, w, c, sb, r, hc, k⟩ => ?_⟩
      unfold lenumV at hc
      split at hc
      · rename_i ds
        split at hc
        · cases hc
          cases (show Rp S (.list ds) x from r) with
          | lst k1 k2 =>
            rename_i aa xs xx
            refine ⟨_, _, rfl, SqL.of (sb.lst k1), fun q as z1 z2 z3 z4 => ?_⟩
            have nq := sb.free z1
            have sb1 : Sub X.K S (upd H1 q (.lst (as.map V.ref))) w := sb.updO nq (nf_none z1)
            have hq : q ∉ as := fun z => (z2 q z).2 rfl
            obtain ⟨S', n1, s1, r1, u1⟩ := en_ghost as _ ds 0 S _ z4 z3 (fun t ht => by rw [upd_ne (z2 t ht).2]; exact (z2 t ht).1) sb1 k2
            have nq' : S' q = none := by rw [u1 q hq]; exact nq
            have hL : putE (upd H1 q (.lst (as.map V.ref))) 0 as xs q = some (.lst (as.map V.ref)) := by rw [putE_off as xs 0 _ hq, upd_same]
            refine k _ _ _ ⟨fun b o y => LeG.upd nq' b o (n1.s b o y), fun b o nb hb => ?_⟩ (s1.addL nq' hL) (Rp.lst updG_same (r1.mono (LeG.upd nq')))
            have hne : b ≠ q := by rintro rfl; rw [z1] at hb; cases hb
            obtain ⟨y1, y2⟩ := n1.k b o nb (by rw [upd_ne hne]; exact hb)
            exact ⟨y1, by rw [updG_ne hne]; exact y2⟩
        · cases hc
      · cases hc
    · cases h
  | .lrng a b, X, Wx, sc, e, g, h => by
    unfold chkE at h
    split at h
    · simp only [Bool.and_eq_true] at h
      obtain ⟨⟨⟨h1, h2⟩, h3⟩, h4⟩ := h
      obtain ⟨e1, g1, f1⟩ := blt_of h1
      obtain ⟨e2, g2, f2⟩ := blt_of h2
      subst e1 e2
      refine EX.of (weakE (pe_listRg g.calm (g.gl g1) (g.frees _ f1) (prg_2 (g.gl g2) (g.frees _ f2) (ok_e a g h3).v (ok_e b g h4).v (star_cons h3 _ _) (star_cons h4 _ _) (by rw [star_cons h4]; rfl))) fun σ H Q q => ?_)
      obtain ⟨ρ, w, S, sb, eo, p⟩ := r2_read q
      refine ⟨ρ, w, S, sb, eo, p.imp fun x H1 ⟨ρ, w, S, sb, eo, p⟩ => ⟨ρ, w, S, sb, eo, p.imp fun y H2 ⟨d, e, S, w, c, sb, r1, r2, hc, k⟩ => ?_⟩⟩
      unfold lrngV at hc
      split at hc
      · rename_i i j
        split at hc
        · rename_i hb
          cases hc
          cases (show Rp S _ x from r1)
          cases (show Rp S _ y from r2)
          obtain ⟨b1, b2⟩ := bigB_of hb.1
          obtain ⟨b3, b4⟩ := bigB_of hb.2.1
          refine ⟨_, _, rfl, rfl, ⟨b1, b2, b3, b4, by have := hb.2.2; omega⟩, fun q hq => ?_⟩
          have e1 : rngL i (j - i).toNat = ((List.range (j - i).toNat).map fun k => i + (k : Nat)).map PyData.int := by
            apply List.ext_getElem?
            intro m
            by_cases hm : m < (j - i).toNat
            · rw [rngL_get _ _ _ hm]
              simp [hm]
            · rw [List.getElem?_eq_none (by rw [rngL_len]; omega), List.getElem?_eq_none (by simp; omega)]
          have e2 : rgV i j = ((List.range (j - i).toNat).map fun k => i + (k : Nat)).map V.int := by
            unfold rgV
            rw [List.map_map]
            rfl
          rw [e2]
          exact k.lst sb (by rw [e1]; exact Rps.ofInts _) q hq
        · cases hc
      · cases hc
    · cases h
  | .slS a lo st, X, Wx, sc, e, g, h => by
    unfold chkE at h
    split at h
    · simp only [Bool.and_eq_true] at h
      obtain ⟨⟨h1, h2⟩, h3⟩ := h
      refine EX.of (weakE (pe_sl3 (ok_e a g h1).v (ok_o lo g h2) (po_some (ok_e st g h3).v)) fun σ H Q q => ?_)
      obtain ⟨ρ, w, S, sb, eo, p⟩ := q
      dsimp only at p
      unfold evE at p
      refine ⟨ρ, w, S, sb, eo, (post.bind (R1 := RD) p).imp fun x H1 ⟨d, w1, S1, sb1, n1, r1, p1⟩ => ?_⟩
      refine ⟨ρ, w1, S1, sb1, eo.mono n1, (post.bind (R1 := RO) p1).imp fun l H2 ⟨l', w2, S2, sb2, n2, r2, p2⟩ => ?_⟩
      refine ⟨ρ, w2, S2, sb2, (eo.mono n1).mono n2, (post.bind (R1 := RD) p2).imp fun u H3 ⟨u', w3, S3, sb3, n3, r3, p3⟩ => ?_⟩
      cases r2
      split at p3
      · rename_i d k
        obtain ⟨z, hz, kk⟩ := p3.lif
        obtain ⟨c, hc, rfl⟩ := Option.map_eq_some_iff.mp hz
        cases (show Rp S3 _ u from r3)
        refine ⟨_, rfl, ?_⟩
        unfold slSD at hc
        split at hc
        · rename_i ds
          split at hc
          · rename_i hb
            cases hc
            cases ((show Rp S1 _ x from r1).mono n2.s).mono n3.s with
            | lst k1 k2 =>
              refine .inl ⟨_, _, rfl, SqL.of (sb3.lst k1), fun z => hb.1 (Option.some.inj z), ?_, Ans.lst (show Ans X.K S3 H3 w3 (.lst _) Q from kk) sb3 (k2.pickL l _)⟩
              rw [(k2.pickL l _).length]
              exact Nat.le_trans hb.2 line_le
          · cases hc
        · rename_i ds
          split at hc
          · rename_i hb
            cases hc
            obtain ⟨b1, b2, b3, b4⟩ := hb
            subst b1 b2
            cases ((show Rp S1 _ x from r1).mono n2.s).mono n3.s with
            | tup k1 k2 => exact .inr ⟨_, _, rfl, SqT.of (sb3.tup k1), rfl, rfl, Ans.tup (show Ans X.K S3 H3 w3 (.tup _) Q from kk) sb3 k2.reverse⟩
          · cases hc
        · cases hc
      · exact p3.elim
    · cases h
  | .isi a t, X, Wx, sc, e, g, h => by
    unfold chkE at h
    split at h
    · simp only [Bool.and_eq_true] at h
      obtain ⟨⟨h1, h2⟩, h3⟩ := h
      obtain ⟨e1, hg, hf⟩ := blt_of h1
      subst e1
      exact EX.of (isi_ok g (ok_e a g h2).v h2 h3 h1)
    · cases h
  | .ix a b, X, Wx, sc, e, g, h => by
    unfold chkE at h
    split at h
    · obtain ⟨h1, h2⟩ := bt h
      exact EX.of (weakE (pe_ix ix_V (ok_e a g h1).v (ok_e b g h2).v (plain_of h2)) fun σ H Q q => r2_read q)
    · cases h
  | .sl a lo hi, X, Wx, sc, e, g, h => by
    unfold chkE at h
    split at h
    · simp only [Bool.and_eq_true] at h
      obtain ⟨⟨h1, h2⟩, h3⟩ := h
      refine EX.of (weakE (pe_slice sl_V (ok_e a g h1).v (ok_o lo g h2) (ok_o hi g h3)) fun σ H Q q => ?_)
      obtain ⟨ρ, w, S, sb, eo, p⟩ := q
      dsimp only at p
      unfold evE at p
      refine ⟨ρ, w, S, sb, eo, (post.bind (R1 := RD) p).imp fun x H1 ⟨d, w1, S1, sb1, n1, r1, p1⟩ => ?_⟩
      refine ⟨ρ, w1, S1, sb1, eo.mono n1, (post.bind (R1 := RO) p1).imp fun l H2 ⟨l', w2, S2, sb2, n2, r2, p2⟩ => ?_⟩
      refine ⟨ρ, w2, S2, sb2, (eo.mono n1).mono n2, (post.bind (R1 := RO) p2).imp fun u H3 ⟨u', w3, S3, sb3, n3, r3, p3⟩ => ?_⟩
      cases r2
      cases r3
      cases d with
      | p d =>
        obtain ⟨z, hz, k⟩ := p3.lif
        obtain ⟨c, hc, rfl⟩ := Option.map_eq_some_iff.mp hz
        exact ⟨d, S3, w3, c, sb3, ((show Rp S1 d x from r1).mono n2.s).mono n3.s, hc, k⟩
      | exc c => exact p3.elim
      | drw => exact p3.elim
      | stp => exact p3.elim
      | scr a => exact p3.elim
    · cases h
  | .tup es, X, Wx, sc, e, g, h => by
    unfold chkE at h
    split at h
    · obtain ⟨h1, h2⟩ := bt h
      have h2 := of_decide_eq_true h2
      refine EX.of (weakE (pe_tup (ok_es es g h1)) fun σ H Q q => ?_)
      obtain ⟨ρ, w, S, sb, eo, p⟩ := q
      dsimp only at p
      unfold evE at p
      refine ⟨ρ, w, S, sb, eo, (post.bindE (R1 := RDs) p).imp fun x H1 ⟨ds, w1, S1, hr, sb1, n1, r1, p1⟩ => ?_⟩
      obtain ⟨z, hz, k⟩ := p1.lif
      obtain ⟨ps, hp, rfl⟩ := Option.map_eq_some_iff.mp hz
      exact ⟨by rw [r1.length, evEs_len h1 hr]; exact small_line h2, Ans.tup k sb1 (r1.plains hp)⟩
    · cases h
  | .lst es, X, Wx, sc, e, g, h => by
    unfold chkE at h
    split at h
    · obtain ⟨h1, h2⟩ := bt h
      have h2 := of_decide_eq_true h2
      refine EX.of (weakE (pe_lst (ok_es es g h1)) fun σ H Q q => ?_)
      obtain ⟨ρ, w, S, sb, eo, p⟩ := q
      dsimp only at p
      unfold evE at p
      refine ⟨ρ, w, S, sb, eo, (post.bindE (R1 := RDs) p).imp fun x H1 ⟨ds, w1, S1, hr, sb1, n1, r1, p1⟩ => ?_⟩
      obtain ⟨z, hz, k⟩ := p1.lif
      obtain ⟨ps, hp, rfl⟩ := Option.map_eq_some_iff.mp hz
      exact ⟨by rw [r1.length, evEs_len h1 hr]; exact small_line h2, Ans.lst k sb1 (r1.plains hp)⟩
    · cases h
  | .comp elt t it vs, X, Wx, sc, e, g, h => by
    unfold chkE at h
    split at h
    · rename_i x tg iter scope pos
      simp only [Bool.and_eq_true, decide_eq_true_eq] at h
      obtain ⟨⟨⟨⟨h1, h2⟩, h3⟩, h4⟩, h5⟩ := h
      have hbk := blkOk_by (sc := X.env.scope) (by rw [g.sc]; exact h1)
      obtain ⟨hi, hs⟩ := ok_i it g h2
      have hl := pe_lc (pos := pos) (g := gT X.K t) (tt := tYes) (te := lft X.K RD (fun ρ => evE φ ρ elt) fun _ _ _ _ => False) g.calm g.nd hi hbk (fun s H C cl fp => pg_of (X := X.blk s H _ (compEnvC _ cl C X.env) fp) (g.blk _ s H C cl fp).calm (g.blk _ s H C cl fp).nd (fun x hx => sto_blk x hx) h3)
        (fun s H C cl fp => pts_nil) (fun s H C cl fp => (ok_e elt (g.blk _ s H C cl fp) h5).v) hs
      rw [own_map] at hl
      refine EX.of (weakE hl fun σ H Q q => ?_)
      obtain ⟨ρ, w, S, sb, eo, p⟩ := lft.un (R1 := RI X.K) q
      refine ⟨ρ, w, S, sb, eo, p.imp fun J H1 ⟨xs, ρ, S, w, sb, eo, hJ, p⟩ D hD => ?_⟩
      split at p
      · rename_i hsz
        refine comp_read (tt := tYes) (te := lft X.K RD (fun ρ => evE φ ρ elt) fun _ _ _ _ => False) (step := fun ρ' w' => plainR (evE φ ρ' elt w')) sb eo hJ (of_decide_eq_true hsz) h4 (fun ρ' w S H σ2 o w' sb eo hs P k => ?_) (fun σ H Q Q' hq z => hq _ _ z) (fun σ H Q Q' hq z => lft.impE hq z) (comp_fin p).1 (comp_fin p).2 D hD
        obtain ⟨d, rfl, he⟩ := plainR_some hs
        unfold tYes
        dsimp only
        rw [if_pos rfl]
        refine ⟨ρ', w, S, sb, eo, ?_⟩
        dsimp only
        rw [he]
        exact fun S' H' v n s r => k S' H' (some v) n s r
      · exact p.elim
    · cases h
  | .compIf elt t it c vs, X, Wx, sc, e, g, h => by
    unfold chkE at h
    split at h
    · rename_i x tg iter y scope pos
      simp only [Bool.and_eq_true, decide_eq_true_eq] at h
      obtain ⟨⟨⟨⟨⟨h1, h2⟩, h3⟩, h4⟩, h5⟩, h6⟩ := h
      have hbk := blkOk_by (sc := X.env.scope) (by rw [g.sc]; exact h1)
      obtain ⟨hi, hs⟩ := ok_i it g h2
      have hl := pe_lc (pos := pos) (g := gT X.K t) (tt := lft X.K RB (fun ρ w => tst (evE φ ρ c w)) fun _ _ _ _ => False) (te := lft X.K RD (fun ρ => evE φ ρ elt) fun _ _ _ _ => False) g.calm g.nd hi hbk (fun s H C cl fp => pg_of (X := X.blk s H _ (compEnvC _ cl C X.env) fp) (g.blk _ s H C cl fp).calm (g.blk _ s H C cl fp).nd (fun x hx => sto_blk x hx) h3)
        (fun s H C cl fp => pts_one (ok_e c (g.blk _ s H C cl fp) h6).t) (fun s H C cl fp => (ok_e elt (g.blk _ s H C cl fp) h5).v) hs
      rw [own_map] at hl
      refine EX.of (weakE hl fun σ H Q q => ?_)
      obtain ⟨ρ, w, S, sb, eo, p⟩ := lft.un (R1 := RI X.K) q
      refine ⟨ρ, w, S, sb, eo, p.imp fun J H1 ⟨xs, ρ, S, w, sb, eo, hJ, p⟩ D hD => ?_⟩
      split at p
      · rename_i hsz
        refine comp_read (tt := lft X.K RB (fun ρ w => tst (evE φ ρ c w)) fun _ _ _ _ => False) (te := lft X.K RD (fun ρ => evE φ ρ elt) fun _ _ _ _ => False) sb eo hJ (of_decide_eq_true hsz) h4 (fun ρ' w S H σ2 o w' sb eo hs P k => ?_) (fun σ H Q Q' hq z => lft.impE hq z) (fun σ H Q Q' hq z => lft.impE hq z) (comp_fin p).1 (comp_fin p).2 D hD
        obtain ⟨b, w1, hb, h2⟩ := bind_ok hs
        refine ⟨ρ', w, S, sb, eo, ?_⟩
        dsimp only
        rw [hb]
        intro S' H' v n s r
        cases r
        cases b with
        | true =>
          obtain ⟨d, rfl, he⟩ := plainR_some h2
          rw [if_pos rfl]
          refine ⟨ρ', w1, S', s, eo.mono n, ?_⟩
          dsimp only
          rw [he]
          exact fun S' H' v n' s r => k S' H' (some v) (n.trans n') s r
        | false =>
          cases h2
          rw [if_neg Bool.false_ne_true]
          exact k S' H' none n s trivial
      · exact p.elim
    · cases h
  | .lenO i, X, Wx, sc, e, g, h => by
    unfold chkE at h
    split at h
    · simp only [Bool.and_eq_true, decide_eq_true_eq] at h
      obtain ⟨⟨⟨h1, h2⟩, h3⟩, h4⟩ := h
      obtain ⟨e1, hg, hf⟩ := blt_of h1
      subst e1
      obtain ⟨n1, n2⟩ := okN_of h4
      refine EX.of (weakE (pe_callB call_len_seq (g.gl hg) (g.frees _ hf) PySem.boot_len (pa_cons (pe_var h2 (g.vis h3) n1 n2) pa_nil)) fun σ H Q q => ?_)
      obtain ⟨ρ, w, S, sb, eo, p⟩ := q
      dsimp only at p
      unfold evE at p
      obtain ⟨d, hd, k⟩ := p.lif
      obtain ⟨l, hl, rfl⟩ := Option.map_eq_some_iff.mp hd
      obtain ⟨a, xs, h5, h6, h7, r⟩ := eo.own i l hl
      refine ⟨_, h5, a, xs, rfl, .inl (SqL.of h7), ?_⟩
      rw [r.length]
      exact k _ _ _ (Nxt.refl _ _) sb (.int _)
    · cases h
  | .ixO i b, X, Wx, sc, e, g, h => by
    unfold chkE at h
    split at h
    · simp only [Bool.and_eq_true, decide_eq_true_eq] at h
      obtain ⟨⟨⟨h1, h2⟩, h3⟩, h4⟩ := h
      obtain ⟨n1, n2⟩ := okN_of h3
      refine EX.of (weakE (pe_ix ix_list (pe_var h1 (g.vis h2) n1 n2) (ok_e b g h4).v (plain_of h4)) fun σ H Q q => ?_)
      obtain ⟨ρ, w, S, sb, eo, p⟩ := q
      dsimp only at p
      unfold evE at p
      cases hO : getO ρ i with
      | none => rw [hO] at p; exact p.elim
      | some l =>
        obtain ⟨a, xs, h5, h6, h7, r⟩ := eo.own i l hO
        rw [hO] at p
        refine ⟨_, h5, ρ, w, S, sb, eo, (post.bind (R1 := RD) p).imp fun y H1 ⟨d, w1, S1, sb1, n1, r1, p1⟩ => ?_⟩
        split at p1
        · obtain ⟨z, hz, k⟩ := p1.lif
          obtain ⟨c, hc, rfl⟩ := Option.map_eq_some_iff.mp hz
          cases (show Rp S1 _ y from r1)
          obtain ⟨hh, _⟩ := n1.k a _ h6 h7
          obtain ⟨v, hv, rv⟩ := (r.mono n1.s).atI hc
          exact ⟨a, xs, _, v, rfl, rfl, SqL.of hh, hv, k _ _ _ (Nxt.refl _ _) sb1 rv⟩
        · exact p1.elim
    · cases h
  | .ninO a i, X, Wx, sc, e, g, h => by
    unfold chkE at h
    split at h
    · simp only [Bool.and_eq_true, decide_eq_true_eq] at h
      obtain ⟨⟨⟨h1, h2⟩, h3⟩, h4⟩ := h
      obtain ⟨n1, n2⟩ := okN_of h4
      have rd : ∀ {σ : St} {H : Hp} {Q : VK}, lft X.K RD (fun ρ => evE φ ρ (.ninO a i)) Wx σ H Q → tOp (rNotInD X.K) (lft X.K RD (fun ρ => evE φ ρ a) Wx) (tVar i) σ H Q := by
        intro σ H Q q
        obtain ⟨ρ, w, S, sb, eo, p⟩ := q
        dsimp only at p
        unfold evE at p
        refine ⟨ρ, w, S, sb, eo, (post.bind (R1 := RD) p).imp fun y H1 ⟨d, w1, S1, sb1, n1, r1, p1⟩ => ?_⟩
        split at p1
        · rename_i l d' hO
          obtain ⟨z, hz, k⟩ := p1.lif
          obtain ⟨c, hc, rfl⟩ := Option.map_eq_some_iff.mp hz
          obtain ⟨b, xs, h5, h6, h7, r⟩ := (eo.mono n1).own i l hO
          unfold cmpD at hc
          simp only at hc
          split at hc
          · rename_i hs
            cases hc
            exact ⟨_, h5, _, _, (show Rp S1 _ y from r1).dp sb1, .lst (SqL.of h7) (r.dp sb1), hs.1, hs.2, k _ _ _ (Nxt.refl _ _) sb1 (.bl _)⟩
          · cases hc
        · exact p1.elim
      exact ⟨weakE (pe_cmpR (op_notInD g.un) (ok_e a g h1).v (pe_var h2 (g.vis h3) n1 n2) rfl) fun σ H Q q => rd q, weakT (pt_cmpR (op_notInD g.un) (ok_e a g h1).v (pe_var h2 (g.vis h3) n1 n2) rfl) fun σ H Q q => rd (tst_lift q), trivial⟩
    · cases h
theorem ok_js : ∀ (es : MEs Fn) {X : Cx} {Wx : WX} {sc : Scope} {ys : List Expr}, XG Γ φ X Wx sc → fsB es = true → chkEs Γ X.N sc es ys = true → PJs X Wx φ es ys
  | .nil, X, Wx, sc, ys, g, hf, h => by
    cases ys with
    | cons y ys => simp [chkEs] at h
    | nil =>
      refine ⟨[], .nil, fun acc σ H Q _ q => ?_⟩
      obtain ⟨ρ, w, S, sb, eo, p⟩ := q
      dsimp only at p
      unfold evEs at p
      obtain ⟨l, out, e1, e2, e3⟩ := p _ _ _ (Nxt.refl _ _) sb .nil
      cases l with
      | nil =>
        cases e2
        exact e3
      | cons y l => cases e1
  | .cons m ms, X, Wx, sc, ys, g, hf, h => by
    cases ys with
    | nil => simp [chkEs] at h
    | cons y ys =>
      unfold chkEs at h
      obtain ⟨h1, h2⟩ := bt h
      have hf2 : fsB ms = true := by
        cases m <;> unfold fsB at hf <;> first | exact hf | exact (bt hf).2 | cases hf
      obtain ⟨ts, hj, hq⟩ := ok_js ms g hf2 h2
      refine ⟨_, .cons (ok_e m g h1).v hj, fun acc σ H Q hl q => ?_⟩
      rw [List.length_cons] at hl
      obtain ⟨ρ, w, S, sb, eo, p⟩ := q
      dsimp only at p
      unfold evEs at p
      refine ⟨ρ, w, S, sb, eo, (post.bindE (R1 := RD) p).imp fun x H1 ⟨d, w1, S1, hr, sb1, n1, r1, p1⟩ => ?_⟩
      obtain ⟨_, z, rfl, hz⟩ := part_str hf hr
      cases (show Rp S1 _ x from r1)
      have la : (acc ++ z).length = acc.length + z.length := Array.size_append
      refine ⟨z, rfl, by rw [la]; exact Nat.le_trans (show _ ≤ 16000000 by omega) line_le, hq _ _ _ _ (by rw [la]; omega) ?_⟩
      refine ⟨ρ, w1, S1, sb1, eo.mono n1, (post.bind (R1 := RDs) p1).imp fun xs H2 ⟨ds, w2, S2, sb2, n2, r2, p2⟩ => ?_⟩
      obtain ⟨l, out, e1, e2, e3⟩ := p2 _ _ _ (Nxt.refl _ _) sb2 (.cons (r1.mono n2.s) r2)
      cases l with
      | nil => cases e1
      | cons z' l =>
        rw [List.map_cons] at e1
        injection e1 with e4 e5
        injection e4 with e6
        subst e6
        unfold catL at e2
        split at e2
        · exact ⟨l, out, e5, e2, e3⟩
        · cases e2
theorem ok_es : ∀ (es : MEs Fn) {X : Cx} {Wx : WX} {sc : Scope} {ys : List Expr}, XG Γ φ X Wx sc → chkEs Γ X.N sc es ys = true → PA X ys (lft X.K RDs (fun ρ => evEs φ ρ es) Wx)
  | .nil, X, Wx, sc, ys, g, h => by
    cases ys with
    | cons y ys => simp [chkEs] at h
    | nil =>
      refine weakA pa_nil fun σ H Q q => ?_
      obtain ⟨ρ, w, S, sb, eo, p⟩ := q
      dsimp only at p
      unfold evEs at p
      exact p _ _ _ (Nxt.refl _ _) sb .nil
  | .cons m ms, X, Wx, sc, ys, g, h => by
    cases ys with
    | nil => simp [chkEs] at h
    | cons y ys =>
      unfold chkEs at h
      obtain ⟨h1, h2⟩ := bt h
      refine weakA (pa_cons (ok_e m g h1).v (ok_es ms g h2) (star_cons h1 _ _)) fun σ H Q q => ?_
      obtain ⟨ρ, w, S, sb, eo, p⟩ := q
      dsimp only at p
      unfold evEs at p
      refine ⟨ρ, w, S, sb, eo, (post.bind (R1 := RD) p).imp fun x H1 ⟨d, w1, S1, sb1, n1, r1, p1⟩ => ?_⟩
      refine ⟨ρ, w1, S1, sb1, eo.mono n1, (post.bind (R1 := RDs) p1).imp fun xs H2 ⟨ds, w2, S2, sb2, n2, r2, p2⟩ => ?_⟩
      exact p2 _ _ _ (Nxt.refl _ _) sb2 (.cons (r1.mono n2.s) r2)
theorem ok_i : ∀ (it : MI Fn) {X : Cx} {Wx : WX} {sc : Scope} {tg e : Expr}, XG Γ φ X Wx sc → chkI Γ X.N sc it tg e = true → PI X tg e (lft X.K (RI X.K) (fun ρ => evI φ ρ it) Wx) ∧ ∀ x, foldedSetIterable e X.env x = pure x
  | .seq m, X, Wx, sc, tg, e, g, h => by
    unfold chkI at h
    exact ⟨seq_read (ok_e m g h).v, fold_of h _⟩
  | .range1 a, X, Wx, sc, tg, e, g, h => by
    unfold chkI at h
    split at h
    · obtain ⟨h1, h2⟩ := bt h
      obtain ⟨e1, hg, hf⟩ := blt_of h1
      subst e1
      refine ⟨weakI (pi_range1 (g.gl hg) (g.frees _ hf) (pa_cons (ok_e a g h2).v pa_nil (star_cons h2 _ _)) (star_cons h2 _ _)) fun σ H R q => ?_, fun _ => rfl⟩
      obtain ⟨ρ, w, S, sb, eo, p⟩ := q
      dsimp only at p
      unfold evI at p
      refine ⟨ρ, w, S, sb, eo, (post.bind (R1 := RD) p).imp fun x H1 ⟨d, w1, S1, sb1, n1, r1, p1⟩ => ?_⟩
      obtain ⟨xs, hx, k⟩ := p1.lif
      unfold rngD1 at hx
      split at hx
      · split at hx
        · rename_i hb
          cases hx
          cases (show Rp S1 _ x from r1)
          exact ⟨_, rfl, (bigB_of hb).1, (bigB_of hb).2, k _ _ _ (Nxt.refl _ _) sb1 (RI.range 0 _)⟩
        · cases hx
      · cases hx
    · cases h
  | .range2 a b, X, Wx, sc, tg, e, g, h => by
    unfold chkI at h
    split at h
    · simp only [Bool.and_eq_true] at h
      obtain ⟨⟨h1, h2⟩, h3⟩ := h
      obtain ⟨e1, hg, hf⟩ := blt_of h1
      subst e1
      refine ⟨weakI (pi_range2 (g.gl hg) (g.frees _ hf) (pa_cons (ok_e a g h2).v (pa_cons (ok_e b g h3).v pa_nil (star_cons h3 _ _)) (star_cons h2 _ _)) (by rw [star_cons h2, star_cons h3]; rfl) (star_cons h3 _ _)) fun σ H R q => ?_, fun _ => rfl⟩
      obtain ⟨ρ, w, S, sb, eo, p⟩ := q
      dsimp only at p
      unfold evI at p
      refine ⟨ρ, w, S, sb, eo, (post.bind (R1 := RD) p).imp fun x H1 ⟨d, w1, S1, sb1, n1, r1, p1⟩ => ?_⟩
      refine ⟨ρ, w1, S1, sb1, eo.mono n1, (post.bind (R1 := RD) p1).imp fun y H2 ⟨d2, w2, S2, sb2, n2, r2, p2⟩ => ?_⟩
      obtain ⟨xs, hx, k⟩ := p2.lif
      unfold rngD2 at hx
      split at hx
      · split at hx
        · rename_i hb
          cases hx
          cases (show Rp S1 _ x from r1)
          cases (show Rp S2 _ y from r2)
          exact ⟨_, _, rfl, ⟨(bigB_of hb.1).1, (bigB_of hb.1).2, (bigB_of hb.2).1, (bigB_of hb.2).2⟩, k _ _ _ (Nxt.refl _ _) sb2 (RI.range _ _)⟩
        · cases hx
      · cases hx
    · cases h
  | .range3 a b c, X, Wx, sc, tg, e, g, h => by
    unfold chkI at h
    split at h
    · simp only [Bool.and_eq_true] at h
      obtain ⟨⟨⟨h1, h2⟩, h3⟩, h4⟩ := h
      obtain ⟨e1, hg, hf⟩ := blt_of h1
      subst e1
      refine ⟨weakI (pi_range3 (g.gl hg) (g.frees _ hf) (pa_cons (ok_e a g h2).v (pa_cons (ok_e b g h3).v (pa_cons (ok_e c g h4).v pa_nil (star_cons h4 _ _)) (star_cons h3 _ _)) (star_cons h2 _ _)) (star_cons h2 _ _) (by rw [star_cons h3, star_cons h4]; rfl)) fun σ H R q => ?_, fun _ => rfl⟩
      obtain ⟨ρ, w, S, sb, eo, p⟩ := q
      dsimp only at p
      unfold evI at p
      refine ⟨ρ, w, S, sb, eo, (post.bind (R1 := RD) p).imp fun x H1 ⟨d, w1, S1, sb1, n1, r1, p1⟩ => ?_⟩
      refine ⟨ρ, w1, S1, sb1, eo.mono n1, (post.bind (R1 := RD) p1).imp fun y H2 ⟨d2, w2, S2, sb2, n2, r2, p2⟩ => ?_⟩
      refine ⟨ρ, w2, S2, sb2, (eo.mono n1).mono n2, (post.bind (R1 := RD) p2).imp fun z H3 ⟨d3, w3, S3, sb3, n3, r3, p3⟩ => ?_⟩
      obtain ⟨xs, hx, k⟩ := p3.lif
      unfold rngD3 at hx
      split at hx
      · split at hx
        · rename_i hb
          cases hx
          cases (show Rp S1 _ x from r1)
          cases (show Rp S2 _ y from r2)
          cases (show Rp S3 _ z from r3)
          obtain ⟨b1, b2, b3⟩ := hb
          subst b3
          exact ⟨_, _, _, _, rfl, RgC.neg (bigB_of b1).1 (bigB_of b1).2 (bigB_of b2).1 (bigB_of b2).2, k _ _ _ (Nxt.refl _ _) sb3 (RI.rangeDn _ _)⟩
        · cases hx
      · cases hx
    · cases h
  | .enum m, X, Wx, sc, tg, e, g, h => by
    unfold chkI at h
    split at h
    · simp only [Bool.and_eq_true] at h
      obtain ⟨⟨h0, h1⟩, h2⟩ := h
      obtain ⟨e1, hg, hf⟩ := blt_of h1
      subst e1
      cases tg with
      | Tuple elts kk tpos =>
        refine ⟨weakI (pi_enum (g.gl hg) (g.frees _ hf) (pa_cons (ok_e m g h2).v pa_nil (star_cons h2 _ _)) (star_cons h2 _ _)) fun σ H R q => ?_, fun _ => rfl⟩
        obtain ⟨ρ, w, S, sb, eo, p⟩ := q
        dsimp only at p
        unfold evI at p
        refine ⟨ρ, w, S, sb, eo, (post.bind (R1 := RD) p).imp fun x H1 ⟨d, w1, S1, sb1, n1, r1, p1⟩ => ?_⟩
        obtain ⟨xs, hx, k⟩ := p1.lif
        unfold enumD at hx
        split at hx
        · cases hx
          cases (show Rp S1 _ x from r1) with
          | lst h3 q3 => exact ⟨_, _, rfl, SqL.of (sb1.lst h3), k _ _ _ (Nxt.refl _ _) sb1 (RI.enum h3 q3)⟩
        · cases hx
      | _ => cases h0
    · cases h
  | .zip a b, X, Wx, sc, tg, e, g, h => by
    unfold chkI at h
    split at h
    · simp only [Bool.and_eq_true] at h
      obtain ⟨⟨⟨h0, h1⟩, h2⟩, h3⟩ := h
      obtain ⟨e1, hg, hf⟩ := blt_of h1
      subst e1
      cases tg with
      | Tuple elts kk tpos =>
        refine ⟨weakI (pi_zip (g.gl hg) (g.frees _ hf) (pa_cons (ok_e a g h2).v (pa_cons (ok_e b g h3).v pa_nil (star_cons h3 _ _)) (star_cons h2 _ _)) (star_cons h2 _ _) (by rw [star_cons h3]; rfl)) fun σ H R q => ?_, fun _ => rfl⟩
        obtain ⟨ρ, w, S, sb, eo, p⟩ := q
        dsimp only at p
        unfold evI at p
        refine ⟨ρ, w, S, sb, eo, (post.bind (R1 := RD) p).imp fun x H1 ⟨d, w1, S1, sb1, n1, r1, p1⟩ => ?_⟩
        refine ⟨ρ, w1, S1, sb1, eo.mono n1, (post.bind (R1 := RD) p1).imp fun y H2 ⟨d2, w2, S2, sb2, n2, r2, p2⟩ => ?_⟩
        obtain ⟨xs, hx, k⟩ := p2.lif
        unfold zipD at hx
        split at hx
        · cases hx
          have r1' := (show Rp S1 _ x from r1).mono n2.s
          cases r1' with
          | lst h4 q4 =>
            cases (show Rp S2 _ y from r2) with
            | lst h5 q5 => exact ⟨_, _, _, _, rfl, SqL.of (sb2.lst h4), SqL.of (sb2.lst h5), k _ _ _ (Nxt.refl _ _) sb2 (RI.zip h4 q4 h5 q5)⟩
        · cases hx
      | _ => cases h0
    · cases h
theorem ok_o : ∀ (o : MO Fn) {X : Cx} {Wx : WX} {sc : Scope} {e : Option Expr}, XG Γ φ X Wx sc → chkO Γ X.N sc o e = true → PO X e (lft X.K RO (fun ρ => evO φ ρ o) Wx)
  | .non, X, Wx, sc, e, g, h => by
    cases e with
    | some e => simp [chkO] at h
    | none =>
      refine weakO po_none fun σ H Q q => ?_
      obtain ⟨ρ, w, S, sb, eo, p⟩ := q
      dsimp only at p
      unfold evO at p
      exact p _ _ _ (Nxt.refl _ _) sb rfl
  | .some m, X, Wx, sc, e, g, h => by
    cases e with
    | none => simp [chkO] at h
    | some e =>
      unfold chkO at h
      refine weakO (po_some (ok_e m g h).v) fun σ H Q q => ?_
      obtain ⟨ρ, w, S, sb, eo, p⟩ := q
      dsimp only at p
      unfold evO at p
      refine ⟨ρ, w, S, sb, eo, (post.bind (R1 := RD) p).imp fun x H1 ⟨d, w1, S1, sb1, n1, r1, p1⟩ => ?_⟩
      split at p1
      · cases (show Rp S1 _ x from r1)
        exact ⟨_, rfl, p1 _ _ _ (Nxt.refl _ _) sb1 rfl⟩
      · exact p1.elim
end

/-! ### comprehensions as new lists -/
/-- a new list is wanted, that nothing else holds -/
def postF (K : PySem.W.Frag) (S : GH) (H : Hp) (r : Res D) (Q : VK) (E : Nat → Hp → Prop) : Prop :=
  match r with
  | .ok (.p (.list ds)) w => ∀ S' H' a xs, Nxt S H S' H' → Sub K S' H' w → H a = none → S' a = none → H' a = some (.lst xs) → Rps S' ds xs → Q (.ref a) H'
  | .ok _ _ => False
  | .exc c w => ∀ S' H', Nxt S H S' H' → Sub K S' H' w → E c H'
  | .stk => False
def lftF (K : PySem.W.Frag) (f : Env → W → Res D) (Wx : WX) : TE := fun σ H Q => ∃ ρ w S, Sub K S H w ∧ EOk S H ρ σ ∧ postF K S H (f ρ w) Q fun c H' => Wx (.ref (excA K c)) none σ H'
theorem postF_of {K : PySem.W.Frag} {S : GH} {H : Hp} {r : Res D} {Q : VK} {E : Nat → Hp → Prop} (p : post K RD S H r Q E) (h : ∀ d w, r = .ok d w → ∃ ds, d = .lst ds) : postF K S H r Q E := by
  cases r with
  | ok d w =>
    obtain ⟨ds, rfl⟩ := h d w rfl
    intro S' H' a xs nx sb ha na hacc ra
    have p : ∀ S' H' v, Nxt S H S' H' → Sub K S' H' w → RD S' (.lst ds) v → Q v H' := p
    refine p _ _ _ ⟨fun b o h => LeG.upd na b o (nx.s b o h), fun b o nb hb => ?_⟩ (sb.addL na hacc) (Rp.lst updG_same (ra.mono (LeG.upd na)))
    have hne : b ≠ a := by rintro rfl; rw [ha] at hb; cases hb
    obtain ⟨k1, k2⟩ := nx.k b o nb hb
    exact ⟨k1, by rw [updG_ne hne]; exact k2⟩
  | exc c w => exact p
  | stk => exact p
/-- a comprehension's parts -/
def CompP (X : Cx) (Wx : WX) (f : Env → W → Res D) (e : Expr) : Prop := ∃ (x tg iter : Expr) (ifs : List Expr) (scope : Scope) (pos : Pos) (own : List (Str × Nat)) (wi : TI) (gg : TG) (tt : TT) (te : TE),
  e = .ListComp x [⟨tg, iter, ifs, 0⟩] scope pos ∧ PI X tg iter wi ∧ BlkOk X.N X.env.scope scope own ∧
  (∀ (s : Shared) (H : Hp) (C : Addr) (cl : List (Str × Addr)) (fp : List Addr), PG (X.blk s H scope (compEnvC scope cl C X.env) fp) tg gg) ∧
  (∀ (s : Shared) (H : Hp) (C : Addr) (cl : List (Str × Addr)) (fp : List Addr), PTs (X.blk s H scope (compEnvC scope cl C X.env) fp) ifs tt) ∧
  (∀ (s : Shared) (H : Hp) (C : Addr) (cl : List (Str × Addr)) (fp : List Addr), PE (X.blk s H scope (compEnvC scope cl C X.env) fp) x te) ∧
  (∀ x, foldedSetIterable iter X.env x = pure x) ∧ ∀ σ H Q, lftF X.K f Wx σ H Q → tLc wi gg tt te (own.map (·.2)) σ H Q
theorem lstOut {r : Res (List PyData)} {d : D} {w : W} (h : (r.bind fun ys w2 => Res.ok (.lst ys) w2) = .ok d w) : ∃ ys, r = .ok ys w ∧ d = .lst ys := by
  obtain ⟨a, w1, h1, h2⟩ := bind_ok h
  cases h2
  exact ⟨a, h1, rfl⟩
/-- the two stages of a comprehension's reading -/
theorem compF {K : PySem.W.Frag} {Wx : WX} {fi : Env → W → Res (List PyData)} {go : Env → List PyData → W → Res (List PyData)} {σ : St} {H : Hp} {Q : VK}
    (h : lftF K (fun ρ w => (fi ρ w).bind fun xs w1 => if sizeOk xs.length = true then (go ρ xs w1).bind fun ys w2 => .ok (.lst ys) w2 else .stk) Wx σ H Q) (hx : ∀ ρ xs w c w', go ρ xs w ≠ .exc c w') :
    lft K (RI K) fi Wx σ H fun J H1 => ∃ xs ρ S w, Sub K S H1 w ∧ EOk S H1 ρ σ ∧ RI K S xs J ∧ xs.length ≤ 16000000 ∧ go ρ xs w ≠ .stk ∧
      ∀ ys w2, go ρ xs w = .ok ys w2 → ∀ S' H' a acc, Nxt S H1 S' H' → Sub K S' H' w2 → H1 a = none → S' a = none → H' a = some (.lst acc) → Rps S' ys acc → Q (.ref a) H' := by
  obtain ⟨ρ, w, S, sb, eo, p⟩ := h
  refine ⟨ρ, w, S, sb, eo, ?_⟩
  dsimp only at p
  cases hr : fi ρ w with
  | exc c w1 => rw [hr] at p; exact p
  | stk => rw [hr] at p; exact p.elim
  | ok xs w1 =>
    rw [hr] at p
    have p : postF K S H (if sizeOk xs.length = true then (go ρ xs w1).bind fun ys w2 => .ok (.lst ys) w2 else .stk) Q _ := p
    intro S1 H1 J n1 sb1 hJ
    split at p
    · rename_i hsz
      refine ⟨xs, ρ, S1, w1, sb1, eo.mono n1, hJ, of_decide_eq_true hsz, fun z => ?_, fun ys w2 hg S' H' a acc nx sb' ha na hacc ra => ?_⟩
      · rw [z] at p; exact p.elim
      · rw [hg] at p
        refine p S' H' a acc (n1.trans nx) sb' ?_ na hacc ra
        cases e : H a with
        | none => rfl
        | some o =>
          cases es : S a with
          | none => rw [(n1.k a o es e).1] at ha; cases ha
          | some u =>
            have z := (n1.trans nx).s a u es
            rw [na] at z
            cases z
    · exact p.elim
theorem comp_parts {X : Cx} {Wx : WX} {sc : Scope} {e : Expr} {elt : ME Fn} {t : MT} {it : MI Fn} {vs : List Nat} (g : XG Γ φ X Wx sc) (h : chkE Γ X.N sc (.comp elt t it vs) e = true) : CompP X Wx (fun ρ => evE φ ρ (.comp elt t it vs)) e := by
  unfold chkE at h
  split at h
  · rename_i x tg iter scope pos
    simp only [Bool.and_eq_true, decide_eq_true_eq] at h
    obtain ⟨⟨⟨⟨h1, h2⟩, h3⟩, h4⟩, h5⟩ := h
    have hbk := blkOk_by (sc := X.env.scope) (by rw [g.sc]; exact h1)
    obtain ⟨hi, hs⟩ := ok_i it g h2
    refine ⟨x, tg, iter, [], scope, pos, _, _, gT X.K t, tYes, lft X.K RD (fun ρ => evE φ ρ elt) fun _ _ _ _ => False, rfl, hi, hbk, fun s H C cl fp => pg_of (X := X.blk s H _ (compEnvC _ cl C X.env) fp) (g.blk _ s H C cl fp).calm (g.blk _ s H C cl fp).nd (fun x hx => sto_blk x hx) h3,
      fun s H C cl fp => pts_nil, fun s H C cl fp => (ok_e elt (g.blk _ s H C cl fp) h5).v, hs, fun σ H Q q => ?_⟩
    rw [own_map]
    have q' := compF (go := fun ρ xs w1 => compGo (fun ρ' w' => plainR (evE φ ρ' elt w')) (wipeE (noOwn ρ) vs) t xs w1) q (fun _ _ _ _ _ => compGo_exc)
    obtain ⟨ρ, w, S, sb, eo, p⟩ := q'
    refine ⟨ρ, w, S, sb, eo, p.imp fun J H1 ⟨xs, ρ, S, w, sb, eo, hJ, hsz, p1, p2⟩ D hD => ?_⟩
    refine comp_read (tt := tYes) (te := lft X.K RD (fun ρ => evE φ ρ elt) fun _ _ _ _ => False) (step := fun ρ' w' => plainR (evE φ ρ' elt w')) sb eo hJ hsz h4 (fun ρ' w S H σ2 o w' sb eo hs P k => ?_) (fun σ H Q Q' hq z => hq _ _ z) (fun σ H Q Q' hq z => lft.impE hq z) p1 p2 D hD
    obtain ⟨d, rfl, he⟩ := plainR_some hs
    unfold tYes
    dsimp only
    rw [if_pos rfl]
    refine ⟨ρ', w, S, sb, eo, ?_⟩
    dsimp only
    rw [he]
    exact fun S' H' v n s r => k S' H' (some v) n s r
  · cases h
theorem compIf_parts {X : Cx} {Wx : WX} {sc : Scope} {e : Expr} {elt c : ME Fn} {t : MT} {it : MI Fn} {vs : List Nat} (g : XG Γ φ X Wx sc) (h : chkE Γ X.N sc (.compIf elt t it c vs) e = true) : CompP X Wx (fun ρ => evE φ ρ (.compIf elt t it c vs)) e := by
  unfold chkE at h
  split at h
  · rename_i x tg iter y scope pos
    simp only [Bool.and_eq_true, decide_eq_true_eq] at h
    obtain ⟨⟨⟨⟨⟨h1, h2⟩, h3⟩, h4⟩, h5⟩, h6⟩ := h
    have hbk := blkOk_by (sc := X.env.scope) (by rw [g.sc]; exact h1)
    obtain ⟨hi, hs⟩ := ok_i it g h2
    refine ⟨x, tg, iter, [y], scope, pos, _, _, gT X.K t, lft X.K RB (fun ρ w => tst (evE φ ρ c w)) fun _ _ _ _ => False, lft X.K RD (fun ρ => evE φ ρ elt) fun _ _ _ _ => False, rfl, hi, hbk, fun s H C cl fp => pg_of (X := X.blk s H _ (compEnvC _ cl C X.env) fp) (g.blk _ s H C cl fp).calm (g.blk _ s H C cl fp).nd (fun x hx => sto_blk x hx) h3,
      fun s H C cl fp => pts_one (ok_e c (g.blk _ s H C cl fp) h6).t, fun s H C cl fp => (ok_e elt (g.blk _ s H C cl fp) h5).v, hs, fun σ H Q q => ?_⟩
    rw [own_map]
    have q' := compF (go := fun ρ xs w1 => compGo (fun ρ' w' => (tst (evE φ ρ' c w')).bind fun b w'' => match b with
        | true => plainR (evE φ ρ' elt w'')
        | false => .ok none w'') (wipeE (noOwn ρ) vs) t xs w1) q (fun _ _ _ _ _ => compGo_exc)
    obtain ⟨ρ, w, S, sb, eo, p⟩ := q'
    refine ⟨ρ, w, S, sb, eo, p.imp fun J H1 ⟨xs, ρ, S, w, sb, eo, hJ, hsz, p1, p2⟩ D hD => ?_⟩
    refine comp_read (tt := lft X.K RB (fun ρ w => tst (evE φ ρ c w)) fun _ _ _ _ => False) (te := lft X.K RD (fun ρ => evE φ ρ elt) fun _ _ _ _ => False) sb eo hJ hsz h4 (fun ρ' w S H σ2 o w' sb eo hs P k => ?_) (fun σ H Q Q' hq z => lft.impE hq z) (fun σ H Q Q' hq z => lft.impE hq z) p1 p2 D hD
    obtain ⟨b, w1, hb, h2⟩ := bind_ok hs
    refine ⟨ρ', w, S, sb, eo, ?_⟩
    dsimp only
    rw [hb]
    intro S' H' v n s r
    cases r
    cases b with
    | true =>
      obtain ⟨d, rfl, he⟩ := plainR_some h2
      rw [if_pos rfl]
      refine ⟨ρ', w1, S', s, eo.mono n, ?_⟩
      dsimp only
      rw [he]
      exact fun S' H' v n' s r => k S' H' (some v) (n.trans n') s r
    | false =>
      cases h2
      rw [if_neg Bool.false_ne_true]
      exact k S' H' none n s trivial
  · cases h
end
end Ev

end

section
/-! EvI: statements. -/
namespace Ev
open PySem PySem.Spec PyProof.Rows L2

/-! ### the state of a body -/
structure St4 (K : PySem.W.Frag) (S0 : GH) (H0 : Hp) (S : GH) (H : Hp) (w : W) (σ : St) (ρ : Env) : Prop where
  n : Nxt S0 H0 S H
  sb : Sub K S H w
  e : EOk S H ρ σ
  new : ∀ i ds a, getO ρ i = some ds → σ[i]? = some (some (.ref a)) → H0 a = none
def postO (K : PySem.W.Frag) (S0 : GH) (H0 : Hp) (o : Out) (D : Ends) (E : Nat → St → Hp → Prop) : Prop :=
  match o with
  | .next ρ w => ∀ S H σ, St4 K S0 H0 S H w σ ρ → D.nx σ H
  | .ret d w => ∀ S H v, Nxt S0 H0 S H → Sub K S H w → RD S d v → D.rt v H
  | .brk ρ w => ∀ S H σ, St4 K S0 H0 S H w σ ρ → D.bk σ H
  | .cont ρ w => ∀ S H σ, St4 K S0 H0 S H w σ ρ → D.ct σ H
  | .exc c ρ w => ∀ S H σ, St4 K S0 H0 S H w σ ρ → E c σ H
  | .stk => False
abbrev wE (K : PySem.W.Frag) (Wx : WX) : Nat → St → Hp → Prop := fun c σ H => Wx (.ref (excA K c)) none σ H
def lftS (K : PySem.W.Frag) (f : Env → W → Out) (Wx : WX) (S0 : GH) (H0 : Hp) : TS := fun D σ H => ∃ ρ w S, St4 K S0 H0 S H w σ ρ ∧ postO K S0 H0 (f ρ w) D (wE K Wx)
section
variable {K : PySem.W.Frag} {S0 : GH} {H0 : Hp} {S S1 : GH} {H H1 : Hp} {w w1 : W} {σ : St} {ρ : Env} {Dn : Ends} {E : Nat → St → Hp → Prop}
theorem St4.step (s : St4 K S0 H0 S H w σ ρ) (n : Nxt S H S1 H1) (sb : Sub K S1 H1 w1) : St4 K S0 H0 S1 H1 w1 σ ρ := ⟨s.n.trans n, sb, s.e.mono n, s.new⟩
theorem St4.setV {d : D} {v : V} {i : Nat} (s : St4 K S0 H0 S H w σ ρ) (r : RD S d v) : St4 K S0 H0 S H w (σ.set i (some v)) (setV ρ i d) := by
  refine ⟨s.n, s.sb, s.e.setV r, fun j ds a h1 h2 => ?_⟩
  unfold Ev.setV at h1
  rw [getO_set] at h1
  split at h1
  · split at h1 <;> cases h1
  · rename_i z
    rw [List.getElem?_set_ne z] at h2
    exact s.new j ds a h1 h2
theorem Nxt.old {a : Addr} (n : Nxt S0 H0 S H) (sb : Sub K S H w) (h : H a = none) : H0 a = none := by
  cases e : H0 a with
  | none => rfl
  | some o =>
    cases es : S0 a with
    | none => rw [(n.k a o es e).1] at h; cases h
    | some u =>
      obtain ⟨x, q⟩ := sb.there (n.s a u es)
      rw [q] at h
      cases h
theorem St4.setO {ds : List PyData} {a : Addr} {xs : List V} {i : Nat} (s : St4 K S0 H0 S H w σ ρ) (n : Nxt S H S1 H1) (sb : Sub K S1 H1 w1) (ha : H a = none) (na : S1 a = none) (h : H1 a = some (.lst xs)) (r : Rps S1 ds xs) :
    St4 K S0 H0 S1 H1 w1 (σ.set i (some (.ref a))) (ρ.set i (.own ds)) := by
  refine ⟨s.n.trans n, sb, (s.e.mono n).setO na h r fun j es hj ho z => ?_, fun j es b h1 h2 => ?_⟩
  · obtain ⟨b, ys, hb, _, hH, _⟩ := s.e.own j es ho
    rw [hb] at z
    cases z
    rw [ha] at hH
    cases hH
  · rw [getO_set] at h1
    split at h1
    · rename_i z
      subst z
      split at h1
      · rename_i hl
        rw [List.getElem?_set_self (by rw [← s.e.len]; exact hl)] at h2
        cases h2
        exact s.n.old s.sb ha
      · cases h1
    · rename_i z
      rw [List.getElem?_set_ne z] at h2
      exact s.new j es b h1 h2
theorem St4.own_nf {ds : List PyData} {a : Addr} {i : Nat} (s : St4 K S0 H0 S H w σ ρ) (ho : getO ρ i = some ds) (hs : σ[i]? = some (some (.ref a))) : ∀ o u, H a ≠ some (.frz o u) := by
  obtain ⟨b, xs, h1, _, h3, _⟩ := s.e.own i ds ho
  rw [hs] at h1
  cases h1
  exact nf_lst h3
/-- the own list of a slot is changed -/
theorem St4.chg {ds es : List PyData} {a : Addr} {ys : List V} {i : Nat} (s : St4 K S0 H0 S H w σ ρ) (ho : getO ρ i = some ds) (hs : σ[i]? = some (some (.ref a))) (na : S a = none) (r : Rps S es ys) :
    St4 K S0 H0 S (upd H a (.lst ys)) w σ (ρ.set i (.own es)) := by
  have h0 := s.new i ds a ho hs
  have hset : σ.set i (some (V.ref a)) = σ := by
    obtain ⟨hl, he⟩ := List.getElem?_eq_some_iff.mp hs
    rw [← he]
    exact List.set_getElem_self hl
  have ne : ∀ j fs b, j ≠ i → getO ρ j = some fs → σ[j]? = some (some (.ref b)) → b ≠ a := fun j fs b hj h1 h2 z => by
    subst z
    exact hj (s.e.dis j i fs ds b h1 ho h2 hs)
  refine ⟨⟨s.n.s, fun b o nb hb => ?_⟩, s.sb.updO na (s.own_nf ho hs), ⟨by rw [List.length_set]; exact s.e.len, fun j d h => ?_, fun j fs h => ?_, fun j k fs gs b h1 h2 h3 h4 => ?_⟩, fun j fs b h1 h2 => ?_⟩
  · have hne : b ≠ a := by rintro rfl; rw [h0] at hb; cases hb
    rw [upd_ne hne]
    exact s.n.k b o nb hb
  · rw [getV_set] at h
    split at h
    · split at h <;> cases h
    · exact s.e.val j d h
  · rw [getO_set] at h
    split at h
    · rename_i z
      subst z
      split at h
      · cases h
        exact ⟨a, ys, hs, na, upd_same, r⟩
      · cases h
    · rename_i z
      obtain ⟨b, xs, h1, h2, h3, h4⟩ := s.e.own j fs h
      exact ⟨b, xs, h1, h2, by rw [upd_ne (ne j fs b (Ne.symm z) h h1)]; exact h3, h4⟩
  · have back : ∀ j fs, getO (ρ.set i (.own es)) j = some fs → ∃ gs, getO ρ j = some gs := fun j fs h => by
      rw [getO_set] at h
      split at h
      · rename_i z; subst z; exact ⟨ds, ho⟩
      · exact ⟨fs, h⟩
    obtain ⟨fs', h1'⟩ := back j fs h1
    obtain ⟨gs', h2'⟩ := back k gs h2
    exact s.e.dis j k fs' gs' b h1' h2' h3 h4
  · rw [getO_set] at h1
    split at h1
    · rename_i z
      subst z
      rw [hs] at h2
      cases h2
      exact h0
    · exact s.new j fs b h1 h2
/-- an own list is given away -/
theorem St4.frz {ds : List PyData} {i : Nat} (s : St4 K S0 H0 S H w σ ρ) (ho : getO ρ i = some ds) : ∃ S', St4 K S0 H0 S' H w σ (Ev.setV ρ i (.lst ds)) := by
  obtain ⟨a, xs, h1, h2, h3, r⟩ := s.e.own i ds ho
  have h0 := s.new i ds a ho h1
  have nx : Nxt S0 H0 (updG S a (.lst xs)) H := ⟨fun b o h => LeG.upd h2 b o (s.n.s b o h), fun b o nb hb => by
    have hne : b ≠ a := by rintro rfl; rw [h0] at hb; cases hb
    rw [updG_ne hne]
    exact s.n.k b o nb hb⟩
  refine ⟨updG S a (.lst xs), nx, s.sb.addL h2 h3, ⟨by unfold Ev.setV; rw [List.length_set]; exact s.e.len, fun j d h => ?_, fun j fs h => ?_, fun j k fs gs b k1 k2 k3 k4 => ?_⟩, fun j fs b k1 k2 => ?_⟩
  · unfold Ev.setV at h
    rw [getV_set] at h
    split at h
    · rename_i z
      subst z
      split at h
      · cases h
        exact ⟨_, h1, Rp.lst updG_same (r.mono (LeG.upd h2))⟩
      · cases h
    · obtain ⟨v, k1, k2⟩ := s.e.val j d h
      exact ⟨v, k1, k2.mono (LeG.upd h2)⟩
  · unfold Ev.setV at h
    rw [getO_set] at h
    split at h
    · split at h <;> cases h
    · rename_i z
      obtain ⟨b, ys, k1, k2, k3, k4⟩ := s.e.own j fs h
      have hne : b ≠ a := fun q => by subst q; exact z (s.e.dis i j ds fs b ho h h1 k1)
      exact ⟨b, ys, k1, by rw [updG_ne hne]; exact k2, k3, k4.mono (LeG.upd h2)⟩
  · unfold Ev.setV at k1 k2
    rw [getO_set] at k1 k2
    split at k1
    · split at k1 <;> cases k1
    · split at k2
      · split at k2 <;> cases k2
      · exact s.e.dis j k fs gs b k1 k2 k3 k4
  · unfold Ev.setV at k1
    rw [getO_set] at k1
    split at k1
    · split at k1 <;> cases k1
    · exact s.new j fs b k1 k2
/-- an expression within a statement -/
theorem postO.of {α β : Type} {R : GH → α → β → Prop} {r : Res α} {f : α → W → Out} (st : St4 K S0 H0 S H w σ ρ) (p : postO K S0 H0 (r.toO ρ f) Dn E) :
    post K R S H r (fun x H1 => ∃ d w1 S1, Sub K S1 H1 w1 ∧ Nxt S H S1 H1 ∧ St4 K S0 H0 S1 H1 w1 σ ρ ∧ R S1 d x ∧ postO K S0 H0 (f d w1) Dn E) fun c H' => E c σ H' := by
  cases r with
  | ok d w1 => exact fun S' H' v n sb r => ⟨d, w1, S', sb, n, st.step n sb, r, p⟩
  | exc c w1 => exact fun S' H' n sb => p S' H' σ (st.step n sb)
  | stk => exact p
theorem postO.bind {o : Out} {f : Env → W → Out} {Wx : WX} (p : postO K S0 H0 (o.bind f) Dn (wE K Wx)) : postO K S0 H0 o { Dn with nx := lftS K f Wx S0 H0 Dn } (wE K Wx) := by
  cases o with
  | next ρ1 w1 => exact fun S H σ st => ⟨ρ1, w1, S, st, p⟩
  | ret d w1 => exact p
  | brk ρ1 w1 => exact p
  | cont ρ1 w1 => exact p
  | exc c ρ1 w1 => exact p
  | stk => exact p
end

/-! ### another base -/
structure Bs (K : PySem.W.Frag) (S0 : GH) (H0 : Hp) (S1 : GH) (H1 : Hp) : Prop where
  n : ∀ S H, Nxt S1 H1 S H → Nxt S0 H0 S H
  o : ∀ S H a, Nxt S1 H1 S H → S a = none → H1 a = none → H0 a = none
section
variable {K : PySem.W.Frag} {S0 S1 : GH} {H0 H1 : Hp}
theorem St4.back {S : GH} {H : Hp} {w : W} {σ : St} {ρ : Env} (b : Bs K S0 H0 S1 H1) (s : St4 K S1 H1 S H w σ ρ) : St4 K S0 H0 S H w σ ρ :=
  ⟨b.n _ _ s.n, s.sb, s.e, fun i ds a h1 h2 => by
    obtain ⟨c, xs, k1, k2, _⟩ := s.e.own i ds h1
    rw [h2] at k1
    cases k1
    exact b.o _ _ a s.n k2 (s.new i ds a h1 h2)⟩
theorem postO.rebase {o : Out} {Dn : Ends} {E : Nat → St → Hp → Prop} (b : Bs K S0 H0 S1 H1) (p : postO K S0 H0 o Dn E) : postO K S1 H1 o Dn E := by
  cases o with
  | next ρ w => exact fun S H σ s => p S H σ (s.back b)
  | ret d w => exact fun S H v n sb r => p S H v (b.n _ _ n) sb r
  | brk ρ w => exact fun S H σ s => p S H σ (s.back b)
  | cont ρ w => exact fun S H σ s => p S H σ (s.back b)
  | exc c ρ w => exact fun S H σ s => p S H σ (s.back b)
  | stk => exact p
open Classical in
/-- the heap without the own lists -/
noncomputable def lessOwn (ρ : Env) (σ : St) (H : Hp) : Hp := fun a => if ∃ i ds, getO ρ i = some ds ∧ σ[i]? = some (some (V.ref a)) then none else H a
theorem Bs.of {S : GH} {H : Hp} {w : W} {σ : St} {ρ : Env} (s : St4 K S0 H0 S H w σ ρ) : Bs K S0 H0 S (lessOwn ρ σ H) ∧ St4 K S (lessOwn ρ σ H) S H w σ ρ := by
  have hl : ∀ a o, lessOwn ρ σ H a = some o → H a = some o := fun a o e => by
    unfold lessOwn at e
    split at e
    · cases e
    · exact e
  refine ⟨⟨fun S' H' n => ⟨fun a o h => n.s a o (s.n.s a o h), fun b o nb hb => ?_⟩, fun S' H' a n na h => ?_⟩, ⟨fun _ _ h => h, fun b o nb hb => ⟨hl b o hb, nb⟩⟩, s.sb, s.e, fun i ds a h1 h2 => ?_⟩
  · obtain ⟨k1, k2⟩ := s.n.k b o nb hb
    refine n.k b o k2 ?_
    unfold lessOwn
    rw [if_neg]
    · exact k1
    · rintro ⟨i, ds, h1, h2⟩
      rw [s.new i ds b h1 h2] at hb
      cases hb
  · cases e : H0 a with
    | none => rfl
    | some o =>
      cases es : S0 a with
      | none =>
        obtain ⟨k1, k2⟩ := s.n.k a o es e
        unfold lessOwn at h
        split at h
        · rename_i z
          obtain ⟨i, ds, h1, h2⟩ := z
          rw [s.new i ds a h1 h2] at e
          cases e
        · rw [k1] at h; cases h
      | some u =>
        have z := n.s a u (s.n.s a u es)
        rw [na] at z
        cases z
  · unfold lessOwn
    rw [if_pos ⟨i, ds, h1, h2⟩]
end

/-! ### the check -/
def notComp : Expr → Bool
  | .ListComp .. => false
  | .SetComp .. => false
  | .DictComp .. => false
  | _ => true
def isCompM {Fn : Type} : ME Fn → Bool
  | .comp .. => true
  | .compIf .. => true
  | _ => false
def isLstM {Fn : Type} : ME Fn → Bool
  | .lst .. => true
  | _ => false
theorem sw_false {e : Expr} (h : notComp e = true) (t : Option Expr) (l : Nat) (env : PySem.Env) : swapsWith e t l env = pure false := by
  cases e <;> first | rfl | cases h
/-- how a pair of written tuples is stored: none: not known; some none: as a tuple; some names: from the right -/
def swG {α : Type} (fk : Bool) (lk : Str → Option NameKind) (ts vs : List Expr) (n bad : α) (y : List Str → α) : α :=
  if (!(ts.length == 2 || ts.length == 3) || vs.length != ts.length || fk) = true then n
  else if (vs.any fun | .Starred .. => true | _ => false) = true then n
  else
    if ((ts.filterMap fun
      | .Name id pos => if (lk id == some .local && pos.line == ((ts.head?.map (·.pos.line)).getD 0)) = true then some id else none
      | _ => none).length != ts.length || (ts.filterMap fun
      | .Name id pos => if (lk id == some .local && pos.line == ((ts.head?.map (·.pos.line)).getD 0)) = true then some id else none
      | _ => none).eraseDups.length != (ts.filterMap fun
      | .Name id pos => if (lk id == some .local && pos.line == ((ts.head?.map (·.pos.line)).getD 0)) = true then some id else none
      | _ => none).length) = true then n
    else if vs.all (foldedForSure 8) = true then n
    else if vs.all (constantsAlone 8) = true then bad
    else y (ts.filterMap fun
      | .Name id pos => if (lk id == some .local && pos.line == ((ts.head?.map (·.pos.line)).getD 0)) = true then some id else none
      | _ => none)
def swR (sc : Scope) (ts vs : List Expr) : Option (Option (List Str)) := swG (sc.kind != .function) (fun x => sc.names.lookup x) ts vs (some none) none (fun ns => some (some ns))
theorem swG_eq {ts vs : List Expr} {k k2 : Nat} {p p2 : Pos} {env : PySem.Env} :
    swappedStores [.Tuple ts k p] (.Tuple vs k2 p2) env = swG (env.blockKind != .function) env.kindOf ts vs (pure none) (unsupported "assign.tuple-of-constant-expressions:order-of-the-stores") (fun ns => pure (some ns)) := by
  unfold swappedStores swG
  rfl
theorem swG_some {α : Type} {fk : Bool} {lk : Str → Option NameKind} {ts vs : List Expr} {n bad : α} {y : List Str → α} {r : Option (List Str)} (h : swG fk lk ts vs (some none) none (fun ns => some (some ns)) = some r) :
    swG fk lk ts vs n bad y = (match r with | none => n | some ns => y ns) := by
  unfold swG at h ⊢
  split at h
  · rename_i c; cases h; rw [if_pos c]
  · rename_i c; rw [if_neg c]
    split at h
    · rename_i c; cases h; rw [if_pos c]
    · rename_i c; rw [if_neg c]
      split at h
      · rename_i c; cases h; rw [if_pos c]
      · rename_i c; rw [if_neg c]
        split at h
        · rename_i c; cases h; rw [if_pos c]
        · rename_i c; rw [if_neg c]
          split at h
          · cases h
          · rename_i c; cases h; rw [if_neg c]
theorem swR_ok {sc : Scope} {ts vs : List Expr} {k k2 : Nat} {p p2 : Pos} {env : PySem.Env} {r : Option (List Str)} (hs : env.scope = sc) (hk : sc.kind = .function) (h : swR sc ts vs = some r) :
    swappedStores [.Tuple ts k p] (.Tuple vs k2 p2) env = pure r := by
  subst hs
  have hb : env.blockKind = .function := by unfold Env.blockKind; rw [hk]; rfl
  unfold swR at h
  rw [hk] at h
  rw [swG_eq, hb]
  rw [swG_some (lk := env.kindOf) h]
  cases r <;> rfl
end Ev

end

section
/-! EvT: a try whose clause keeps the exception. -/
namespace Ev
open PySem PySem.Spec PyProof.Rows L2

/-- an exception's object, as it lies -/
def ExV (cls : Value) (d : Option Addr) (a : Addr) : HO := .ext fun h => ∃ (oe : Obj) (vs : Array Value), h.get? a = some oe ∧ Zc cls d oe ∧ oe.data = .fields vs
/-- an object that came since the start, not spoken of: it may be spoken of -/
theorem lay_old {X : Cx} {pins : List (Addr × Obj)} {σ : L2.St} {H : Hp} {s : Shared} {a : Addr} {oe : Obj} {vs : Array Value} {cls : Value} {d : Option Addr} (I : L2.Inv X pins σ H s) (e : s.heap.get? a = some oe) (z : Zc cls d oe) (hv : oe.data = .fields vs)
    (n0 : X.s_0.heap.get? a = none) (na : H a = none) (nl : a ≠ X.env.locals) (np : ∀ p ∈ X.pn ++ pins, p.1 ≠ a) : L2.Inv X pins σ (upd H a (ExV cls d a)) s := by
  have nb : ∀ b o, X.s_0.heap.get? b = some o → b ≠ a := fun b o q w => by rw [w, n0] at q; cases q
  refine ⟨I.ok, I.os, I.bare, ⟨I.base.keep, I.base.slot, fun b o q1 q2 q3 => ?_, I.base.there, fun b xs q => ?_, fun b o u q => ?_, fun b ps q => ?_⟩, I.loc, I.cell, ?_, fun x c q => ?_, fun p hp => ?_, ?_, I.len⟩
  · rw [upd_ne (nb b o q1)]; exact I.base.free b o q1 q2 q3
  · have q' := I.base.tups b xs q
    rw [upd_ne (fun w => by rw [w, na] at q'; cases q')]; exact q'
  · have q' := I.base.frzs b o u q
    rw [upd_ne (fun w => by rw [w, na] at q'; cases q')]; exact q'
  · obtain ⟨m, q'⟩ := I.base.tbls b ps q
    exact ⟨m, by rw [upd_ne (fun w => by rw [w, na] at q'; cases q')]; exact q'⟩
  · rw [upd_ne (Ne.symm nl)]; exact I.free
  · obtain ⟨v, o, ho, hd⟩ := I.cell x c q
    rw [upd_ne (fun w => by
      rw [w, e] at ho
      cases ho
      rw [hv] at hd
      cases hd)]
    exact I.freeC x c q
  · obtain ⟨q1, q2, q3⟩ := I.pin p hp
    exact ⟨q1, by rw [upd_ne (np p hp)]; exact q2, q3⟩
  · exact HOk.laidN I.hok (fun _ _ q => q) na ⟨⟨oe, vs, e, z, hv⟩, ⟨oe, e⟩, fun _ _ ⟨o, v, q, r⟩ k => ⟨o, v, k o q, r⟩⟩
/-- what such a clause wishes of an exception of the body -/
def wKp (K : PySem.W.Frag) (c : Value) (i : Nat) (ts : Addr → Value → Option Addr → TS) (Wo : WX) (D : Ends) : WX := fun cls d σ H =>
  ∃ b, PySem.W.exmOne K cls c = some b ∧ (b = true → ∀ a, H a = none → ts a cls d { nx := fun σ' H' => D.nx (σ'.set i none) (upd H' a (ExV cls d a)), rt := fun _ _ => False, bk := fun _ _ => False, ct := fun _ _ => False } (σ.set i (some (.ref a))) H) ∧
    (b = false → Wo cls d σ H)
section
variable {X : Cx} {xn nn : Str} {cv : Value} {i : Nat} {bd su : List Stmt} {b0 : Stmt} {p1 p2 p3 : Pos} {tb : WX → TS} {ts : Addr → Value → Option Addr → TS} {Wo : WX}
theorem ps_try_keep (hs : X.stack = X.env :: X.outer) (hf : X.env.frame = some X.env.locals) (hx0 : X.ex = []) (hN : X.N.Nodup) (hi : X.N[i]? = some nn) (hl : X.env.kindOf nn = some .local) (hc : Names X xn cv) (tk : L2N.Takes X Wo)
    (hb : ∀ (W : WX) (pn : List (Addr × Obj)) (xe : Value → Shared → Prop), L2N.Takes (X.tr pn xe) W → PassesOwn (model X.prog X.w) X.A X.env xe → PSs (X.tr pn xe) bd (tb W))
    (hsu : ∀ (a : Addr) (oe : Obj) (cls : Value) (d : Option Addr) (pn : List (Addr × Obj)), L2N.Zn cls d oe → (∃ vs, oe.data = .fields vs) → PSs (X.suite a ((a, oe) :: pn)) (b0 :: su) (ts a cls d)) :
    PS X (.Try bd [.ExceptHandler (some (.Name xn p1)) (some nn) (b0 :: su) p2] [] [] p3) (fun D σ H => tb (wKp X.K cv i ts Wo D) D σ H) := by
  refine ⟨fun pins s σ H D I h => wpAny_Try_except ?_⟩
  have ok := I.ok
  have fr : X.A.frames = some (X.env :: X.outer) := ok.frames.trans (by rw [hs])
  refine wpAny_mono ((hb (wKp X.K cv i ts Wo D) (X.pn ++ pins) _ (fun u t xx => ?_) PassesOwn.looking).run [] s σ H D (I.toTry _) h) (fun f t hsp => ?_) (fun e t he => he)
  · obtain ⟨a, B, sI, pins', σ1, H1, cls, d, rfl, J0, nb, up, sky, na, os, ag, b, b1, yes, no⟩ := xx
    have J : L2.Inv X pins σ1 H1 sI := J0.ofTry ok
    rw [show (X.tr (X.pn ++ pins) _).stack = X.env :: X.outer from hs] at sky
    show wpAny (model X.prog X.w) X.A (noteFrame (.ref a) X.env) _ _ _
    refine L2N.Sky.land L2N.Zn.steady fr hf sky fun hA flA upA => ?_
    have JA : L2.Inv X pins σ1 H1 { t with heap := hA } := J.landed nb flA.1 (up.trans upA) os ag
    obtain ⟨oA, vA, eA, zA, dA⟩ := flA.there
    have noF : a ∉ frs (X.env :: X.outer) := fun hm => by
      obtain ⟨_, o', e', hnf⟩ := flA.2.2.1.mem hm
      rw [eA] at e'
      cases e'
      exact hnf _ dA
    have nL : a ≠ X.env.locals := fun z => noF (List.mem_filterMap.mpr ⟨X.env, List.mem_cons_self, hf.trans (congrArg some z.symm)⟩)
    have nF : a ∉ X.fs := fun hm => by
      obtain ⟨e, he, q⟩ := List.mem_filterMap.mp hm
      exact noF (List.mem_filterMap.mpr ⟨e, List.mem_cons_of_mem _ he, q⟩)
    -- it came since the start
    have nI : ∀ o, sI.heap.get? a ≠ some o := fun o q => by
      have := nb a o q (by rw [show (X.tr (X.pn ++ pins) _).stack = X.env :: X.outer from hs]; exact noF)
      rw [flA.2.1] at this
      cases this
    have n0 : X.s_0.heap.get? a = none := by
      cases q : X.s_0.heap.get? a with
      | none => rfl
      | some o =>
        obtain ⟨o', q'⟩ := J.base.there a o q (by rw [hx0]; exact fun z => nomatch z)
        exact absurd q' (nI o')
    have np : ∀ p ∈ X.pn ++ pins, p.1 ≠ a := fun p hp z => nI p.2 (by rw [← z]; exact (J.pin p hp).1)
    have SA := JA.suite eA dA na nL nF
    refine wpAny_handleBy_cons (codeAny_handlers_test ?_) (by intro q; cases q)
    have ty : PySem.W.Looks (model X.prog X.w) hA (typeOf (.ref a)) cls := fun A' Q' E' s' k q => wpAny_typeOf_ref (k _ _ eA) (zA.1.symm ▸ q)
    have mt := PySem.W.exm_one (M := model X.prog X.w) (JA.kIn) ty b1
    have ask : ∀ {Q' : Value → Shared → Prop} {E' : Value → Shared → Prop}, Q' cv { t with heap := hA } → wpAny (model X.prog X.w) (X.A.mark (some (.ref a))) (eval (.Name xn p1) X.env) Q' E' { t with heap := hA } := fun {Q' E'} q => by
      obtain ⟨g1, g2, g3 | ⟨g3, g4, g5⟩⟩ := hc
      · exact ld_glob (X := X.suite a ((a, oA) :: (X.pn ++ pins))) SA g1 g3 q g2
      · exact ld_blt (X := X.suite a ((a, oA) :: (X.pn ++ pins))) SA g1 g3 g4 q g5 g2
    refine ask (mt.here ?_)
    cases b with
    | true =>
      refine codeAny_handlers_suite_as (HandSPX.lands_againZ flA fun hB flB upB => ?_)
      have JB : L2.Inv X pins σ1 H1 { t with heap := hB } := J.landed nb flB.1 ((up.trans upA).trans upB) os ag
      obtain ⟨oB, vB, eB, zB, dB⟩ := flB.there
      have SB := JB.suite eB dB na nL nF
      refine store_ok (X := X.suite a ((a, oB) :: (X.pn ++ pins))) (v := .ref a) SB hN hi (.inl hl) rfl (fun sC SC => ?_) (.inr hl)
      refine wpAny_mono ((hsu a oB cls d (X.pn ++ pins) zB ⟨_, dB⟩).run [] sC _ H1 _ SC (yes rfl a na)) (fun f sD hsp => ?_) (fun _ _ z => False.elim z)
      cases f with
      | next =>
        obtain ⟨σD, HD, SD, qD⟩ := hsp
        obtain ⟨w1, w2, _⟩ := SD.pin (a, oB) (List.mem_append_left _ List.mem_cons_self)
        have KD := lay_old (SD.unsuite ok) w1 zB.zc dB n0 w2 nL np
        exact gone_ok KD hN hi hl fun sE JE => ⟨_, _, JE, qD⟩
      | brk => obtain ⟨_, _, _, qD⟩ := hsp; exact qD.elim
      | cont => obtain ⟨_, _, _, qD⟩ := hsp; exact qD.elim
      | ret u => obtain ⟨_, _, _, _, _, qD⟩ := hsp; exact qD.elim
    | false =>
      show wpAny _ X.A (handleBy (.ref a) X.env []) _ _ _
      refine wpAny_handleBy_nil ?_
      obtain ⟨k1, k2, k3, oe, vs, T, oT, tT, he, hz, hd, h1, hr⟩ := id flA
      unfold PySem.passOn
      refine wpAny_bind (wpAny_field he hd h1 ?_)
      rw [if_neg (show ¬ ((Value.ref T == Value.none) = true) from fun z => nomatch z)]
      have fin : wpAny (model X.prog X.w) X.A (setFlight (.ref a) X.env.frame) (fun _ sE => wpAny (model X.prog X.w) X.A (throw (.ref a) : Sem Flow) (SP X pins D) X.xe sE) X.xe { t with heap := hA } := by
        rw [hf]
        exact HandSPX.setFlight_upZ flA fun hC kC upC => wpAny_throw (tk _ _ ⟨a, B, sI, pins, σ1, H1, cls, d, rfl, J, nb, (up.trans upA).trans upC, .inr (.inr (by rw [hs]; exact kC)), na, os, ag, no rfl⟩)
      first
        | exact wpAny_bind (wpAny_pure (wpAny_bind fin))
        | exact wpAny_bind fin
  · cases f with
    | next => obtain ⟨σ1, H1, J, q⟩ := hsp; exact wpAny_execs_nil ⟨σ1, H1, J.ofTry ok, q⟩
    | brk => obtain ⟨σ1, H1, J, q⟩ := hsp; exact ⟨σ1, H1, J.ofTry ok, q⟩
    | cont => obtain ⟨σ1, H1, J, q⟩ := hsp; exact ⟨σ1, H1, J.ofTry ok, q⟩
    | ret u => obtain ⟨v, σ1, H1, J, r, q⟩ := hsp; exact ⟨v, σ1, H1, J.ofTry ok, r, q⟩
end
end Ev

end

section
/-! EvJ: every statement that is checked runs as the evaluator says. -/
namespace Ev
open PySem PySem.Spec PyProof.Rows L2

section
variable {Fn : Type} (Γ : Sig Fn) (N : List Str)
def lcl (sc : Scope) (x : Str) : Bool := decide (sc.names.lookup x = some .local)
def parB (sc : Scope) (is : List Nat) (ts vs : List Expr) : Bool := match swR sc ts vs with
  | some none => true
  | some (some ns) => (match ts, is, vs with
    | [.Name x _, .Name y _], [i, j], [_, _] => decide (ns = [x, y]) && lcl sc x && lcl sc y && decide (i ≠ j)
    | [.Name x _, .Name y _, .Name z _], [i, j, l], [_, _, _] => decide (ns = [x, y, z]) && lcl sc x && lcl sc y && lcl sc z && decide (i ≠ j ∧ i ≠ l ∧ j ≠ l)
    | _, _, _ => false)
  | none => false
mutual
def chkS (sc : Scope) : MS Fn → Stmt → Bool
  | .set i e, st => match st with
    | .Assign [.Name x _] y _ => decide (N[i]? = some x) && stoB sc x && chkE Γ N sc e y && (notComp y || isCompM e)
    | _ => false
  | .setO i e, st => match st with
    | .Assign [.Name x _] y _ => decide (N[i]? = some x) && stoB sc x && chkE Γ N sc e y && ((isLstM e && notComp y) || isCompM e)
    | _ => false
  | .parO i es j k, st => match st with
    | .Assign [.Tuple [.Name x p1, .Name y p2] _ _] (.Tuple [a, b] _ _) _ => decide (N[i]? = some x) && decide (N[j]? = some y) && decide (i ≠ j) && chkE Γ N sc (.lst es) a && chkE Γ N sc (.int k) b && lcl sc x && lcl sc y && (match swR sc [.Name x p1, .Name y p2] [a, b] with
      | some (some ns) => decide (ns = [x, y])
      | _ => false)
    | _ => false
  | .par is es, st => match st with
    | .Assign [.Tuple ts _ _] (.Tuple vs _ _) _ => chkNs N (stoB sc) is ts && chkEs Γ N sc es vs && decide (vs.length ≤ 1000) && parB sc is ts vs
    | _ => false
  | .unp is e, st => match st with
    | .Assign [.Tuple ts _ _] y _ => chkNs N (stoB sc) is ts && chkE Γ N sc e y && !isTup y
    | _ => false
  | .aug i op e, st => match st with
    | .AugAssign (.Name x _) o y _ => decide (N[i]? = some x) && stoB sc x && decide (o = bo op) && decide (op = .add ∨ op = .sub) && chkE Γ N sc e y
    | _ => false
  | .extO i e, st => match st with
    | .AugAssign (.Name x _) .Add y _ => decide (N[i]? = some x) && stoB sc x && chkE Γ N sc e y
    | _ => false
  | .app i e, st => match st with
    | .Expr (.Call (.Attribute (.Name x _) nm ap) [y] [] cp) _ => decide (N[i]? = some x) && visB sc x && okN x && decide (nm = "append") && (ap.endLine == cp.line) && chkE Γ N sc e y
    | _ => false
  | .stO i j e, st => match st with
    | .Assign [.Subscript (.Name x _) z _] y _ => decide (N[i]? = some x) && visB sc x && okN x && chkE Γ N sc j z && chkE Γ N sc e y
    | _ => false
  | .ife c a b, st => match st with
    | .If x ys zs _ => chkE Γ N sc c x && chkB sc a ys && chkB sc b zs
    | _ => false
  | .for_ t it b, st => match st with
    | .For tg iter ys [] _ => chkI Γ N sc it tg iter && chkT N (stoB sc) t tg && chkB sc b ys
    | _ => false
  | .while_ c b, st => match st with
    | .While x ys [] _ => chkE Γ N sc c x && chkB sc b ys
    | _ => false
  | .ret e, st => match st with
    | .Return (some y) _ => chkE Γ N sc e y
    | _ => false
  | .retN, st => match st with
    | .Return none _ => true
    | _ => false
  | .expr e, st => match st with
    | .Expr y _ => chkE Γ N sc e y && notComp y
    | _ => false
  | .raise c, st => match st with
    | .Raise (some (.Call (.Name x _) [.Constant (.str _) _ _] [] _)) none _ => decide (x = excN c) && decide (c ∈ Γ.excs) && glB sc x && okN x
    | _ => false
  | .try_ b i j, st => match st with
    | .Try ys [.ExceptHandler (some (.Name x _)) (some n) [.Assign [.Name y _] (.Name n2 _) _] _] [] [] _ => decide (x = excN 7) && ([0, 1, 2, 3, 4, 5, 6, 7].all fun c => decide (c ∈ Γ.excs)) && glB sc x && okN x && decide (N[i]? = some y) && stoB sc y && decide (N[j]? = some n) && lcl sc n && okN n && decide (n2 = n) && decide (i ≠ j) && chkB sc b ys
    | _ => false
  | .pass, st => match st with
    | .Pass _ => true
    | _ => false
  | .setRow i e, st => match st with
    | .Assign [.Attribute (.Name x _) nm _] y _ => decide (N[i]? = some x) && visB sc x && okN x && decide (nm = "row") && Γ.hasS && chkE Γ N sc e y
    | _ => false
  | .appPast i, st => match st with
    | .Expr (.Call (.Attribute (.Attribute (.Name x _) nm _) ap0 ap) [.Attribute (.Name z _) nm2 _] [] cp) _ => decide (N[i]? = some x) && visB sc x && okN x && decide (nm = "past") && decide (ap0 = "append") && decide (z = x) && decide (nm2 = "row") && Γ.hasS && (ap.endLine == cp.line)
    | _ => false
  | .popPast i, st => match st with
    | .Assign [.Attribute (.Name x _) nm _] (.Call (.Attribute (.Attribute (.Name z _) nm2 _) ap0 ap) [] [] cp) _ => decide (N[i]? = some x) && visB sc x && okN x && decide (nm = "row") && decide (nm2 = "past") && decide (ap0 = "pop") && decide (z = x) && Γ.hasS && (ap.endLine == cp.line)
    | _ => false
  | .ptsApp i e, st => match st with
    | .Expr (.Call (.Attribute (.Call (.Attribute (.Name x _) nm ap) [] [] cp) nm2 ap2) [y] [] cp2) _ => decide (N[i]? = some x) && visB sc x && okN x && decide (nm = "points") && decide (nm2 = "append") && Γ.hasS && (ap.endLine == cp.line) && (ap2.endLine == cp2.line) && chkE Γ N sc e y
    | _ => false
  | .popO j i, st => match st with
    | .Assign [.Name x _] (.IfExp (.Compare (.Name p _) [.NotEq] [.List [] _] _) (.Call (.Attribute (.Name p2 _) nm ap) [] [] cp) (.Name x2 _) _) _ => decide (N[j]? = some x) && stoB sc x && okN x && decide (N[i]? = some p) && visB sc p && okN p && decide (p2 = p) && decide (x2 = x) && decide (nm = "pop") && decide (i ≠ j) && visB sc x && (ap.endLine == cp.line)
    | _ => false
  | .par3O f i j k, st => match st with
    | .Assign [.Tuple [.Name x p1, .Name y p2, .Name z p3] _ _] (.Tuple [a, .List [] q1, .List [] q2] _ _) _ => decide (N[i]? = some x) && decide (N[j]? = some y) && decide (N[k]? = some z) && decide (i ≠ j ∧ i ≠ k ∧ j ≠ k) && chkE Γ N sc (.mkS f) a && lcl sc x && lcl sc y && lcl sc z && (match swR sc [.Name x p1, .Name y p2, .Name z p3] [a, .List [] q1, .List [] q2] with
      | some (some ns) => decide (ns = [x, y, z])
      | _ => false)
    | _ => false
  | .wild, _ => true
def chkB (sc : Scope) : MB Fn → List Stmt → Bool
  | .nil, sts => match sts with
    | [] => true
    | _ => false
  | .cons s b, sts => match sts with
    | st :: r => chkS sc s st && chkB sc b r
    | _ => false
  | .frz _ b, sts => chkB sc b sts
end
end
structure XS {Fn : Type} (Γ : Sig Fn) (φ : Fn → List D → W → Res D) (X : Cx) (Wx : WX) (sc : Scope) : Prop extends XG Γ φ X Wx sc where
  fn : ∀ x, X.fn x = true
  kind : X.env.scope.kind = .function
  stk : X.stack = X.env :: X.outer
  frm : X.env.frame = some X.env.locals
  ex0 : X.ex = []
/-- a try's body -/
theorem XS.tr {Fn : Type} {Γ : Sig Fn} {φ : Fn → List D → W → Res D} {X : Cx} {Wx : WX} {sc : Scope} (g : XS Γ φ X Wx sc) (W : WX) (pn : List (Addr × Obj)) (xe : Value → Shared → Prop) (tk : L2N.Takes (X.tr pn xe) W)
    (po : PassesOwn (model X.prog X.w) X.A X.env xe) : XS Γ φ (X.tr pn xe) W sc where
  calm := g.calm
  nd := g.nd
  sc := g.sc
  un := g.un
  tk := tk
  po := po
  fns := g.fns
  frees := g.frees
  gi := g.gi
  gs := g.gs
  exf := g.exf
  gexc := g.gexc
  rexc := g.rexc
  mexc := g.mexc
  stpC := g.stpC
  mts := g.mts
  mkf := g.mkf
  lnp := g.lnp
  fn := g.fn
  kind := g.kind
  stk := g.stk
  frm := g.frm
  ex0 := g.ex0
section
variable {K : PySem.W.Frag} {S0 : GH} {H0 : Hp} {S : GH} {H : Hp} {w : W} {σ : St} {ρ : Env} {i j : Nat}
/-- a slot is told nothing of -/
theorem EOk.un {o : Option V} (e : EOk S H ρ σ) : EOk S H (ρ.set j .un) (σ.set j o) := by
  refine ⟨by rw [List.length_set, List.length_set]; exact e.len, fun k d h => ?_, fun k ds h => ?_, fun k l ds es a h1 h2 h3 h4 => ?_⟩
  · rw [getV_set] at h
    split at h
    · split at h <;> cases h
    · rename_i z
      obtain ⟨v, q⟩ := e.val k d h
      exact ⟨v, by rw [List.getElem?_set_ne z]; exact q.1, q.2⟩
  · rw [getO_set] at h
    split at h
    · split at h <;> cases h
    · rename_i z
      obtain ⟨b, xs, q1, q2⟩ := e.own k ds h
      exact ⟨b, xs, by rw [List.getElem?_set_ne z]; exact q1, q2⟩
  · rw [getO_set] at h1 h2
    split at h1
    · split at h1 <;> cases h1
    · rename_i z1
      split at h2
      · split at h2 <;> cases h2
      · rename_i z2
        rw [List.getElem?_set_ne z1] at h3
        rw [List.getElem?_set_ne z2] at h4
        exact e.dis k l ds es a h1 h2 h3 h4
theorem Sub.addE {c : Nat} {p : Addr} (s : Sub K S H w) (n : S p = none) (h : H p = some (ExX (excA K c) p)) : Sub K (updG S p (.exc c)) H w := by
  have back : ∀ b o, updG S p (.exc c) b = some o → o ≠ .exc c → S b = some o := fun b o e ne => by
    by_cases hb : b = p
    · rw [hb, updG_same] at e
      cases e
      exact absurd rfl ne
    · rw [updG_ne hb] at e
      exact e
  refine ⟨fun b o e => ?_, fun b d h1 h2 => s.one b d (back _ _ h1 fun z => nomatch z) (back _ _ h2 fun z => nomatch z), fun b d h1 h2 => s.oneS b d (back _ _ h1 fun z => nomatch z) (back _ _ h2 fun z => nomatch z), fun a ns e => ?_⟩
  · by_cases hb : b = p
    · subst hb
      rw [updG_same] at e
      cases e
      exact h
    · rw [updG_ne hb] at e
      exact (s.ok b o e).keep (LeG.upd n) (fun _ _ _ q => q) fun _ u _ q => ⟨u, q⟩
  · rcases s.scr a ns e with h' | ⟨h1, o, h2⟩
    · exact .inl h'
    · have : a ≠ p := by
        rintro rfl
        rw [h] at h2
        cases h2
      exact .inr ⟨by rw [updG_ne this]; exact h1, o, h2⟩
/-- the exception is kept in slot i, its name's slot j is gone -/
theorem St4.keepE {c : Nat} {a : Addr} {o : Option V} (s : St4 K S0 H0 S H w σ ρ) (na : H a = none) (hij : i ≠ j) :
    St4 K S0 H0 (updG S a (.exc c)) (upd H a (ExX (excA K c) a)) w (((σ.set j o).set i (some (.ref a))).set j none) ((Ev.setV ρ i (.exc c)).set j .un) := by
  have ns := s.sb.free na
  have nx : Nxt S H (updG S a (.exc c)) (upd H a (ExX (excA K c) a)) := Nxt.new ns na
  have sb : Sub K (updG S a (.exc c)) (upd H a (ExX (excA K c) a)) w := (s.sb.updO ns (nf_none na)).addE ns upd_same
  have e1 : EOk (updG S a (.exc c)) (upd H a (ExX (excA K c) a)) (ρ.set j .un) (σ.set j o) := (s.e.mono nx).un
  have e2 := (e1.setV (i := i) (d := .exc c) (v := .ref a) ⟨a, rfl, updG_same⟩).un (j := j) (o := none)
  have er : (Ev.setV (ρ.set j .un) i (.exc c)).set j .un = (Ev.setV ρ i (.exc c)).set j .un := by
    unfold Ev.setV
    rw [List.set_comm _ _ hij.symm, List.set_set]
  rw [er] at e2
  refine ⟨s.n.trans nx, sb, e2, fun k ds b h1 h2 => ?_⟩
  rw [getO_set] at h1
  split at h1
  · split at h1 <;> cases h1
  · rename_i z
    unfold Ev.setV at h1
    rw [getO_set] at h1
    split at h1
    · split at h1 <;> cases h1
    · rename_i z2
      rw [List.getElem?_set_ne z, List.getElem?_set_ne z2, List.getElem?_set_ne z] at h2
      exact s.new k ds b h1 h2
end

section
variable {K : PySem.W.Frag} {S0 : GH} {H0 : Hp} {S : GH} {H : Hp} {w : W} {Q : St → Hp → Prop}
theorem gIs_D : ∀ (is : List Nat) {ρ ρ' : Env} {σ : St} {ds : List D} {xs : List V}, setDs ρ is ds = some ρ' → RDs S ds xs → St4 K S0 H0 S H w σ ρ → (∀ σ', St4 K S0 H0 S H w σ' ρ' → Q σ' H) → gIs is xs σ H Q
  | [], ρ, ρ', σ, [], xs, h, r, e, k => by
    cases r
    cases h
    exact ⟨rfl, k σ e⟩
  | [], _, _, _, _ :: _, _, h, _, _, _ => by cases h
  | _ :: _, _, _, _, [], _, h, _, _, _ => by cases h
  | i :: is, _, _, _, d :: ds, _, h, .cons r q, e, k => ⟨_, _, rfl, gIs_D is h q (e.setV r) k⟩
theorem gIs_S : ∀ (is : List Nat) {ρ ρ' : Env} {σ : St} {ds : List PyData} {xs : List V}, setVs ρ is ds = some ρ' → Rps S ds xs → St4 K S0 H0 S H w σ ρ → (∀ σ', St4 K S0 H0 S H w σ' ρ' → Q σ' H) → gIs is xs σ H Q
  | [], ρ, ρ', σ, [], xs, h, r, e, k => by
    cases r
    cases h
    exact ⟨rfl, k σ e⟩
  | [], _, _, _, _ :: _, _, h, _, _, _ => by cases h
  | _ :: _, _, _, _, [], _, h, _, _, _ => by cases h
  | i :: is, _, _, _, d :: ds, _, h, .cons r q, e, k => ⟨_, _, rfl, gIs_S is h q (e.setV (d := .p d) r) k⟩
theorem setDs_len : ∀ {is : List Nat} {ρ ρ' : Env} {ds : List D}, setDs ρ is ds = some ρ' → ds.length = is.length
  | [], _, _, [], _ => rfl
  | [], _, _, _ :: _, h => by cases h
  | _ :: _, _, _, [], h => by cases h
  | _ :: is, _, _, _ :: ds, h => by rw [List.length_cons, List.length_cons, setDs_len (is := is) h]
theorem gT_S (t : MT) {ρ ρ' : Env} {σ : St} {d : PyData} {v : V} (h : tgt ρ t d = some ρ') (r : Rp S d v) (st : St4 K S0 H0 S H w σ ρ) (k : ∀ σ', St4 K S0 H0 S H w σ' ρ' → Q σ' H) : gT K t v σ H Q := by
  unfold tgt at h
  split at h
  · cases h
    exact k _ (st.setV (d := .p d) r)
  · cases r with
    | tup h1 q => exact ⟨_, _, rfl, SqT.of (st.sb.tup h1), by rw [q.length, setVs_len h], gIs_S _ h q st k⟩
  · cases h
theorem lst_F {Fn : Type} {Γ : Sig Fn} {φ : Fn → List D → W → Res D} {X : Cx} {Wx : WX} {sc : Scope} {es : MEs Fn} {e : Expr} (g : XG Γ φ X Wx sc) (h : chkE Γ X.N sc (.lst es) e = true) : PE X e (lftF X.K (fun ρ => evE φ ρ (.lst es)) Wx) := by
  unfold chkE at h
  split at h
  · obtain ⟨h1, h2⟩ := bt h
    have h2 := of_decide_eq_true h2
    refine weakE (pe_lst (ok_es es g h1)) fun σ H Q q => ?_
    obtain ⟨ρ, w, S, sb, eo, p⟩ := q
    dsimp only at p
    unfold evE at p
    refine ⟨ρ, w, S, sb, eo, ?_⟩
    dsimp only
    cases hr : evEs φ ρ es w with
    | exc c w1 => rw [hr] at p; exact p
    | stk => rw [hr] at p; exact p.elim
    | ok ds w1 =>
      rw [hr] at p
      have p : postF X.K S H (lif ((plains ds).map D.lst) w1) Q _ := p
      intro S1 H1 xs n1 sb1 r1
      refine ⟨by rw [r1.length, evEs_len h1 hr]; exact small_line h2, fun a ha => ?_⟩
      cases hp : plains ds with
      | none => rw [hp] at p; exact p.elim
      | some ps =>
        rw [hp] at p
        have na := sb1.free ha
        exact p S1 _ a xs (n1.trans (Nxt.newO ha)) (sb1.updO na (nf_none ha)) (n1.old sb1 ha) na upd_same (r1.plains hp)
  · cases h
end
section
variable {Fn : Type} {Γ : Sig Fn} {φ : Fn → List D → W → Res D}
theorem comp_lst {ρ : Env} {m : ME Fn} {w w' : W} {d : D} (hm : isCompM m = true) (h : evE φ ρ m w = .ok d w') : ∃ ds, d = .lst ds := by
  cases m <;> first
    | (cases hm; done)
    | (unfold evE at h
       obtain ⟨xs, w1, _, h2⟩ := bind_ok h
       split at h2
       · obtain ⟨ys, _, e⟩ := lstOut h2
         exact ⟨ys, e⟩
       · cases h2)
theorem comp_any {X : Cx} {Wx : WX} {sc : Scope} {e : Expr} {m : ME Fn} (g : XG Γ φ X Wx sc) (hm : isCompM m = true) (h : chkE Γ X.N sc m e = true) : CompP X Wx (fun ρ => evE φ ρ m) e := by
  cases m <;> first
    | (cases hm; done)
    | exact comp_parts g h
    | exact compIf_parts g h
section
variable {X : Cx} {Wx : WX} {sc : Scope} (g : XS Γ φ X Wx sc)
include g
theorem XS.sto {x : Str} (h : stoB sc x = true) : Loc X.env.scope x ∧ (X.fn x = true ∨ X.env.scope.names.lookup x = some .local) := by
  refine ⟨?_, .inl (g.fn x)⟩
  rw [g.sc]
  unfold stoB at h
  split at h
  · exact .inl (by assumption)
  · exact .inr (by assumption)
  · cases h
theorem asg_comp {f : Env → W → Res D} {i : Nat} {x : Str} {py spos : Pos} {e : Expr} (hi : X.N[i]? = some x) (hs : stoB sc x = true) (c : CompP X Wx f e) : PS X (.Assign [.Name x py] e spos) (tAsg (lftF X.K f Wx) (gName i)) := by
  obtain ⟨y, tg, iter, ifs, scope, pos, own, wi, gg, tt, te, rfl, hI, ok, hg, ht, he, hf, rd⟩ := c
  obtain ⟨l, f⟩ := g.sto hs
  have key : swapsWith (.ListComp y [⟨tg, iter, ifs, 0⟩] scope pos) (some (.Name x py)) spos.line X.env = pure (X.env.blockKind == .function && X.env.kindOf x == some .local && py.line == pos.line && !(scope.names.any fun (n, k) => n == x && (k == .local || k == .cell))) := rfl
  cases hb : (X.env.blockKind == .function && X.env.kindOf x == some .local && py.line == pos.line && !(scope.names.any fun (n, k) => n == x && (k == .local || k == .cell))) with
  | true =>
    rw [hb] at key
    have hl : X.env.scope.names.lookup x = some .local := by
      simp only [Bool.and_eq_true, beq_iff_eq] at hb
      exact hb.1.1.2
    exact weakS (ps_setLc g.calm g.nd hi hl key hI ok hg ht he hf) fun D σ H q => rd σ H _ q
  | false =>
    rw [hb] at key
    exact weakS (ps_set g.nd hi l (pe_lc g.calm g.nd hI ok hg ht he hf) key f) fun D σ H q => rd σ H _ q
end

theorem ip_ext {X : Cx} : PIp X .Add rExt2 := fun pins s σ H x y v u Q I rx ry h => iop_ext pins s σ H x y v u Q I rx ry h
theorem isCompM_not {e : ME Fn} {N : List Str} {sc : Scope} {y : Expr} (h : (notComp y || isCompM e) = true) : notComp y = true ∨ isCompM e = true := by simpa using h
mutual
theorem ok_s : ∀ (m : MS Fn) {X : Cx} {Wx : WX} {sc : Scope} {st : Stmt}, XS Γ φ X Wx sc → chkS Γ X.N sc m st = true → ∀ S0 H0, PS X st (lftS X.K (fun ρ => evS φ ρ m) Wx S0 H0)
  | .set i e, X, Wx, sc, st, g, h, S0, H0 => by
    unfold chkS at h
    split at h
    · simp only [Bool.and_eq_true, decide_eq_true_eq] at h
      obtain ⟨⟨⟨h1, h2⟩, h3⟩, h4⟩ := h
      obtain ⟨l, f⟩ := g.sto h2
      rcases isCompM_not (N := X.N) (sc := sc) h4 with hn | hm
      · refine weakS (ps_set g.nd h1 l (ok_e e g.toXG h3).v (sw_false hn _ _ _) f) fun D σ H q => ?_
        obtain ⟨ρ, w, S, st, p⟩ := q
        dsimp only at p
        unfold evS at p
        refine ⟨ρ, w, S, st.sb, st.e, (postO.of (R := RD) st p).imp fun x H1 ⟨d, w1, S1, sb, n, st1, r, p1⟩ => ?_⟩
        exact p1 _ _ _ (st1.setV r)
      · refine weakS (asg_comp g h1 h2 (comp_any g.toXG hm h3)) fun D σ H q => ?_
        obtain ⟨ρ, w, S, st, p⟩ := q
        dsimp only at p
        unfold evS at p
        refine ⟨ρ, w, S, st.sb, st.e, postF_of ((postO.of (R := RD) st p).imp fun x H1 ⟨d, w1, S1, sb, n, st1, r, p1⟩ => ?_) fun d w' he => comp_lst hm he⟩
        exact p1 _ _ _ (st1.setV r)
    · cases h
  | .setO i e, X, Wx, sc, st, g, h, S0, H0 => by
    unfold chkS at h
    split at h
    · simp only [Bool.and_eq_true, decide_eq_true_eq] at h
      obtain ⟨⟨⟨h1, h2⟩, h3⟩, h4⟩ := h
      obtain ⟨l, f⟩ := g.sto h2
      have rd : ∀ (D : Ends) (σ : St) (H : Hp), lftS X.K (fun ρ => evS φ ρ (.setO i e)) Wx S0 H0 D σ H → tAsg (lftF X.K (fun ρ => evE φ ρ e) Wx) (gName i) D σ H := by
        intro D σ H q
        obtain ⟨ρ, w, S, st, p⟩ := q
        dsimp only at p
        unfold evS at p
        refine ⟨ρ, w, S, st.sb, st.e, ?_⟩
        dsimp only
        cases hr : evE φ ρ e w with
        | exc c w1 => rw [hr] at p; exact fun S' H' n sb => p S' H' σ (st.step n sb)
        | stk => rw [hr] at p; exact p
        | ok d w1 =>
          rw [hr] at p
          cases d with
          | p d =>
            cases d with
            | list ds => exact fun S' H' a xs nx sb ha na hacc ra => p _ _ _ (st.setO nx sb ha na hacc ra)
            | _ => exact p
          | _ => exact p
      rcases Bool.or_eq_true_iff.mp h4 with h5 | hm
      · obtain ⟨h6, hn⟩ := bt h5
        cases e <;> first
          | (cases h6; done)
          | exact weakS (ps_set g.nd h1 l (lst_F g.toXG h3) (sw_false hn _ _ _) f) rd
      · exact weakS (asg_comp g h1 h2 (comp_any g.toXG hm h3)) rd
    · cases h
  | .parO i es j k, X, Wx, sc, st, g, h, S0, H0 => by
    unfold chkS at h
    split at h
    · rename_i x px y py k1 p1 va vb k2 p2 pos
      simp only [Bool.and_eq_true, decide_eq_true_eq] at h
      obtain ⟨⟨⟨⟨⟨⟨⟨h1, h2⟩, hij⟩, h3⟩, h4⟩, l1⟩, l2⟩, h5⟩ := h
      split at h5
      · rename_i ns hw
        have e1 := of_decide_eq_true h5
        subst e1
        have lx : X.env.scope.names.lookup x = some .local := by rw [g.sc]; exact of_decide_eq_true l1
        have ly : X.env.scope.names.lookup y = some .local := by rw [g.sc]; exact of_decide_eq_true l2
        unfold chkE at h4
        split at h4
        · have z := of_decide_eq_true h4
          subst z
          refine weakS (ps_par g.calm g.nd h1 h2 hij lx ly (pa_cons (lst_F g.toXG h3) (pa_cons pe_int pa_nil) (star_cons h3 _ _)) (swR_ok g.sc (by rw [← g.sc]; exact g.kind) hw) rfl) fun D σ H q => ?_
          obtain ⟨ρ, w, S, st, p⟩ := q
          dsimp only at p
          unfold evS at p
          refine ⟨ρ, w, S, st.sb, st.e, ?_⟩
          dsimp only
          cases hr : evE φ ρ (.lst es) w with
          | exc c w1 => rw [hr] at p; exact fun S' H' n sb => p S' H' σ (st.step n sb)
          | stk => rw [hr] at p; exact p
          | ok d w1 =>
            rw [hr] at p
            cases d with
            | p d =>
              cases d with
              | list ds => exact fun S' H' a xs nx sb ha na hacc ra => ⟨_, _, rfl, p _ _ _ ((st.setO nx sb ha na hacc ra).setV (d := .int k) (Rp.int k))⟩
              | _ => exact p
            | _ => exact p
        · cases h4
      · cases h5
    · cases h
  | .par is es, X, Wx, sc, st, g, h, S0, H0 => by
    unfold chkS at h
    split at h
    · rename_i ts k1 p1 vs k2 p2 pos
      simp only [Bool.and_eq_true, decide_eq_true_eq] at h
      obtain ⟨⟨⟨h1, h2⟩, h3⟩, h4⟩ := h
      have hA := ok_es es g.toXG h2
      have hsw : swapsWithSole [.Tuple ts k1 p1] (.Tuple vs k2 p2) pos.line X.env = pure false := rfl
      unfold parB at h4
      split at h4
      · rename_i hw
        obtain ⟨a, b, c⟩ := pgs_of g.nd (fun x hx => g.sto hx) h1
        refine weakS (ps_asg (pe_tup hA) (pg_tup g.calm a b c) hsw (swR_ok g.sc (by rw [← g.sc]; exact g.kind) hw) rfl) fun D σ H q => ?_
        obtain ⟨ρ, w, S, st, p⟩ := q
        dsimp only at p
        unfold evS at p
        refine ⟨ρ, w, S, st.sb, st.e, ?_⟩
        dsimp only
        cases hr : evEs φ ρ es w with
        | exc c w1 => rw [hr] at p; exact fun S' H' n sb => p S' H' σ (st.step n sb)
        | stk => rw [hr] at p; exact p
        | ok ds w1 =>
          rw [hr] at p
          have p : postO X.K S0 H0 (nxtO (setDs ρ is ds) w1) D _ := p
          intro S1 H1 xs n1 sb1 r1
          refine ⟨by rw [r1.length, evEs_len h2 hr]; exact small_line h3, fun a ha => ?_⟩
          cases hp : setDs ρ is ds with
          | none => rw [hp] at p; exact p.elim
          | some ρ' =>
            rw [hp] at p
            have na := sb1.free ha
            have st2 := (st.step n1 sb1).step (Nxt.newO (o := .tup xs) ha) (sb1.updO na (nf_none ha))
            exact ⟨a, xs, rfl, SqT.of upd_same, by rw [r1.length, setDs_len hp], gIs_D is hp r1 st2 fun σ' st' => p _ _ _ st'⟩
      · rename_i ns hw
        split at h4
        · rename_i x px y py i j v1 v2
          simp only [Bool.and_eq_true, decide_eq_true_eq] at h4
          obtain ⟨⟨⟨e1, l1⟩, l2⟩, hij⟩ := h4
          subst e1
          simp only [chkNs, Bool.and_eq_true, decide_eq_true_eq] at h1
          have lx : X.env.scope.names.lookup x = some .local := by rw [g.sc]; exact of_decide_eq_true l1
          have ly : X.env.scope.names.lookup y = some .local := by rw [g.sc]; exact of_decide_eq_true l2
          refine weakS (ps_par g.calm g.nd h1.1.1 h1.2.1.1 hij lx ly hA (swR_ok g.sc (by rw [← g.sc]; exact g.kind) hw) hsw) fun D σ H q => ?_
          obtain ⟨ρ, w, S, st, p⟩ := q
          dsimp only at p
          unfold evS at p
          refine ⟨ρ, w, S, st.sb, st.e, (postO.of (R := RDs) st p).imp fun xs H1 ⟨ds, w1, S1, sb, n, st1, r, p1⟩ => ?_⟩
          cases hp : setDs ρ [i, j] ds with
          | none => rw [hp] at p1; exact p1.elim
          | some ρ' =>
            rw [hp] at p1
            cases r with
            | nil => cases hp
            | cons ra r =>
              cases r with
              | nil => cases hp
              | cons rb r =>
                cases r with
                | cons rc r => cases hp
                | nil =>
                  cases hp
                  exact ⟨_, _, rfl, p1 _ _ _ ((st1.setV ra).setV rb)⟩
        · rename_i x px y py z pz i j l v1 v2 v3
          simp only [Bool.and_eq_true, decide_eq_true_eq] at h4
          obtain ⟨⟨⟨⟨e1, l1⟩, l2⟩, l3⟩, hij⟩ := h4
          subst e1
          simp only [chkNs, Bool.and_eq_true, decide_eq_true_eq] at h1
          have lx : X.env.scope.names.lookup x = some .local := by rw [g.sc]; exact of_decide_eq_true l1
          have ly : X.env.scope.names.lookup y = some .local := by rw [g.sc]; exact of_decide_eq_true l2
          have lz : X.env.scope.names.lookup z = some .local := by rw [g.sc]; exact of_decide_eq_true l3
          refine weakS (ps_par3 g.calm g.nd h1.1.1 h1.2.1.1 h1.2.2.1.1 hij.1 hij.2.1 hij.2.2 lx ly lz hA (swR_ok g.sc (by rw [← g.sc]; exact g.kind) hw) hsw) fun D σ H q => ?_
          obtain ⟨ρ, w, S, st, p⟩ := q
          dsimp only at p
          unfold evS at p
          refine ⟨ρ, w, S, st.sb, st.e, (postO.of (R := RDs) st p).imp fun xs H1 ⟨ds, w1, S1, sb, n, st1, r, p1⟩ => ?_⟩
          cases hp : setDs ρ [i, j, l] ds with
          | none => rw [hp] at p1; exact p1.elim
          | some ρ' =>
            rw [hp] at p1
            cases r with
            | nil => cases hp
            | cons ra r =>
              cases r with
              | nil => cases hp
              | cons rb r =>
                cases r with
                | nil => cases hp
                | cons rc r =>
                  cases r with
                  | cons rd r => cases hp
                  | nil =>
                    cases hp
                    exact ⟨_, _, _, rfl, p1 _ _ _ (((st1.setV ra).setV rb).setV rc)⟩
        · cases h4
      · cases h4
    · cases h
  | .unp is e, X, Wx, sc, st, g, h, S0, H0 => by
    unfold chkS at h
    split at h
    · rename_i ts k1 p1 y pos
      simp only [Bool.and_eq_true] at h
      obtain ⟨⟨h1, h2⟩, h3⟩ := h
      obtain ⟨a, b, c⟩ := pgs_of g.nd (fun x hx => g.sto hx) h1
      have hsw : swapsWithSole [.Tuple ts k1 p1] y pos.line X.env = pure false := by cases y <;> rfl
      have hst : swappedStores [.Tuple ts k1 p1] y X.env = pure none := by
        cases y <;> first
          | rfl
          | (cases h3; done)
      refine weakS (ps_asg (ok_e e g.toXG h2).v (pg_tup g.calm a b c) hsw hst rfl) fun D σ H q => ?_
      obtain ⟨ρ, w, S, st, p⟩ := q
      dsimp only at p
      unfold evS at p
      refine ⟨ρ, w, S, st.sb, st.e, (postO.of (R := RD) st p).imp fun x H1 ⟨d, w1, S1, sb, n, st1, r, p1⟩ => ?_⟩
      split at p1
      · rename_i ds
        cases hp : setVs ρ is ds with
        | none => rw [hp] at p1; exact p1.elim
        | some ρ' =>
          rw [hp] at p1
          cases (show Rp S1 _ x from r) with
          | tup h4 q4 => exact ⟨_, _, rfl, SqT.of (sb.tup h4), by rw [q4.length, setVs_len hp], gIs_S is hp q4 st1 fun σ' st' => p1 _ _ _ st'⟩
      · exact p1.elim
    · cases h
  | .aug i op e, X, Wx, sc, st, g, h, S0, H0 => by
    unfold chkS at h
    split at h
    · simp only [Bool.and_eq_true, decide_eq_true_eq] at h
      obtain ⟨⟨⟨⟨h1, h2⟩, h3⟩, h4⟩, h5⟩ := h
      obtain ⟨l, f⟩ := g.sto h2
      subst h3
      have key : ∀ (ff : Int → Int → Int), (∀ x y, binD op (.int x) (.int y) = some (.int (ff x y))) → ∀ (D : Ends) (σ : St) (H : Hp), lftS X.K (fun ρ => evS φ ρ (.aug i op e)) Wx S0 H0 D σ H → tAug i (lft X.K RD (fun ρ => evE φ ρ e) Wx) (ipI ff) D σ H := by
        intro ff hff D σ H q
        obtain ⟨ρ, w, S, st, p⟩ := q
        dsimp only at p
        unfold evS at p
        split at p
        · rename_i x hx
          obtain ⟨v, hv, rv⟩ := st.e.val i _ hx
          cases (show Rp S _ v from rv)
          refine ⟨_, hv, ρ, w, S, st.sb, st.e, (postO.of (R := RD) st p).imp fun y H1 ⟨d, w1, S1, sb, n, st1, r, p1⟩ => ?_⟩
          split at p1
          · rename_i z
            rw [hff] at p1
            cases (show Rp S1 _ y from r)
            exact ⟨_, _, rfl, rfl, p1 _ _ _ (st1.setV (d := .p (.int _)) (.int _))⟩
          · exact p1.elim
        · exact p.elim
      rcases h4 with rfl | rfl
      · exact weakS (ps_aug g.nd h1 l (ok_e e g.toXG h5).v ip_add f) (key _ fun _ _ => rfl)
      · exact weakS (ps_aug g.nd h1 l (ok_e e g.toXG h5).v ip_sub f) (key _ fun _ _ => rfl)
    · cases h
  | .extO i e, X, Wx, sc, st, g, h, S0, H0 => by
    unfold chkS at h
    split at h
    · simp only [Bool.and_eq_true, decide_eq_true_eq] at h
      obtain ⟨⟨h1, h2⟩, h3⟩ := h
      obtain ⟨l, f⟩ := g.sto h2
      refine weakS (ps_aug g.nd h1 l (ok_e e g.toXG h3).v ip_ext f) fun D σ H q => ?_
      obtain ⟨ρ, w, S, st, p⟩ := q
      dsimp only at p
      unfold evS at p
      split at p
      · rename_i xs hO
        obtain ⟨a, ys, k1, k2, k3, k4⟩ := st.e.own i xs hO
        refine ⟨_, k1, ρ, w, S, st.sb, st.e, (postO.of (R := RD) st p).imp fun y H1 ⟨d, w1, S1, sb, n, st1, r, p1⟩ => ?_⟩
        split at p1
        · rename_i zs
          split at p1
          · rename_i hsz
            obtain ⟨b, us, m1, m2, m3, m4⟩ := st1.e.own i xs hO
            rw [k1] at m1
            cases m1
            cases (show Rp S1 _ y from r) with
            | lst h4 q4 =>
              refine ⟨a, _, us, _, rfl, rfl, m3, sb.lst h4, ?_, ?_⟩
              · rw [m4.length, q4.length]
                have := line_le
                have := of_decide_eq_true hsz
                omega
              · have z := p1 _ _ _ (st1.chg hO k1 m2 (m4.append q4))
                have hset : σ.set i (some (V.ref a)) = σ := by
                  obtain ⟨hl, he⟩ := List.getElem?_eq_some_iff.mp k1
                  rw [← he]
                  exact List.set_getElem_self hl
                show D.nx (σ.set i (some (V.ref a))) _
                rw [hset]
                exact z
          · exact p1.elim
        · exact p1.elim
      · exact p.elim
    · cases h
  | .setRow i e, X, Wx, sc, st, g, h, S0, H0 => by
    unfold chkS at h
    split at h
    · rename_i x px nm ap y pos
      simp only [Bool.and_eq_true, decide_eq_true_eq] at h
      obtain ⟨⟨⟨⟨⟨h1, h2⟩, h3⟩, h4⟩, h5⟩, h6⟩ := h
      obtain ⟨n1, n2⟩ := okN_of h3
      subst h4
      obtain ⟨C, A1, A2⟩ := g.stpC h5
      refine weakS (ps_fld (pe_var h1 (g.vis h2) n1 n2) (ok_e e g.toXG h6).v (by cases y <;> rfl)) fun D σ H q => ?_
      obtain ⟨ρ, w, S, st, p⟩ := q
      dsimp only at p
      unfold evS at p
      refine ⟨ρ, w, S, st.sb, st.e, (postO.of (R := RD) st p).imp fun y H1 ⟨d, w1, S1, sb, n, st1, r, p1⟩ => ?_⟩
      split at p1
      · rename_i xs row0 past hV hsp
        obtain ⟨v, hv, a, e1, hS⟩ := st1.e.val i _ hV
        subst e1
        obtain ⟨row, past', r0, p0, dx, xs0, e0, k1, k2, k3, k4, k5, k6⟩ := sb.ok a _ hS
        rw [hsp] at e0
        cases e0
        cases (show Rp S1 (.list xs) y from r) with
        | lst m1 m2 =>
          have np0 : p0 ≠ a := by rintro rfl; rw [hS] at k3; cases k3
          exact ⟨_, hv, a, _, dx, _, rfl, k1, C, A1, (by show 2 < 1000; decide), p1 _ _ _ (st1.step (Nxt.chgS hS) (sb.strip hS upd_same (Rp.lst m1 m2) k3 (by rw [upd_ne np0]; exact k4) k5 k6 fun b h1 h2 => upd_ne h1))⟩
      · exact p1.elim
    · cases h
  | .appPast i, X, Wx, sc, st, g, h, S0, H0 => by
    unfold chkS at h
    split at h
    · simp only [Bool.and_eq_true, decide_eq_true_eq] at h
      obtain ⟨⟨⟨⟨⟨⟨⟨⟨h1, h2⟩, h3⟩, h4⟩, h5⟩, h6⟩, h7⟩, h8⟩, h9⟩ := h
      obtain ⟨n1, n2⟩ := okN_of h3
      subst h4 h5 h6 h7
      obtain ⟨C, A1, A2⟩ := g.stpC h8
      refine weakS (ps_expr (pe_bm PySem.F.plainAttrs_list PySem.F.slot_list_append PySem.F.type_list_append mt_append (pe_fld (pe_var h1 (g.vis h2) n1 n2) rfl) (pa_cons (pe_fld (pe_var h1 (g.vis h2) n1 n2) rfl) pa_nil) rfl rfl h9 rfl) rfl) fun D σ H q => ?_
      obtain ⟨ρ, w, S, st, p⟩ := q
      dsimp only at p
      unfold evS at p
      split at p
      · rename_i row past hV hsp
        obtain ⟨v, hv, a, e1, hS⟩ := st.e.val i _ hV
        subst e1
        obtain ⟨row', past', r0, p0, dx, xs0, e0, k1, k2, k3, k4, k5, k6⟩ := st.sb.ok a _ hS
        rw [hsp] at e0
        cases e0
        split at p
        · rename_i hsz
          have np0 : a ≠ p0 := by rintro rfl; rw [hS] at k3; cases k3
          refine ⟨_, hv, a, _, dx, _, _, rfl, k1, C, A2, rfl, .inl ⟨rfl, _, SqL.of k4⟩, _, hv, a, _, dx, _, _, rfl, k1, C, A1, rfl, p0, xs0, _, rfl, rfl, k4, ?_, p _ _ _ (st.step (Nxt.chgS k3) (st.sb.strip hS (by rw [upd_ne np0]; exact k1) k2 k3 upd_same (k5.append (.cons k2 .nil)) k6 fun b h1 h2 => upd_ne h2))⟩
          rw [k5.length]
          have := line_le
          have := of_decide_eq_true hsz
          have : (16000000 : Nat) < sizeLine := by rw [sizeLine_eq]; decide
          omega
        · exact p.elim
      · exact p.elim
    · cases h
  | .popPast i, X, Wx, sc, st, g, h, S0, H0 => by
    unfold chkS at h
    split at h
    · simp only [Bool.and_eq_true, decide_eq_true_eq] at h
      obtain ⟨⟨⟨⟨⟨⟨⟨⟨h1, h2⟩, h3⟩, h4⟩, h5⟩, h6⟩, h7⟩, h8⟩, h9⟩ := h
      obtain ⟨n1, n2⟩ := okN_of h3
      subst h4 h5 h6 h7
      obtain ⟨C, A1, A2⟩ := g.stpC h8
      refine weakS (ps_fld (pe_var h1 (g.vis h2) n1 n2) (pe_bm0 PySem.F.plainAttrs_list PySem.F.slot_list_pop PySem.F.type_list_pop mt_pop (pe_fld (pe_var h1 (g.vis h2) n1 n2) rfl) rfl h9) rfl) fun D σ H q => ?_
      obtain ⟨ρ, w, S, st, p⟩ := q
      dsimp only at p
      unfold evS at p
      split at p
      · rename_i row past hV hsp
        obtain ⟨v, hv, a, e1, hS⟩ := st.e.val i _ hV
        subst e1
        obtain ⟨row', past', r0, p0, dx, xs0, e0, k1, k2, k3, k4, k5, k6⟩ := st.sb.ok a _ hS
        rw [hsp] at e0
        cases e0
        split at p
        · rename_i r hg
          have np0 : a ≠ p0 := by rintro rfl; rw [hS] at k3; cases k3
          obtain ⟨v, hv2, rv⟩ := k5.get hg
          cases rv with
          | lst m1 m2 =>
            refine ⟨_, hv, a, _, dx, _, _, rfl, k1, C, A2, rfl, .inl ⟨rfl, _, SqL.of k4⟩, p0, xs0, _, rfl, rfl, k4, by rw [k5.length]; exact hv2, _, hv, a, _, dx, _, rfl, by rw [upd_ne np0]; exact k1, C, A1, (by show 2 < 1000; decide), ?_⟩
            refine p _ _ _ (st.step ((Nxt.chgS k3).trans (Nxt.chgS hS)) (st.sb.strip hS upd_same (Rp.lst m1 m2) k3 (by rw [upd_ne (Ne.symm np0), upd_same]) k5.dropLast k6 fun b h1 h2 => by rw [upd_ne h1, upd_ne h2]))
        · exact p.elim
      · exact p.elim
    · cases h
  | .wild, X, Wx, sc, st, g, h, S0, H0 => ⟨fun pins s σ H D I q => by
      obtain ⟨ρ, w, S, st, p⟩ := q
      dsimp only at p
      unfold evS at p
      exact p.elim⟩
  | .ptsApp i e, X, Wx, sc, st, g, h, S0, H0 => by
    unfold chkS at h
    split at h
    · simp only [Bool.and_eq_true, decide_eq_true_eq] at h
      obtain ⟨⟨⟨⟨⟨⟨⟨⟨h1, h2⟩, h3⟩, h4⟩, h5⟩, h6⟩, h7⟩, h8⟩, h9⟩ := h
      obtain ⟨n1, n2⟩ := okN_of h3
      subst h4 h5
      obtain ⟨C, A1, A2⟩ := g.stpC h6
      obtain ⟨R2, _, fa, fd, ps, F, M, B⟩ := g.lnp h6
      refine weakS (ps_expr (pe_bm PySem.F.plainAttrs_list PySem.F.slot_list_append PySem.F.type_list_append mt_append (pe_methS0 (pe_var h1 (g.vis h2) n1 n2) C M F (R2.mono (by decide)) B (fun σ => L2N.passAt g.tk σ) (meth_eval rfl rfl h7)) (pa_cons (ok_e e g.toXG h9).v pa_nil (star_cons h9 _ _)) rfl (by rw [star_cons h9]; rfl) h8 (star_cons h9 _ _)) rfl) fun D σ H q => ?_
      obtain ⟨ρ, w, S, st, p⟩ := q
      dsimp only at p
      unfold evS at p
      split at p
      · rename_i xs past hV hsp
        obtain ⟨v, hv, a, e1, hS⟩ := st.e.val i _ hV
        subst e1
        obtain ⟨row', past', r0, p0, dx, xs0, e0, k1, k2, k3, k4, k5, k6⟩ := st.sb.ok a _ hS
        rw [hsp] at e0
        cases e0
        split at p
        · rename_i hsz
          cases k2 with
          | lst m1 m2 =>
            rename_i ys
            refine ⟨_, hv, a, dx, _, rfl, k1, rfl, a, dx, r0, p0, ys, rfl, k1, st.sb.lst m1, fun b hb => ?_⟩
            have nb := st.sb.free hb
            have nx0 : Nxt S H S (upd H b (.lst ys)) := Nxt.newO hb
            have st0 := st.step nx0 (st.sb.updO nb (nf_none hb) (o := .lst ys))
            refine ⟨.inl ⟨rfl, _, SqL.of upd_same⟩, ρ, w, S, st0.sb, st0.e, (postO.of (R := RD) st0 p).imp fun y H1 ⟨d, w1, S1, sb, n, st1, r, p1⟩ => ?_⟩
            split at p1
            · obtain ⟨hb1, nb1⟩ := n.k b _ nb upd_same
              refine ⟨b, ys, y, rfl, rfl, hb1, ?_, ?_⟩
              · rw [m2.length]
                have := line_le
                have := of_decide_eq_true hsz
                have : (16000000 : Nat) < sizeLine := by rw [sizeLine_eq]; decide
                omega
              · have nx2 : Nxt S H S1 (upd H1 b (.lst (ys ++ [y]))) := ⟨n.s, fun c o nc hc => by
                  have hne : c ≠ b := by rintro rfl; rw [hb] at hc; cases hc
                  obtain ⟨z1, z2⟩ := n.k c o nc (by rw [upd_ne hne]; exact hc)
                  rw [upd_ne hne]
                  exact ⟨z1, z2⟩⟩
                exact p1 _ _ _ (st.step nx2 (sb.updO nb1 (nf_lst hb1)))
            · exact p1.elim
        · exact p.elim
      · exact p.elim
    · cases h
  | .popO j i, X, Wx, sc, st, g, h, S0, H0 => by
    unfold chkS at h
    split at h
    · rename_i x px p pp lp cp0 p2 pp2 nm ap cp x2 px2 ip pos
      simp only [Bool.and_eq_true, decide_eq_true_eq] at h
      obtain ⟨⟨⟨⟨⟨⟨⟨⟨⟨⟨⟨h1, h2⟩, h3⟩, h4⟩, h5⟩, h6⟩, h7⟩, h8⟩, h9⟩, hij⟩, hvx⟩, hln⟩ := h
      obtain ⟨n1, n2⟩ := okN_of h3
      obtain ⟨m1, m2⟩ := okN_of h6
      subst h7 h8 h9
      obtain ⟨l, f⟩ := g.sto h2
      have un : X.A.units + 64 < cLine := by have := g.un; omega
      refine weakS (ps_set g.nd h1 l (pe_ifExp (pt_cmpR (op_neD un) (pe_var h4 (g.vis h5) m1 m2) (pe_lst pa_nil) (nomark _)) (pe_bm0 PySem.F.plainAttrs_list PySem.F.slot_list_pop PySem.F.type_list_pop mt_pop (pe_var h4 (g.vis h5) m1 m2) rfl hln) (pe_var h1 (g.vis hvx) n1 n2)) rfl f) fun D σ H q => ?_
      obtain ⟨ρ, w, S, st, p⟩ := q
      dsimp only at p
      unfold evS at p
      split at p
      · rename_i xs d hO hV
        obtain ⟨a, ys, k1, k2, k3, k4⟩ := st.e.own i xs hO
        split at p
        · rename_i hsh
          refine ⟨_, k1, Nat.zero_le _, fun b hb => ?_⟩
          have nb := st.sb.free hb
          have hne : a ≠ b := by rintro rfl; rw [hb] at k3; cases k3
          have nx0 : Nxt S H S (upd H b (.lst [])) := Nxt.newO hb
          have st0 := st.step nx0 (st.sb.updO nb (nf_none hb) (o := .lst []))
          refine ⟨.list xs, .list [], .lst (SqL.of (by rw [upd_ne hne]; exact k3)) (k4.dp st0.sb), .lst (SqL.of upd_same) .nil, hsh.1, hsh.2, _, rfl, ?_⟩
          cases xs with
          | nil =>
            rw [if_neg (by show ¬ (!PyData.eqv (.list []) (.list [])) = true; simp [PyData.eqv, PyData.eqvAll])]
            dsimp only [List.length_nil] at p
            obtain ⟨v, hv, rv⟩ := st0.e.val j d hV
            exact ⟨v, hv, p _ _ _ (st0.setV rv)⟩
          | cons x0 xs =>
            rw [if_pos (by show (!PyData.eqv (.list (x0 :: xs)) (.list [])) = true; simp [PyData.eqv, PyData.eqvAll])]
            split at p
            · rename_i r hg
              obtain ⟨v, hv, rv⟩ := k4.get hg
              refine ⟨_, k1, .inl ⟨rfl, _, SqL.of (by rw [upd_ne hne]; exact k3)⟩, a, ys, v, rfl, rfl, by rw [upd_ne hne]; exact k3, by rw [k4.length]; exact hv, ?_⟩
              have stc := st0.chg hO k1 k2 k4.dropLast
              exact p _ _ _ (stc.setV (d := .p r) (show Rp S r v from rv))
            · rename_i hg
              have := List.getElem?_eq_none_iff.mp hg
              simp only [List.length_cons] at this
              omega
        · exact p.elim
      · exact p.elim
    · cases h
  | .par3O f i j k, X, Wx, sc, st, g, h, S0, H0 => by
    unfold chkS at h
    split at h
    · rename_i x px y py z pz tk tp a q1 q2 k2 vp pos
      simp only [Bool.and_eq_true, decide_eq_true_eq] at h
      obtain ⟨⟨⟨⟨⟨⟨⟨⟨h1, h2⟩, h3⟩, hij⟩, h4⟩, l1⟩, l2⟩, l3⟩, h5⟩ := h
      split at h5
      · rename_i ns hw
        have e1 := of_decide_eq_true h5
        subst e1
        have lx : X.env.scope.names.lookup x = some .local := by rw [g.sc]; exact of_decide_eq_true l1
        have ly : X.env.scope.names.lookup y = some .local := by rw [g.sc]; exact of_decide_eq_true l2
        have lz : X.env.scope.names.lookup z = some .local := by rw [g.sc]; exact of_decide_eq_true l3
        refine weakS (ps_par3 g.calm g.nd h1 h2 h3 hij.1 hij.2.1 hij.2.2 lx ly lz (pa_cons (ok_e (.mkS f) g.toXG h4).v (pa_cons (pe_lst pa_nil) (pa_cons (pe_lst pa_nil) pa_nil)) (star_cons h4 _ _)) (swR_ok g.sc (by rw [← g.sc]; exact g.kind) hw) rfl) fun D σ H q => ?_
        obtain ⟨ρ, w, S, st, p⟩ := q
        dsimp only at p
        unfold evS at p
        have p : postO X.K S0 H0 ((evE φ ρ (.mkS f) w).toO ρ fun d w1 => .next ((Ev.setV (Ev.setV ρ i d) j (.lst [])).set k (.own [])) w1) D (wE X.K Wx) := by unfold evE; exact p
        refine ⟨ρ, w, S, st.sb, st.e, (postO.of (R := RD) st p).imp fun y1 H1 ⟨d, w1, S1, sb, n, st1, r, p1⟩ => ?_⟩
        refine ⟨Nat.zero_le _, fun b hb => ⟨Nat.zero_le _, fun c hc => ⟨_, _, _, rfl, ?_⟩⟩⟩
        have st2 := st1.step (Nxt.new (o := .lst []) (g := .lst []) (sb.free hb) hb) (sb.newL hb)
        have sc2 := st2.sb.free hc
        exact p1 _ _ _ (((st2.setV (r.mono (LeG.upd (sb.free hb)))).setV (d := .lst []) (v := .ref b) (Rp.lst updG_same .nil)).setO (Nxt.newO hc) (st2.sb.updO sc2 (nf_none hc)) hc sc2 upd_same .nil)
      · cases h5
    · cases h
  | .app i e, X, Wx, sc, st, g, h, S0, H0 => by
    unfold chkS at h
    split at h
    · simp only [Bool.and_eq_true, decide_eq_true_eq] at h
      obtain ⟨⟨⟨⟨⟨h1, h2⟩, h3⟩, h4⟩, h5⟩, h6⟩ := h
      obtain ⟨n1, n2⟩ := okN_of h3
      subst h4
      refine weakS (ps_expr (pe_bm PySem.F.plainAttrs_list PySem.F.slot_list_append PySem.F.type_list_append mt_append (pe_var h1 (g.vis h2) n1 n2) (pa_cons (ok_e e g.toXG h6).v pa_nil (star_cons h6 _ _)) rfl (by rw [star_cons h6]; rfl) h5 (star_cons h6 _ _)) rfl) fun D σ H q => ?_
      obtain ⟨ρ, w, S, st, p⟩ := q
      dsimp only at p
      unfold evS at p
      split at p
      · rename_i xs hO
        obtain ⟨a, ys, k1, k2, k3, k4⟩ := st.e.own i xs hO
        refine ⟨_, k1, .inl ⟨rfl, _, SqL.of k3⟩, ρ, w, S, st.sb, st.e, (postO.of (R := RD) st p).imp fun y H1 ⟨d, w1, S1, sb, n, st1, r, p1⟩ => ?_⟩
        split at p1
        · rename_i z
          split at p1
          · rename_i hsz
            obtain ⟨b, us, m1, m2, m3, m4⟩ := st1.e.own i xs hO
            rw [k1] at m1
            cases m1
            refine ⟨a, us, y, rfl, rfl, m3, ?_, p1 _ _ _ (st1.chg hO k1 m2 (m4.append (.cons r .nil)))⟩
            rw [m4.length]
            have := line_le
            have := of_decide_eq_true hsz
            have : (16000000 : Nat) < sizeLine := by rw [sizeLine_eq]; decide
            omega
          · exact p1.elim
        · exact p1.elim
      · exact p.elim
    · cases h
  | .stO i j e, X, Wx, sc, st, g, h, S0, H0 => by
    unfold chkS at h
    split at h
    · rename_i x px z sp y pos
      simp only [Bool.and_eq_true, decide_eq_true_eq] at h
      obtain ⟨⟨⟨⟨h1, h2⟩, h3⟩, h4⟩, h5⟩ := h
      obtain ⟨n1, n2⟩ := okN_of h3
      have hsw : swapsWithSole [.Subscript (.Name x px) z sp] y pos.line X.env = pure false := by cases y <;> rfl
      have hst : swappedStores [.Subscript (.Name x px) z sp] y X.env = pure none := by cases y <;> rfl
      have ha : ∀ v, assign (.Subscript (.Name x px) z sp) X.env v = (do
          let ov ← holding [v] (eval (.Name x px) X.env)
          let iv ← holding [v, ov] (eval z X.env)
          standAt sp
          holding [v, ov, iv] (setItem ov iv v)
          release [v, ov, iv] []) := by
        cases z with
        | Slice a b c q => rw [chk_slice] at h4; cases h4
        | _ => intro _; rfl
      refine weakS (ps_asg (ok_e e g.toXG h5).v (pg_sub (pe_var h1 (g.vis h2) n1 n2) (ok_e j g.toXG h4).v L2.set_list ha) hsw hst rfl) fun D σ H q => ?_
      obtain ⟨ρ, w, S, st, p⟩ := q
      dsimp only at p
      unfold evS at p
      split at p
      · rename_i xs hO
        obtain ⟨a, ys, k1, k2, k3, k4⟩ := st.e.own i xs hO
        refine ⟨ρ, w, S, st.sb, st.e, (postO.of (R := RD) st p).imp fun y H1 ⟨d, w1, S1, sb, n, st1, r, p1⟩ => ?_⟩
        refine ⟨_, k1, ρ, w1, S1, sb, st1.e, (postO.of (R := RD) st1 p1).imp fun jv H2 ⟨d2, w2, S2, sb2, nn2, st2, r2, p2⟩ => ?_⟩
        split at p2
        · rename_i yd kk
          split at p2
          · rename_i nn hnn
            obtain ⟨b, us, m1, m2, m3, m4⟩ := st2.e.own i xs hO
            rw [k1] at m1
            cases m1
            cases (show Rp S2 _ jv from r2)
            refine ⟨a, us, _, nn, rfl, rfl, m3, by rw [m4.length]; exact hnn, ?_⟩
            exact p2 _ _ _ (st2.chg hO k1 m2 (Rps.set ((show Rp S1 _ y from r).mono nn2.s) nn m4))
          · exact p2.elim
        · exact p2.elim
      · exact p.elim
    · cases h
  | .ife c a b, X, Wx, sc, st, g, h, S0, H0 => by
    unfold chkS at h
    split at h
    · simp only [Bool.and_eq_true] at h
      obtain ⟨⟨h1, h2⟩, h3⟩ := h
      refine weakS (ps_if (ok_e c g.toXG h1).t (ok_b a g h2 S0 H0) (ok_b b g h3 S0 H0)) fun D σ H q => ?_
      obtain ⟨ρ, w, S, st, p⟩ := q
      dsimp only at p
      unfold evS at p
      refine ⟨ρ, w, S, st.sb, st.e, (postO.of (R := RB) st p).imp fun x H1 ⟨d, w1, S1, sb, n, st1, r, p1⟩ => ?_⟩
      cases r
      cases x with
      | true => rw [if_pos rfl]; exact ⟨ρ, w1, S1, st1, p1⟩
      | false => rw [if_neg Bool.false_ne_true]; exact ⟨ρ, w1, S1, st1, p1⟩
    · cases h
  | .for_ t it b, X, Wx, sc, st, g, h, S0, H0 => by
    unfold chkS at h
    split at h
    · simp only [Bool.and_eq_true] at h
      obtain ⟨⟨h1, h2⟩, h3⟩ := h
      obtain ⟨hi, hs⟩ := ok_i it g.toXG h1
      have hb : PSs X _ (fun D σ H => ∃ S1 H1, lftS X.K (fun ρ => evB φ ρ b) Wx S1 H1 D σ H) := ⟨fun pins s σ H D I ⟨S1, H1, q⟩ => (ok_b b g h3 S1 H1).run pins s σ H D I q⟩
      refine weakS (ps_for g.po g.calm hi (pg_of g.calm g.nd (fun x hx => g.sto hx) h2) hb hs) fun D σ H q => ?_
      obtain ⟨ρ, w, S, st, p⟩ := q
      dsimp only at p
      unfold evS at p
      refine ⟨ρ, w, S, st.sb, st.e, (postO.of (R := RI X.K) st p).imp fun J H1 ⟨xs, w1, S1, sb, n, st1, hJ, p1⟩ => ?_⟩
      obtain ⟨bs, st1'⟩ := Bs.of st1
      refine ⟨fun i m σ' H' => m = xs.length - i ∧ i ≤ xs.length ∧ ∃ ρ' w' S', St4 X.K S1 (lessOwn ρ σ H1) S' H' w' σ' ρ' ∧ postO X.K S0 H0 (forGo (fun ρ' w' => evB φ ρ' b w') t (xs.drop i) ρ' w') D (wE X.K Wx),
        ⟨xs.length, by omega, Nat.zero_le _, ρ, w1, S1, st1', p1⟩, ?_⟩
      rintro i m σ' H' ⟨rfl, hi, ρ', w', S', st', p'⟩
      obtain ⟨j1, j2⟩ := hJ i S' H' w' st'.n.s st'.sb
      by_cases hlt : i < xs.length
      · have hget : xs[i]? = some xs[i] := by simp [hlt]
        obtain ⟨g1, g2⟩ := j2 _ hget
        refine .inr ⟨g1, fun σ' H' => ∃ ρ' w' S', St4 X.K S1 (lessOwn ρ σ H1) S' H' w' σ' ρ' ∧ postO X.K S0 H0 (forGo (fun ρ' w' => evB φ ρ' b w') t (xs.drop (i + 1)) ρ' w') D (wE X.K Wx),
          fun σ' H' z => ⟨_, by omega, rfl, hlt, z⟩, fun x H2 hy => ?_⟩
        obtain ⟨S2, n2, sb2, rx⟩ := g2 x H2 hy
        have st2 := st'.step n2 sb2
        rw [List.drop_eq_getElem_cons hlt] at p'
        unfold forGo at p'
        split at p'
        · exact p'.elim
        · rename_i ρ2 hρ
          refine gT_S t hρ rx st2 fun σ2 st3 => ⟨S1, lessOwn ρ σ H1, ρ2, w', S2, st3, ?_⟩
          dsimp only at p' ⊢
          cases hr : evB φ ρ2 b w' with
          | next ρ3 w3 => rw [hr] at p'; exact fun S H σ st => ⟨ρ3, w3, S, st, p'⟩
          | cont ρ3 w3 => rw [hr] at p'; exact fun S H σ st => ⟨ρ3, w3, S, st, p'⟩
          | brk ρ3 w3 => rw [hr] at p'; exact fun S H σ st => p' S H σ (st.back bs)
          | ret d w3 => rw [hr] at p'; exact postO.rebase (Dn := D) bs p'
          | exc c ρ3 w3 => rw [hr] at p'; exact postO.rebase (Dn := D) bs p'
          | stk => rw [hr] at p'; exact p'.elim
      · have e : i = xs.length := by omega
        subst e
        rw [List.drop_length] at p'
        exact .inl ⟨j1 rfl, p' _ _ _ (st'.back bs)⟩
    · cases h
  | .while_ c b, X, Wx, sc, st, g, h, S0, H0 => by
    unfold chkS at h
    split at h
    · obtain ⟨h1, h2⟩ := bt h
      refine weakS (ps_while g.po (ok_e c g.toXG h1).t (ok_b b g h2 S0 H0)) fun D σ H q => ?_
      obtain ⟨ρ, w, S, st, p⟩ := q
      dsimp only at p
      unfold evS at p
      refine ⟨fun m σ H => ∃ ρ w S, St4 X.K S0 H0 S H w σ ρ ∧ postO X.K S0 H0 (whileGo (fun ρ' w' => evE φ ρ' c w') (fun ρ' w' => evB φ ρ' b w') m ρ w) D (wE X.K Wx), ⟨_, ρ, w, S, st, p⟩, ?_⟩
      rintro m σ H ⟨ρ, w, S, st, p⟩
      cases m with
      | zero => exact p.elim
      | succ m =>
        unfold whileGo at p
        refine ⟨ρ, w, S, st.sb, st.e, (postO.of (R := RB) st p).imp fun x H1 ⟨d, w1, S1, sb, n, st1, r, p1⟩ => ?_⟩
        cases r
        cases x with
        | false => rw [if_neg Bool.false_ne_true]; exact p1 _ _ _ st1
        | true =>
          rw [if_pos rfl]
          refine ⟨fun σ H => ∃ ρ w S, St4 X.K S0 H0 S H w σ ρ ∧ postO X.K S0 H0 (whileGo (fun ρ' w' => evE φ ρ' c w') (fun ρ' w' => evB φ ρ' b w') m ρ w) D (wE X.K Wx), fun σ' H' z => ⟨m, Nat.lt_succ_self m, z⟩, ρ, w1, S1, st1, ?_⟩
          dsimp only at p1 ⊢
          cases hr : evB φ ρ b w1 with
          | next ρ2 w2 => rw [hr] at p1; exact fun S H σ st => ⟨ρ2, w2, S, st, p1⟩
          | cont ρ2 w2 => rw [hr] at p1; exact fun S H σ st => ⟨ρ2, w2, S, st, p1⟩
          | brk ρ2 w2 => rw [hr] at p1; exact p1
          | ret d w2 => rw [hr] at p1; exact p1
          | exc c ρ2 w2 => rw [hr] at p1; exact p1
          | stk => rw [hr] at p1; exact p1
    · cases h
  | .ret e, X, Wx, sc, st, g, h, S0, H0 => by
    unfold chkS at h
    split at h
    · refine weakS (ps_ret (ok_e e g.toXG h).v) fun D σ H q => ?_
      obtain ⟨ρ, w, S, st, p⟩ := q
      dsimp only at p
      unfold evS at p
      refine ⟨ρ, w, S, st.sb, st.e, (postO.of (R := RD) st p).imp fun x H1 ⟨d, w1, S1, sb, n, st1, r, p1⟩ => p1 S1 H1 x st1.n sb r⟩
    · cases h
  | .retN, X, Wx, sc, st, g, h, S0, H0 => by
    unfold chkS at h
    split at h
    · refine weakS ps_retN fun D σ H q => ?_
      obtain ⟨ρ, w, S, st, p⟩ := q
      exact p S H _ st.n st.sb .non
    · cases h
  | .expr e, X, Wx, sc, st, g, h, S0, H0 => by
    unfold chkS at h
    split at h
    · obtain ⟨h1, h2⟩ := bt h
      refine weakS (ps_expr (ok_e e g.toXG h1).v (sw_false h2 _ _ _)) fun D σ H q => ?_
      obtain ⟨ρ, w, S, st, p⟩ := q
      dsimp only at p
      unfold evS at p
      refine ⟨ρ, w, S, st.sb, st.e, (postO.of (R := RD) st p).imp fun x H1 ⟨d, w1, S1, sb, n, st1, r, p1⟩ => p1 _ _ _ st1⟩
    · cases h
  | .raise c, X, Wx, sc, st, g, h, S0, H0 => by
    unfold chkS at h
    split at h
    · simp only [Bool.and_eq_true, decide_eq_true_eq] at h
      obtain ⟨⟨⟨h1, h2⟩, h3⟩, h4⟩ := h
      subst h1
      obtain ⟨r1, r2, r3, r4⟩ := g.rexc c h2
      refine weakS (L2N.ps_raise g.calm g.tk (L2N.pmk_own PySem.F.excBase_ValueError r1 (g.gexc c h2) r2 (raises_own r3 r4) (g.toXG.gl (of_decide_eq_true h3)) (okN_of h4).1)) fun D σ H q => ?_
      obtain ⟨ρ, w, S, st, p⟩ := q
      exact p _ _ _ st
    · cases h
  | .try_ b i j, X, Wx, sc, st, g, h, S0, H0 => by
    unfold chkS at h
    split at h
    · simp only [Bool.and_eq_true, decide_eq_true_eq] at h
      obtain ⟨⟨⟨⟨⟨⟨⟨⟨⟨⟨⟨h1, h2⟩, h3⟩, h4⟩, h5⟩, h6⟩, h7⟩, h8⟩, h9⟩, h10⟩, h11⟩, h12⟩ := h
      subst h1 h10
      obtain ⟨l, f⟩ := g.sto h6
      obtain ⟨n1, n2⟩ := okN_of h9
      have hl : ∀ n, lcl sc n = true → X.env.kindOf n = some .local := fun n q => by
        show X.env.scope.names.lookup _ = _
        rw [g.sc]
        exact of_decide_eq_true q
      replace hl := hl _ h8
      have h2 : ∀ c ∈ [0, 1, 2, 3, 4, 5, 6, 7], c ∈ Γ.excs := fun c hc => of_decide_eq_true (List.all_eq_true.mp h2 c hc)
      refine weakS (ps_try_keep (tb := fun W => lftS X.K (fun ρ => evB φ ρ b) W S0 H0) g.stk g.frm g.ex0 g.nd h7 hl ⟨g.toXG.gl (of_decide_eq_true h3), (okN_of h4).1, .inl (g.gexc 7 (h2 7 (by simp)))⟩ g.tk (fun W pn xe tk po => ok_b b (g.tr W pn xe tk po) h12 S0 H0)
        (fun a oe cls d pn hz hv => pss_one (ps_set g.nd h5 l (pe_var h7 (.inl hl) n1 n2) rfl f))) fun D σ H q => ?_
      obtain ⟨ρ, w, S, st, p⟩ := q
      dsimp only at p
      unfold evS at p
      refine ⟨ρ, w, S, st, ?_⟩
      dsimp only
      cases hr : evB φ ρ b w with
      | next ρ1 w1 => rw [hr] at p; exact p
      | ret d w1 => rw [hr] at p; exact p
      | brk ρ1 w1 => rw [hr] at p; exact p
      | cont ρ1 w1 => rw [hr] at p; exact p
      | stk => rw [hr] at p; exact p
      | exc c ρ1 w1 =>
        rw [hr] at p
        dsimp only at p
        split at p
        · rename_i hc
          intro S1 H1 σ1 st1
          have hm : c ∈ Γ.excs := h2 c (by
            have : c = 0 ∨ c = 1 ∨ c = 2 ∨ c = 3 ∨ c = 4 ∨ c = 5 ∨ c = 6 := by omega
            rcases this with rfl | rfl | rfl | rfl | rfl | rfl | rfl <;> simp)
          refine ⟨true, g.mexc c hm (by omega), fun _ a na => ?_, fun z => nomatch z⟩
          refine ⟨.ref a, ?_, ?_⟩
          · exact List.getElem?_set_self (by rw [← st1.e.len]; exact hc.2)
          · exact p _ _ _ (st1.keepE na h11)
        · exact p.elim
    · cases h
  | .pass, X, Wx, sc, st, g, h, S0, H0 => by
    unfold chkS at h
    split at h
    · refine weakS ps_pass fun D σ H q => ?_
      obtain ⟨ρ, w, S, st, p⟩ := q
      exact p _ _ _ st
    · cases h
theorem ok_b : ∀ (m : MB Fn) {X : Cx} {Wx : WX} {sc : Scope} {sts : List Stmt}, XS Γ φ X Wx sc → chkB Γ X.N sc m sts = true → ∀ S0 H0, PSs X sts (lftS X.K (fun ρ => evB φ ρ m) Wx S0 H0)
  | .nil, X, Wx, sc, sts, g, h, S0, H0 => by
    unfold chkB at h
    split at h
    · refine weakSs pss_nil fun D σ H q => ?_
      obtain ⟨ρ, w, S, st, p⟩ := q
      exact p _ _ _ st
    · cases h
  | .cons s b, X, Wx, sc, sts, g, h, S0, H0 => by
    unfold chkB at h
    split at h
    · obtain ⟨h1, h2⟩ := bt h
      refine weakSs (pss_cons (ok_s s g h1 S0 H0) (ok_b b g h2 S0 H0)) fun D σ H q => ?_
      obtain ⟨ρ, w, S, st, p⟩ := q
      dsimp only at p
      unfold evB at p
      exact ⟨ρ, w, S, st, postO.bind p⟩
    · cases h
  | .frz i b, X, Wx, sc, sts, g, h, S0, H0 => by
    unfold chkB at h
    refine weakSs (ok_b b g h S0 H0) fun D σ H q => ?_
    obtain ⟨ρ, w, S, st, p⟩ := q
    dsimp only at p
    unfold evB at p
    split at p
    · rename_i xs hO
      obtain ⟨S', st'⟩ := st.frz hO
      exact ⟨_, w, S', st', p⟩
    · exact p.elim
end
end
end Ev

end

section
/-! EvK: the draws, by hand. -/
namespace Ev
open PySem PySem.Spec PyProof.Rows L2

/-! ### plain ints are shaped -/
theorem canLay_ints : ∀ l : List Int, PyData.canLayAll0 (l.map PyData.int) = true
  | [] => rfl
  | i :: r => by
    rw [List.map_cons]
    unfold PyData.canLayAll0
    rw [canLay_ints r]
    rfl
theorem depth_ints : ∀ l : List Int, PyData.depthAll (l.map PyData.int) ≤ 1
  | [] => by simp [PyData.depthAll]
  | i :: r => by
    have := depth_ints r
    rw [List.map_cons]
    simp only [PyData.depthAll, PyData.depth]
    omega
theorem shp_ints (l : List Int) : shp (.list (l.map PyData.int)) = true := by
  unfold shp SeqAt.shaped
  rw [Bool.and_eq_true]
  refine ⟨?_, decide_eq_true ?_⟩
  · unfold PyData.canLay0
    exact canLay_ints l
  · simp only [PyData.depth]
    have := depth_ints l
    omega
theorem dpInts {K : PySem.W.Frag} {H : Hp} : ∀ l : List Int, DpAll K H (l.map V.int) (l.map PyData.int)
  | [] => .nil
  | i :: r => .cons (.int i) (dpInts r)

/-! ### how the state grows -/
section
variable {K : PySem.W.Frag} {S : GH} {H : Hp} {w : W}
theorem Sub.noDrw (s : Sub K S H w) (h : w.dr = none) (a : Addr) : S a ≠ some .drw := fun e => by
  obtain ⟨m, ns, c, q, _⟩ := s.ok a _ e
  rw [h] at q
  cases q
theorem Sub.mkDrw {l p : Addr} {ns : List Int} {c : Int} (s : Sub K S H w) (hd : w.dr = none) (hl : H l = some (.lst (ns.map V.int))) (hp : H p = some (.lst [.ref l, .int c])) (nl : S l = none) (np : S p = none) (hne : l ≠ p) :
    Sub K (updG (updG S l .resD) p .drw) H ⟨some (ns, c), w.sp, none⟩ := by
  have nd := s.noDrw hd
  have le : LeG S (updG (updG S l .resD) p .drw) := fun b o e => by
    have h1 : b ≠ l := by rintro rfl; rw [nl] at e; cases e
    have h2 : b ≠ p := by rintro rfl; rw [np] at e; cases e
    rw [updG_ne h2, updG_ne h1]; exact e
  have isd : ∀ b, updG (updG S l .resD) p .drw b = some .drw → b = p := fun b e => by
    by_cases hb : b = p
    · exact hb
    · rw [updG_ne hb] at e
      by_cases hb2 : b = l
      · subst hb2; rw [updG_same] at e; cases e
      · rw [updG_ne hb2] at e; exact absurd e (nd b)
  have iss : ∀ b, updG (updG S l .resD) p .drw b = some .stp → S b = some .stp := fun b e => by
    by_cases hb : b = p
    · subst hb; rw [updG_same] at e; cases e
    · rw [updG_ne hb] at e
      by_cases hb2 : b = l
      · subst hb2; rw [updG_same] at e; cases e
      · rw [updG_ne hb2] at e; exact e
  refine ⟨fun b o e => ?_, fun a b h1 h2 => (isd a h1).trans (isd b h2).symm, fun a b h1 h2 => s.oneS a b (iss a h1) (iss b h2), fun a ns h => by cases h⟩
  by_cases hb : b = p
  · subst hb
    rw [updG_same] at e
    cases e
    exact ⟨l, ns, c, rfl, hp, by rw [updG_ne hne]; exact updG_same, hl⟩
  · rw [updG_ne hb] at e
    by_cases hb2 : b = l
    · subst hb2
      rw [updG_same] at e
      cases e
      exact ⟨_, hl⟩
    · rw [updG_ne hb2] at e
      have g := s.ok b o e
      have g' := g.keep (S' := updG (updG S l .resD) p .drw) (H' := H) le (fun _ _ _ q => q) (fun _ u _ q => ⟨u, q⟩)
      cases o with
      | drw => exact absurd e (nd b)
      | _ => exact g'
/-- the draws go on -/
theorem Sub.draw {a m : Addr} {ns' : List Int} {c' : Int} {H' : Hp} (s : Sub K S H w) (ha : S a = some .drw) (hm : S m = some .resD) (h1 : H' a = some (.lst [.ref m, .int c'])) (h2 : H' m = some (.lst (ns'.map V.int)))
    (hk : ∀ b, b ≠ a → b ≠ m → H' b = H b) : Sub K S H' ⟨some (ns', c'), w.sp, w.scr⟩ := by
  refine ⟨fun b o e => ?_, s.one, s.oneS, fun b xs h => ?_⟩
  · by_cases hb : b = a
    · subst hb
      rw [ha] at e
      cases e
      exact ⟨m, ns', c', rfl, h1, hm, h2⟩
    · by_cases hb2 : b = m
      · subst hb2
        rw [hm] at e
        cases e
        exact ⟨_, h2⟩
      · have g := s.ok b o e
        cases o with
        | tup xs => show H' b = _; rw [hk b hb hb2]; exact g
        | lst xs => show H' b = _; rw [hk b hb hb2]; exact g
        | exc c => show H' b = _; rw [hk b hb hb2]; exact g
        | drw => exact absurd (s.one b a e ha) hb
        | stp =>
          obtain ⟨row, past, r, q, dx, xs, e0, k1, k2, k3, k4, k5, k6⟩ := g
          have n1 : q ≠ a := by rintro rfl; rw [ha] at k3; cases k3
          have n2 : q ≠ m := by rintro rfl; rw [hm] at k3; cases k3
          exact ⟨row, past, r, q, dx, xs, e0, by rw [hk b hb hb2]; exact k1, k2, k3, by rw [hk q n1 n2]; exact k4, k5, k6⟩
        | resD => obtain ⟨u, g⟩ := g; exact ⟨u, by rw [hk b hb hb2]; exact g⟩
        | resS => obtain ⟨u, g⟩ := g; exact ⟨u, by rw [hk b hb hb2]; exact g⟩
        | resX => obtain ⟨u, g⟩ := g; exact ⟨u, by rw [hk b hb hb2]; exact g⟩
  · rcases s.scr b xs h with q | ⟨q1, o, q2⟩
    · exact .inl q
    · have n1 : b ≠ a := by rintro rfl; rw [ha] at q1; cases q1
      have n2 : b ≠ m := by rintro rfl; rw [hm] at q1; cases q1
      exact .inr ⟨q1, o, by rw [hk b n1 n2]; exact q2⟩
end

/-! ### what they are -/
def startG : List D → W → Res D
  | [.scr a], w => match w.scr, w.dr with
    | some (b, ns), none => if a = b then .ok .drw ⟨some (if ns = [] then [0] else ns, 0), w.sp, none⟩ else .stk
    | _, _ => .stk
  | _, _ => .stk
def mix (cell c : Int) : Int :=
  let m := ((cell + 104729 * c) % 4294967291) ^ 5 % 4294967279
  (m / 64 * 69621 + m) % 4294967231 / 8
def drawI (ns : List Int) (c lim : Int) : Int :=
  let cell := ns.getD ((c + 1) % (ns.length : Int)).toNat 0
  if cell ≥ 1000000000000000000 then cell % lim else mix cell (c + 1) % lim
def drawN (ns : List Int) (c lim : Int) : List Int :=
  let at_ := ((c + 1) % (ns.length : Int)).toNat
  let cell := ns.getD at_ 0
  if cell ≥ 1000000000000000000 then ns.set at_ (cell / lim) else ns
def drawG : List D → W → Res D
  | [.drw, .p (.int lim)], w => match w.dr with
    | some (ns, c) => if ns ≠ [] ∧ 0 < lim ∧ lim < 1073741824 then .ok (.int (drawI ns c lim)) ⟨some (drawN ns c lim, c + 1), w.sp, w.scr⟩ else .stk
    | none => .stk
  | _, _ => .stk

/-! ### their texts -/
def chkStart (x : Str) (body : List Stmt) : Bool := match body with
  | [.Return (some (.List [.IfExp (.Compare (.Name a _) [.NotEq] [.List [] _] _) (.Call (.Name b _) [.Name c _] [] _) (.List [.Constant (.int i) _ _] _) _, .Constant (.int j) _ _] _)) _] =>
      decide (a = x) && decide (b = "list") && decide (c = x) && decide (i = 0) && decide (j = 0)
  | _ => false
section
variable {P : Program} {w : World} {K : PySem.W.Frag} {mg : Str → Option Value} {base : Heap} {nm qual : Str} {params : Arguments} {body : List Stmt} {sc : Scope} {f : Addr} {fd : FuncData}
theorem ok_start {x : Str} {k : Nat} (F : FunD K nm qual params body sc [] [] f fd) (Sc : FnScope [x] [x] sc) (hc : chkStart x body = true) (hx : visB sc x = true) (hn : okN x = true) (hl : sc.names.lookup ("list" : Str) = some .globalImplicit) (hm : mg "list" = none) :
    FnOk P w K mg base (L2N.CX P w) (k + 1) f fd [x] (spF K startG) := by
  obtain ⟨n1, n2⟩ := okN_of hn
  refine F.ok Sc (fun vs H Q E h => ?_) (fun cdv A outer s H vs Q E hr h => ?_)
  · obtain ⟨ds, S, w, sb, r, p⟩ := h
    unfold startG at p
    split at p
    · exact r.length
    · exact p.elim
  · obtain ⟨ds, S, w, sb, r, p⟩ := h
    unfold startG at p
    split at p
    · rename_i a
      split at p
      · rename_i b ns hscr hdr
        split at p
        · rename_i hab
          subst hab
          cases r with
          | cons r0 r1 =>
            cases r1
            have e0 := (show _ = V.ref a from r0)
            subst e0
            unfold chkStart at hc
            split at hc
            · simp only [Bool.and_eq_true, decide_eq_true_eq] at hc
              obtain ⟨⟨⟨⟨e1, e2⟩, e3⟩, e4⟩, e5⟩ := hc
              subst e1 e2 e3 e4 e5
              have vis := vis_of hx
              refine ⟨_, pss_one (ps_ret (pe_lst (pa_cons (pe_ifExp (pt_cmpR (op_neD (by have := hr.un; show (A.deeper (envOfC qual sc s.heap.objs.size f cdv)).units + 64 < cLine; omega)) (pe_var (i := 0) rfl vis n1 n2) (pe_lst pa_nil) (nomark _))
                (pe_callTy call_list_of (show Gl _ _ from hl) hm boot_list (pa_cons (pe_var (i := 0) rfl vis n1 n2) pa_nil)) (pe_lst (pa_cons pe_int pa_nil))) (pa_cons pe_int pa_nil)))), ?_⟩
              have hS := sb.scr a ns hscr
              refine ⟨_, rfl, by show 0 ≤ _; omega, fun q hq => ?_⟩
              have hS1 : ScrOk K S (upd H q (.lst [])) a (ns.map V.int) := (sb.updO (sb.free hq) (nf_none hq)).scr a ns hscr
              refine ⟨.list (ns.map PyData.int), .list [], .lst hS1.sq (dpInts ns), .lst (SqL.of upd_same) .nil, shp_ints ns, shp_ints [], ?_⟩
              have fin : ∀ (H2 : Hp) (l : Addr) (ms : List Int), Sub K S H2 w → Nxt S H S H2 → H2 l = none → ms = (if ns = [] then [0] else ns) → ∀ pp, (upd H2 l (.lst (ms.map V.int))) pp = none → Q (.ref pp) (upd (upd H2 l (.lst (ms.map V.int))) pp (.lst [.ref l, .int 0])) := by
                intro H2 l ms sb2 nx2 hl2 hms pp hp
                have hne : l ≠ pp := by rintro rfl; rw [upd_same] at hp; cases hp
                have hp2 : H2 pp = none := by rw [upd_ne (Ne.symm hne)] at hp; exact hp
                have nl := sb2.free hl2
                have np := sb2.free hp2
                have sb3 : Sub K S (upd (upd H2 l (.lst (ms.map V.int))) pp (.lst [.ref l, .int 0])) w := (sb2.updO nl (nf_none hl2)).updO np (nf_none hp)
                have p' : ∀ S' H' v, Nxt S H S' H' → Sub K S' H' ⟨some (if ns = [] then [0] else ns, 0), w.sp, none⟩ → RD S' .drw v → Q v H' := p
                subst hms
                refine p' _ _ _ ⟨fun b o e => ?_, fun b o nb hb => ?_⟩ (sb3.mkDrw (l := l) (p := pp) hdr (by rw [upd_ne hne]; exact upd_same) upd_same nl np hne) ⟨pp, rfl, updG_same⟩
                · have h1 : b ≠ l := by rintro rfl; rw [nl] at e; cases e
                  have h2 : b ≠ pp := by rintro rfl; rw [np] at e; cases e
                  rw [updG_ne h2, updG_ne h1]; exact e
                · have hb2 := (nx2.k b o nb hb).1
                  have h1 : b ≠ l := by rintro rfl; rw [hl2] at hb2; cases hb2
                  have h2 : b ≠ pp := by rintro rfl; rw [hp2] at hb2; cases hb2
                  rw [upd_ne h2, upd_ne h1, updG_ne h2, updG_ne h1]
                  exact ⟨hb2, nb⟩
              have sb1 := sb.updO (sb.free hq) (nf_none hq) (o := .lst [])
              have nx1 : Nxt S H S (upd H q (.lst [])) := Nxt.newO hq
              refine ⟨_, rfl, ?_⟩
              cases ns with
              | nil =>
                rw [if_neg (by decide)]
                exact ⟨by show 1 ≤ sizeLine; rw [sizeLine_eq]; decide, fun l hl2 => ⟨by show 2 ≤ sizeLine; rw [sizeLine_eq]; decide, fin _ l [0] sb1 nx1 hl2 rfl⟩⟩
              | cons n ns =>
                rw [if_pos (show (!PyData.eqv (.list (List.map PyData.int (n :: ns))) (.list [])) = true by simp [PyData.eqv, PyData.eqvAll])]
                exact ⟨_, rfl, a, _, rfl, .inl hS1.sq, fun l hl2 => ⟨by show 2 ≤ sizeLine; rw [sizeLine_eq]; decide, fin _ l (n :: ns) sb1 nx1 hl2 rfl⟩⟩
            · cases hc
        · exact p.elim
      · exact p.elim
    · exact p.elim

/-- the text of a draw, its names: the draws, the limit, the numbers, the place, the cell, the mix -/
def chkD1 (a n : Str) (s : Stmt) : Bool := match s with
  | .Assign [.Name n1 _] (.Subscript (.Name a1 _) (.Constant (.int i0) _ _) _) _ => decide (n1 = n ∧ a1 = a ∧ i0 = 0)
  | _ => false
def chkD2 (a : Str) (s : Stmt) : Bool := match s with
  | .Assign [.Subscript (.Name a2 _) (.Constant (.int i1) _ _) _] (.BinOp (.Subscript (.Name a3 _) (.Constant (.int i2) _ _) _) .Add (.Constant (.int i3) _ _) _) _ => decide (a2 = a ∧ i1 = 1 ∧ a3 = a ∧ i2 = 1 ∧ i3 = 1)
  | _ => false
def chkD3 (a n t : Str) (s : Stmt) : Bool := match s with
  | .Assign [.Name t1 _] (.BinOp (.Subscript (.Name a4 _) (.Constant (.int i4) _ _) _) .Mod (.Call (.Name b1 _) [.Name n2 _] [] _) _) _ => decide (t1 = t ∧ a4 = a ∧ i4 = 1 ∧ b1 = "len" ∧ n2 = n)
  | _ => false
def chkD4 (n t c : Str) (s : Stmt) : Bool := match s with
  | .Assign [.Name c1 _] (.Subscript (.Name n3 _) (.Name t2 _) _) _ => decide (c1 = c ∧ n3 = n ∧ t2 = t)
  | _ => false
def chkD5a (l n t c : Str) (s : Stmt) : Bool := match s with
  | .Assign [.Subscript (.Name n4 _) (.Name t3 _) _] (.BinOp (.Name c3 _) .FloorDiv (.Name l1 _) _) _ => decide (n4 = n ∧ t3 = t ∧ c3 = c ∧ l1 = l)
  | _ => false
def chkD5b (l c : Str) (s : Stmt) : Bool := match s with
  | .Return (some (.BinOp (.Name c4 _) .Mod (.Name l2 _) _)) _ => decide (c4 = c ∧ l2 = l)
  | _ => false
def chkD5 (l n t c : Str) (s : Stmt) : Bool := match s with
  | .If (.Compare (.Name c2 _) [.GtE] [.Constant (.int i5) _ _] _) [s1, s2] [] _ => decide (c2 = c ∧ i5 = 1000000000000000000) && (chkD5a l n t c s1 && chkD5b l c s2)
  | _ => false
def chkD6 (a c m : Str) (s : Stmt) : Bool := match s with
  | .Assign [.Name m1 _] (.BinOp (.BinOp (.Name c5 _) .Add (.BinOp (.Constant (.int i6) _ _) .Mult (.Subscript (.Name a5 _) (.Constant (.int i7) _ _) _) _) _) .Mod (.Constant (.int i8) _ _) _) _ => decide (m1 = m ∧ c5 = c ∧ i6 = 104729 ∧ a5 = a ∧ i7 = 1 ∧ i8 = 4294967291)
  | _ => false
def chkD7 (m : Str) (s : Stmt) : Bool := match s with
  | .Assign [.Name m2 _] (.BinOp (.BinOp (.Name m3 _) .Pow (.Constant (.int i9) _ _) _) .Mod (.Constant (.int i10) _ _) _) _ => decide (m2 = m ∧ m3 = m ∧ i9 = 5 ∧ i10 = 4294967279)
  | _ => false
def chkD8 (l m : Str) (s : Stmt) : Bool := match s with
  | .Return (some (.BinOp (.BinOp (.BinOp (.BinOp (.BinOp (.BinOp (.Name m4 _) .FloorDiv (.Constant (.int i11) _ _) _) .Mult (.Constant (.int i12) _ _) _) .Add (.Name m5 _) _) .Mod (.Constant (.int i13) _ _) _) .FloorDiv (.Constant (.int i14) _ _) _) .Mod (.Name l3 _) _)) _ => decide (m4 = m ∧ i11 = 64 ∧ i12 = 69621 ∧ m5 = m ∧ i13 = 4294967231 ∧ i14 = 8 ∧ l3 = l)
  | _ => false
def chkDraw (a l n t c m : Str) (body : List Stmt) : Bool := match body with
  | [s1, s2, s3, s4, s5, s6, s7, s8] => chkD1 a n s1 && (chkD2 a s2 && (chkD3 a n t s3 && (chkD4 n t c s4 && (chkD5 l n t c s5 && (chkD6 a c m s6 && (chkD7 m s7 && chkD8 l m s8))))))
  | _ => false
def lclB (sc : Scope) (x : Str) : Bool := decide (sc.names.lookup x = some .local) && okN x
theorem lclB_of {sc : Scope} {x : Str} (h : lclB sc x = true) : sc.names.lookup x = some .local ∧ (x == ("__debug__" : Str)) = false ∧ (x == ("__classdict__" : Str)) = false := by
  unfold lclB at h
  simp only [Bool.and_eq_true, decide_eq_true_eq] at h
  exact ⟨h.1, okN_of h.2⟩
abbrev rFd : R2 := rI CDiv fun i j => .int (i / j)
abbrev rMd : R2 := rI (fun _ j => 0 < j) fun i j => .int (i % j)
abbrev rAd : R2 := rI0 fun i j => .int (i + j)
abbrev rMu : R2 := rI CMul fun i j => .int (i * j)
abbrev rPw : R2 := rI CPow fun i j => .int (i ^ j.toNat)
abbrev rGe : R2 := rI0 fun i j => .bl (decide (j ≤ i))
abbrev rLn (K : PySem.W.Frag) : List V → Hp → VK → Prop := fun xs H Q => ∃ p ys, xs = [.ref p] ∧ (SqL K H p ys ∨ SqT K H p ys) ∧ Q (.int ys.length) H
def t_draw (K : PySem.W.Frag) : TS :=
  tSeq (tAsg (tOp (rIxL K) (tVar 0) (tC (.int 0))) (gName 2))
  (tSeq (tAsg (tOp rAd (tOp (rIxL K) (tVar 0) (tC (.int 1))) (tC (.int 1))) (gSub (tVar 0) (tC (.int 1)) rSetL))
  (tSeq (tAsg (tOp rMd (tOp (rIxL K) (tVar 0) (tC (.int 1))) (tCB (rLn K) (tCons (tVar 2) tNil))) (gName 3))
  (tSeq (tAsg (tOp (rIxL K) (tVar 2) (tVar 3)) (gName 4))
  (tSeq (tIfS (tTest (tOp rGe (tVar 4) (tC (.int 1000000000000000000)))) (tSeq (tAsg (tOp rFd (tVar 4) (tVar 1)) (gSub (tVar 2) (tVar 3) rSetL)) (tRet (tOp rMd (tVar 4) (tVar 1)))) tNext)
  (tSeq (tAsg (tOp rMd (tOp rAd (tVar 4) (tOp rMu (tC (.int 104729)) (tOp (rIxL K) (tVar 0) (tC (.int 1))))) (tC (.int 4294967291))) (gName 5))
  (tSeq (tAsg (tOp rMd (tOp rPw (tVar 5) (tC (.int 5))) (tC (.int 4294967279))) (gName 5))
  (tRet (tOp rMd (tOp rFd (tOp rMd (tOp rAd (tOp rMu (tOp rFd (tVar 5) (tC (.int 64))) (tC (.int 69621))) (tVar 5)) (tC (.int 4294967231))) (tC (.int 8))) (tVar 1)))))))))
section
variable {X : Cx} {a l n t c m : Str} {s : Stmt}
theorem d1 (nd : X.N.Nodup) (hi : X.N[2]? = some n) (va : ∀ p, PE X (.Name a p) (tVar 0)) (n0 : X.env.scope.names.lookup n = some .local) (h : chkD1 a n s = true) :
    PS X s (tAsg (tOp (rIxL X.K) (tVar 0) (tC (.int 0))) (gName 2)) := by
  unfold chkD1 at h
  split at h
  · obtain ⟨rfl, rfl, rfl⟩ := of_decide_eq_true h
    exact ps_set (i := 2) nd hi (.inl n0) (pe_ix ix_list (va _) pe_int (fun _ _ => rfl)) rfl (.inr n0)
  · cases h
theorem d2 (va : ∀ p, PE X (.Name a p) (tVar 0)) (h : chkD2 a s = true) :
    PS X s (tAsg (tOp rAd (tOp (rIxL X.K) (tVar 0) (tC (.int 1))) (tC (.int 1))) (gSub (tVar 0) (tC (.int 1)) rSetL)) := by
  unfold chkD2 at h
  split at h
  · obtain ⟨rfl, rfl, rfl, rfl, rfl⟩ := of_decide_eq_true h
    exact ps_asg (pe_op op_add (pe_ix ix_list (va _) pe_int (fun _ _ => rfl)) pe_int) (pg_sub (va _) pe_int L2.set_list)
  · cases h
theorem d3 (nd : X.N.Nodup) (hi : X.N[3]? = some t) (hl : Gl X "len") (hm : X.mg "len" = none) (va : ∀ p, PE X (.Name a p) (tVar 0)) (vn : ∀ p, PE X (.Name n p) (tVar 2)) (t0 : X.env.scope.names.lookup t = some .local) (h : chkD3 a n t s = true) :
    PS X s (tAsg (tOp rMd (tOp (rIxL X.K) (tVar 0) (tC (.int 1))) (tCB (rLn X.K) (tCons (tVar 2) tNil))) (gName 3)) := by
  unfold chkD3 at h
  split at h
  · obtain ⟨rfl, rfl, rfl, rfl, rfl⟩ := of_decide_eq_true h
    exact ps_set (i := 3) nd hi (.inl t0) (pe_op op_mod (pe_ix ix_list (va _) pe_int (fun _ _ => rfl)) (pe_callB call_len_seq hl hm PySem.boot_len (pa_cons (vn _) pa_nil))) rfl (.inr t0)
  · cases h
theorem d4 (nd : X.N.Nodup) (hi : X.N[4]? = some c) (vn : ∀ p, PE X (.Name n p) (tVar 2)) (vt : ∀ p, PE X (.Name t p) (tVar 3)) (c0 : X.env.scope.names.lookup c = some .local) (h : chkD4 n t c s = true) :
    PS X s (tAsg (tOp (rIxL X.K) (tVar 2) (tVar 3)) (gName 4)) := by
  unfold chkD4 at h
  split at h
  · obtain ⟨rfl, rfl, rfl⟩ := of_decide_eq_true h
    exact ps_set (i := 4) nd hi (.inl c0) (pe_ix ix_list (vn _) (vt _) (fun _ _ => rfl)) rfl (.inr c0)
  · cases h
theorem d5a (vl : ∀ p, PE X (.Name l p) (tVar 1)) (vn : ∀ p, PE X (.Name n p) (tVar 2)) (vt : ∀ p, PE X (.Name t p) (tVar 3)) (vc : ∀ p, PE X (.Name c p) (tVar 4)) (h : chkD5a l n t c s = true) :
    PS X s (tAsg (tOp rFd (tVar 4) (tVar 1)) (gSub (tVar 2) (tVar 3) rSetL)) := by
  unfold chkD5a at h
  split at h
  · obtain ⟨rfl, rfl, rfl, rfl⟩ := of_decide_eq_true h
    exact ps_asg (pe_op op_fdiv (vc _) (vl _)) (pg_sub (vn _) (vt _) L2.set_list)
  · cases h
theorem d5b (vl : ∀ p, PE X (.Name l p) (tVar 1)) (vc : ∀ p, PE X (.Name c p) (tVar 4)) (h : chkD5b l c s = true) :
    PS X s (tRet (tOp rMd (tVar 4) (tVar 1))) := by
  unfold chkD5b at h
  split at h
  · obtain ⟨rfl, rfl⟩ := of_decide_eq_true h
    exact ps_ret (pe_op op_mod (vc _) (vl _))
  · cases h
theorem d5 (vl : ∀ p, PE X (.Name l p) (tVar 1)) (vn : ∀ p, PE X (.Name n p) (tVar 2)) (vt : ∀ p, PE X (.Name t p) (tVar 3)) (vc : ∀ p, PE X (.Name c p) (tVar 4)) (h : chkD5 l n t c s = true) :
    PS X s (tIfS (tTest (tOp rGe (tVar 4) (tC (.int 1000000000000000000)))) (tSeq (tAsg (tOp rFd (tVar 4) (tVar 1)) (gSub (tVar 2) (tVar 3) rSetL)) (tRet (tOp rMd (tVar 4) (tVar 1)))) tNext) := by
  unfold chkD5 at h
  split at h
  · simp only [Bool.and_eq_true] at h
    obtain ⟨h1, h2, h3⟩ := h
    obtain ⟨rfl, rfl⟩ := of_decide_eq_true h1
    exact ps_if (pt_cmpR op_ge (vc _) pe_int (nomark _)) (pss_cons (d5a vl vn vt vc h2) (pss_one (d5b vl vc h3))) pss_nil
  · cases h
theorem d6 (nd : X.N.Nodup) (hi : X.N[5]? = some m) (va : ∀ p, PE X (.Name a p) (tVar 0)) (vc : ∀ p, PE X (.Name c p) (tVar 4)) (m0 : X.env.scope.names.lookup m = some .local) (h : chkD6 a c m s = true) :
    PS X s (tAsg (tOp rMd (tOp rAd (tVar 4) (tOp rMu (tC (.int 104729)) (tOp (rIxL X.K) (tVar 0) (tC (.int 1))))) (tC (.int 4294967291))) (gName 5)) := by
  unfold chkD6 at h
  split at h
  · obtain ⟨rfl, rfl, rfl, rfl, rfl, rfl⟩ := of_decide_eq_true h
    exact ps_set (i := 5) nd hi (.inl m0) (pe_op op_mod (pe_op op_add (vc _) (pe_op op_mul pe_int (pe_ix ix_list (va _) pe_int (fun _ _ => rfl)))) pe_int) rfl (.inr m0)
  · cases h
theorem d7 (nd : X.N.Nodup) (hi : X.N[5]? = some m) (vm : ∀ p, PE X (.Name m p) (tVar 5)) (m0 : X.env.scope.names.lookup m = some .local) (h : chkD7 m s = true) :
    PS X s (tAsg (tOp rMd (tOp rPw (tVar 5) (tC (.int 5))) (tC (.int 4294967279))) (gName 5)) := by
  unfold chkD7 at h
  split at h
  · obtain ⟨rfl, rfl, rfl, rfl⟩ := of_decide_eq_true h
    exact ps_set (i := 5) nd hi (.inl m0) (pe_op op_mod (pe_op op_pow (vm _) pe_int) pe_int) rfl (.inr m0)
  · cases h
theorem d8 (vl : ∀ p, PE X (.Name l p) (tVar 1)) (vm : ∀ p, PE X (.Name m p) (tVar 5)) (h : chkD8 l m s = true) :
    PS X s (tRet (tOp rMd (tOp rFd (tOp rMd (tOp rAd (tOp rMu (tOp rFd (tVar 5) (tC (.int 64))) (tC (.int 69621))) (tVar 5)) (tC (.int 4294967231))) (tC (.int 8))) (tVar 1))) := by
  unfold chkD8 at h
  split at h
  · obtain ⟨rfl, rfl, rfl, rfl, rfl, rfl, rfl⟩ := of_decide_eq_true h
    exact ps_ret (pe_op op_mod (pe_op op_fdiv (pe_op op_mod (pe_op op_add (pe_op op_mul (pe_op op_fdiv (vm _) pe_int) pe_int) (vm _)) pe_int) pe_int) (vl _))
  · cases h
theorem draw_ps {body : List Stmt} (hN : X.N = [a, l, n, t, c, m]) (nd : X.N.Nodup) (hl : Gl X "len") (hm : X.mg "len" = none) (hc : chkDraw a l n t c m body = true)
    (a0 : X.env.scope.names.lookup a = some .local) (a1 : (a == ("__debug__" : Str)) = false) (a2 : (a == ("__classdict__" : Str)) = false)
    (l0 : X.env.scope.names.lookup l = some .local) (l1 : (l == ("__debug__" : Str)) = false) (l2 : (l == ("__classdict__" : Str)) = false)
    (n0 : X.env.scope.names.lookup n = some .local) (n1 : (n == ("__debug__" : Str)) = false) (n2 : (n == ("__classdict__" : Str)) = false)
    (t0 : X.env.scope.names.lookup t = some .local) (t1 : (t == ("__debug__" : Str)) = false) (t2 : (t == ("__classdict__" : Str)) = false)
    (c0 : X.env.scope.names.lookup c = some .local) (c1 : (c == ("__debug__" : Str)) = false) (c2 : (c == ("__classdict__" : Str)) = false)
    (m0 : X.env.scope.names.lookup m = some .local) (m1 : (m == ("__debug__" : Str)) = false) (m2 : (m == ("__classdict__" : Str)) = false) :
    PSs X body (t_draw X.K) := by
  have va : ∀ p, PE X (.Name a p) (tVar 0) := fun p => pe_var (by rw [hN]; rfl) (.inl a0) a1 a2
  have vl : ∀ p, PE X (.Name l p) (tVar 1) := fun p => pe_var (by rw [hN]; rfl) (.inl l0) l1 l2
  have vn : ∀ p, PE X (.Name n p) (tVar 2) := fun p => pe_var (by rw [hN]; rfl) (.inl n0) n1 n2
  have vt : ∀ p, PE X (.Name t p) (tVar 3) := fun p => pe_var (by rw [hN]; rfl) (.inl t0) t1 t2
  have vc : ∀ p, PE X (.Name c p) (tVar 4) := fun p => pe_var (by rw [hN]; rfl) (.inl c0) c1 c2
  have vm : ∀ p, PE X (.Name m p) (tVar 5) := fun p => pe_var (by rw [hN]; rfl) (.inl m0) m1 m2
  unfold chkDraw at hc
  split at hc
  · simp only [Bool.and_eq_true] at hc
    obtain ⟨h1, h2, h3, h4, h5, h6, h7, h8⟩ := hc
    exact pss_cons (d1 nd (by rw [hN]; rfl) va n0 h1) (pss_cons (d2 va h2) (pss_cons (d3 nd (by rw [hN]; rfl) hl hm va vn t0 h3) (pss_cons (d4 nd (by rw [hN]; rfl) vn vt c0 h4) (pss_cons (d5 vl vn vt vc h5) (pss_cons (d6 nd (by rw [hN]; rfl) va vc m0 h6) (pss_cons (d7 nd (by rw [hN]; rfl) vm m0 h7) (pss_one (d8 vl vm h8))))))))
  · cases hc
end
set_option maxHeartbeats 4000000 in
theorem ok_draw {a l n t c m : Str} {k : Nat} (F : FunD K nm qual params body sc [] [] f fd) (Sc : FnScope [a, l, n, t, c, m] [a, l] sc) (hc : chkDraw a l n t c m body = true)
    (hn : (lclB sc a && lclB sc l && lclB sc n && lclB sc t && lclB sc c && lclB sc m) = true) (hl : sc.names.lookup ("len" : Str) = some .globalImplicit) (hm : mg "len" = none) :
    FnOk P w K mg base (L2N.CX P w) (k + 1) f fd [a, l] (spF K drawG) := by
  simp only [Bool.and_eq_true] at hn
  obtain ⟨⟨⟨⟨⟨na, nl⟩, nn⟩, nt⟩, nc⟩, nmm⟩ := hn
  obtain ⟨a0, a1, a2⟩ := lclB_of na
  obtain ⟨l0, l1, l2⟩ := lclB_of nl
  obtain ⟨n0, n1, n2⟩ := lclB_of nn
  obtain ⟨t0, t1, t2⟩ := lclB_of nt
  obtain ⟨c0, c1, c2⟩ := lclB_of nc
  obtain ⟨m0, m1, m2⟩ := lclB_of nmm
  refine F.ok Sc (fun vs H Q E h => ?_) (fun cdv A outer s H vs Q E hr h => ?_)
  · obtain ⟨ds, S, w, sb, r, p⟩ := h
    unfold drawG at p
    split at p
    · exact r.length
    · exact p.elim
  · obtain ⟨ds, S, w, sb, r, p⟩ := h
    unfold drawG at p
    split at p
    · rename_i lim
      split at p
      · rename_i ns cc hdr
        split at p
        · rename_i hcond
          obtain ⟨hns, hlim, hlim2⟩ := hcond
          have p : ∀ S' H' v, Nxt S H S' H' → Sub K S' H' ⟨some (drawN ns cc lim, cc + 1), w.sp, w.scr⟩ → RD S' (.int (drawI ns cc lim)) v → Q v H' := p
          cases r with
          | cons r0 r1 =>
            cases r1 with
            | cons r1 r2 =>
              cases r2
              obtain ⟨d, e0, hS⟩ := r0
              subst e0
              cases (show Rp S _ _ from r1)
              obtain ⟨q, ns', cc', e1, hd, hSq, hq⟩ := sb.ok d _ hS
              rw [hdr] at e1
              cases e1
              have hdq : d ≠ q := by rintro rfl; rw [hS] at hSq; cases hSq
              have len0 : 0 < ns.length := List.length_pos_iff.mpr hns
              have lenI : (0 : Int) < (ns.length : Int) := by omega
              obtain ⟨j, hj⟩ : ∃ j : Nat, (cc + 1) % (ns.length : Int) = (j : Int) := ⟨((cc + 1) % (ns.length : Int)).toNat, (Int.toNat_of_nonneg (Int.emod_nonneg _ (by omega))).symm⟩
              have hjl : j < ns.length := by
                have := Int.emod_lt_of_pos (cc + 1) lenI
                omega
              obtain ⟨cell, hcell⟩ : ∃ cell, ns[j]? = some cell := ⟨ns[j], by simp [hjl]⟩
              have hget : ns.getD ((cc + 1) % (ns.length : Int)).toNat 0 = cell := by
                rw [hj, Int.toNat_natCast, List.getD_eq_getElem?_getD, hcell]
                rfl
              have hat : L2.atI (ns.map V.int) ((cc + 1) % (ns.length : Int)) = some (V.int cell) := at_of hj (by rw [List.getElem?_map, hcell]; rfl)
              have hix : L2.ixN (ns.map V.int).length ((cc + 1) % (ns.length : Int)) = some j := by
                rw [hj, List.length_map]
                unfold L2.ixN
                rw [if_pos (by omega), if_pos (by omega)]
                simp
              generalize hH1 : upd H d (.lst [.ref q, .int (cc + 1)]) = H1
              have hq1 : H1 q = some (.lst (ns.map V.int)) := by rw [← hH1, upd_ne (Ne.symm hdq)]; exact hq
              have hd1 : H1 d = some (.lst [.ref q, .int (cc + 1)]) := by rw [← hH1]; exact upd_same
              have hk1 : ∀ b, b ≠ d → b ≠ q → H1 b = H b := fun b h1 h2 => by rw [← hH1, upd_ne h1]
              have keep : ∀ {H2 : Hp}, (∀ b, b ≠ d → b ≠ q → H2 b = H b) → Nxt S H S H2 := fun {H2} hk => ⟨fun _ _ h => h, fun b o nb hb => by
                have h1 : b ≠ d := by rintro rfl; rw [hS] at nb; cases nb
                have h2 : b ≠ q := by rintro rfl; rw [hSq] at nb; cases nb
                rw [hk b h1 h2]
                exact ⟨hb, nb⟩⟩
              refine ⟨t_draw K, draw_ps rfl Sc.nd (show Gl _ _ from hl) hm hc a0 a1 a2 l0 l1 l2 n0 n1 n2 t0 t1 t2 c0 c1 c2 m0 m1 m2, ?_⟩
              refine ⟨_, rfl, d, _, 0, .ref q, rfl, rfl, SqL.of hd, rfl, ?_⟩
              refine ⟨_, rfl, d, _, 1, .int cc, rfl, rfl, SqL.of hd, rfl, cc, 1, rfl, rfl, _, rfl, d, _, 1, 1, rfl, rfl, hd, rfl, ?_⟩
              show tSeq _ _ _ _ (upd H d (.lst [.ref q, .int (cc + 1)]))
              rw [hH1]
              refine ⟨_, rfl, d, _, 1, .int (cc + 1), rfl, rfl, SqL.of hd1, rfl, _, rfl, q, _, rfl, .inl (SqL.of hq1), cc + 1, _, rfl, rfl, by rw [List.length_map]; exact lenI, ?_⟩
              rw [List.length_map]
              refine ⟨_, rfl, _, rfl, q, _, _, _, rfl, rfl, SqL.of hq1, hat, ?_⟩
              refine ⟨_, rfl, cell, _, rfl, rfl, _, rfl, ?_⟩
              by_cases hb : 1000000000000000000 ≤ cell
              · dsimp only
                rw [if_pos (decide_eq_true hb)]
                refine ⟨_, rfl, _, rfl, cell, lim, rfl, rfl, ⟨hlim, hlim2⟩, _, rfl, _, rfl, q, _, _, j, rfl, rfl, hq1, hix, ?_⟩
                refine ⟨_, rfl, _, rfl, cell, lim, rfl, rfl, hlim, ?_⟩
                have e1 : drawI ns cc lim = cell % lim := by unfold drawI; simp only [hget]; rw [if_pos hb]
                have e2 : drawN ns cc lim = ns.set j (cell / lim) := by unfold drawN; simp only [hget]; rw [if_pos hb, hj, Int.toNat_natCast]
                rw [e1, e2] at p
                have hk2 : ∀ b, b ≠ d → b ≠ q → upd H1 q (.lst ((ns.map V.int).set j (.int (cell / lim)))) b = H b := fun b h1 h2 => by rw [upd_ne h2, hk1 b h1 h2]
                exact p S _ _ (keep hk2) (sb.draw hS hSq (by rw [upd_ne hdq]; exact hd1) (by rw [upd_same, List.map_set]) hk2) (.int _)
              · dsimp only
                rw [if_neg (by rw [decide_eq_false hb]; exact Bool.false_ne_true)]
                have m0b := Int.emod_nonneg (cell + 104729 * (cc + 1)) (show (4294967291 : Int) ≠ 0 by decide)
                have m0c := Int.emod_lt_of_pos (cell + 104729 * (cc + 1)) (show (0 : Int) < 4294967291 by decide)
                have e1 : drawI ns cc lim = mix cell (cc + 1) % lim := by unfold drawI; simp only [hget]; rw [if_neg hb]
                have e2 : drawN ns cc lim = ns := by unfold drawN; simp only [hget]; rw [if_neg hb]
                rw [e1, e2] at p
                unfold mix at p
                generalize hm0 : (cell + 104729 * (cc + 1)) % 4294967291 = m0v at m0b m0c p
                refine ⟨_, rfl, _, rfl, d, _, 1, .int (cc + 1), rfl, rfl, SqL.of hd1, rfl, 104729, cc + 1, rfl, rfl, .inl ⟨by decide, by decide⟩, cell, _, rfl, rfl, _, 4294967291, rfl, rfl, show (0 : Int) < 4294967291 by decide, ?_⟩
                dsimp only
                have m1b := Int.emod_nonneg (m0v ^ 5) (show (4294967279 : Int) ≠ 0 by decide)
                have m1c := Int.emod_lt_of_pos (m0v ^ 5) (show (0 : Int) < 4294967279 by decide)
                rw [hm0]
                generalize hm1 : m0v ^ 5 % 4294967279 = m1v at m1b m1c p
                refine ⟨_, rfl, m0v, 5, rfl, rfl, ⟨by decide, by decide, by omega⟩, m0v ^ 5, 4294967279, rfl, rfl, show (0 : Int) < 4294967279 by decide, ?_⟩
                dsimp only
                rw [hm1]
                refine ⟨_, rfl, m1v, 64, rfl, rfl, ⟨by decide, by decide⟩, _, 69621, rfl, rfl, .inr ⟨by decide, by decide⟩, _, rfl, _, m1v, rfl, rfl, _, 4294967231, rfl, rfl, show (0 : Int) < 4294967231 by decide, _, 8, rfl, rfl, ⟨by decide, by decide⟩, _, rfl, _, lim, rfl, rfl, hlim, ?_⟩
                exact p S _ _ (keep hk1) (sb.draw hS hSq hd1 hq1 hk1) (.int _)
        · exact p.elim
      · exact p.elim
    · exact p.elim
end
end Ev

end

section
/-! EvL: every def keeps the evaluator's promise. -/
namespace Ev
open PySem PySem.Spec PyProof.Rows L2

/-- a def's text -/
structure Entry where
  nm : Str
  qual : Str
  ps : List Str
  N : List Str
  params : Arguments
  body : List Stmt
  scope : Scope

def callN {Fn : Type} (tbl : Fn → Option (FDef Fn)) (sp : Fn → List D → W → Res D) : Nat → Fn → List D → W → Res D
  | 0, _, _, _ => .stk
  | n + 1, f, ds, w => match tbl f with
    | none => sp f ds w
    | some d => runD (callN tbl sp n) d ds w

structure Facts {Fn : Type} (Γ : Sig Fn) (tbl : Fn → Option (FDef Fn)) (sp : Fn → List D → W → Res D) (en : Fn → Entry) (P : Program) (w : World) (K : PySem.W.Frag) (mg : Str → Option Value) (base : Heap) : Prop where
  fns : ∀ f, Γ.has f = true → ∃ a fd, FunD K (en f).nm (en f).qual (en f).params (en f).body (en f).scope [] [] a fd ∧ mg (Γ.nm f) = some (.ref a) ∧ Binds K fd (en f).ps []
  mts : ∀ f, Γ.hasM f = true → ∃ a fd, FunD K (en f).nm (en f).qual (en f).params (en f).body (en f).scope [] [] a fd ∧ Meth K (stA K) (Γ.nm f) a ∧ Binds K fd (en f).ps []
  stpC : Γ.hasS = true → Cls K (stA K) ∧ NoAttr K (stA K) "row" ∧ NoAttr K (stA K) "past"
  mkf : ∀ f, Γ.isS f = true → tbl f = none ∧ sp f = mkG ∧ mg (Γ.nm f) = some (.ref (stA K)) ∧ ∃ fi fd ps, Mk K (stA K) fi ∧ (∀ k, FnOk P w K mg base (L2N.CX P w) (k + 1) fi fd ps (spI K)) ∧ Binds K fd ps []
  lnp : Γ.hasS = true → (∃ a fd ps, FnOk P w K mg base (L2N.CX P w) 1 a fd ps (spL K) ∧ Meth K (stA K) "__len__" a ∧ Binds K fd ps []) ∧ ∃ a fd ps, FnOk P w K mg base (L2N.CX P w) 1 a fd ps (spP K) ∧ Meth K (stA K) "points" a ∧ Binds K fd ps []
  sc : ∀ f, (Γ.has f || Γ.hasM f) = true → FnScope (en f).N (en f).ps (en f).scope
  ok : ∀ f d, (Γ.has f || Γ.hasM f) = true → tbl f = some d → d.np = (en f).ps.length ∧ d.nn = (en f).N.length ∧ chkB Γ (en f).N (en f).scope d.body (en f).body = true
  spc : ∀ f a fd k, (Γ.has f || Γ.hasM f) = true → tbl f = none → FunD K (en f).nm (en f).qual (en f).params (en f).body (en f).scope [] [] a fd → FnOk P w K mg base (L2N.CX P w) (k + 1) a fd (en f).ps (spF K (sp f))
  frees : ∀ x, x ∈ Γ.frees → mg x = none
  gi : ∀ p, p ∈ Γ.gi → ∃ t, mg p.1 = some (.int p.2 t)
  gs : ∀ p, p ∈ Γ.gs → ∃ t, mg p.1 = some (.str p.2 t)
  exf : Γ.hasE = true → ExcF K
  gexc : ∀ c, c ∈ Γ.excs → mg (excN c) = some (.ref (excA K c))
  rexc : ∀ c, c ∈ Γ.excs → PySem.W.excIn K (excA K c) He.veBase "ValueError.__new__" = true ∧ PySem.W.keepIn K (.ref (excA K c)) = true ∧ PySem.W.subIn K (.ref (excA K c)) (.type "BaseException") = some true ∧
    PySem.W.typeIn K (.ref (excA K c)) = some (.type "type")
  mexc : ∀ c, c ∈ Γ.excs → c ≠ 7 → PySem.W.exmOne K (.ref (excA K c)) (.ref (excA K 7)) = some true

theorem RDs.get {S : GH} : ∀ {ds : List D} {vs : List V} {i : Nat} {d : D}, RDs S ds vs → ds[i]? = some d → ∃ v, vs[i]? = some v ∧ RD S d v
  | _, _, 0, _, .cons r _, h => by
    simp only [List.getElem?_cons_zero, Option.some.injEq] at h
    subst h
    exact ⟨_, rfl, r⟩
  | _, _, i + 1, _, .cons _ q, h => by
    simp only [List.getElem?_cons_succ] at h
    obtain ⟨v, h1, h2⟩ := RDs.get q h
    exact ⟨v, by simpa using h1, h2⟩
section
variable {Fn : Type} {Γ : Sig Fn} {tbl : Fn → Option (FDef Fn)} {sp : Fn → List D → W → Res D} {en : Fn → Entry} {P : Program} {w : World} {K : PySem.W.Frag} {mg : Str → Option Value} {base : Heap}
theorem start_slot {ds : List D} {n : Nat} {i : Nat} {x : Slot} (h : (ds.map Slot.val ++ List.replicate n .un)[i]? = some x) : (∃ d, ds[i]? = some d ∧ x = .val d) ∨ x = .un := by
  by_cases hi : i < ds.length
  · rw [List.getElem?_append_left (by rw [List.length_map]; exact hi), List.getElem?_map] at h
    obtain ⟨y, hy⟩ : ∃ y, ds[i]? = some y := ⟨ds[i], by simp [hi]⟩
    rw [hy] at h
    cases h
    exact .inl ⟨y, hy, rfl⟩
  · rw [List.getElem?_append_right (by rw [List.length_map]; omega), List.getElem?_replicate] at h
    split at h
    · cases h; exact .inr rfl
    · cases h
theorem start_own {ds : List D} {n : Nat} {i : Nat} {xs : List PyData} : getO (ds.map Slot.val ++ List.replicate n .un) i ≠ some xs := fun h => by
  unfold getO at h
  split at h
  · rename_i e
    rcases start_slot e with ⟨_, _, z⟩ | z <;> cases z
  · cases h
theorem start_ok {S : GH} {H : Hp} {ds : List D} {vs : List V} {N : List Str} {nn : Nat} (r : RDs S ds vs) (hn : nn = N.length) : EOk S H (ds.map Slot.val ++ List.replicate (nn - ds.length) .un) (L2.start N vs) := by
  subst hn
  have hl := r.length
  refine ⟨?_, fun i d h => ?_, fun i xs h => absurd h start_own, fun i j xs ys b h1 _ _ _ => absurd h1 start_own⟩
  · unfold L2.start
    simp only [List.length_append, List.length_map, List.length_replicate]
    rw [hl]
  · unfold getV at h
    split at h
    · rename_i e
      cases h
      rcases start_slot e with ⟨d', hd, z⟩ | z
      · cases z
        obtain ⟨v, hv, q⟩ := r.get hd
        refine ⟨v, ?_, q⟩
        unfold L2.start
        have hi : i < vs.length := by
          rcases Nat.lt_or_ge i vs.length with z | z
          · exact z
          · rw [List.getElem?_eq_none z] at hv; cases hv
        rw [List.getElem?_append_left (by rw [List.length_map]; exact hi), List.getElem?_map, hv]
        rfl
      · cases z
    · cases h

/-- what is known of the callees -/
structure Callees (Γ : Sig Fn) (φ : Fn → List D → W → Res D) (P : Program) (w : World) (K : PySem.W.Frag) (mg : Str → Option Value) (base : Heap) (k : Nat) : Prop where
  fns : ∀ g, Γ.has g = true → ∃ a fd ps, FnOk P w K mg base (L2N.CX P w) k a fd ps (spF K (φ g)) ∧ mg (Γ.nm g) = some (.ref a) ∧ PySem.W.keepIn K (.ref a) = true ∧ Binds K fd ps []
  mts : ∀ g, Γ.hasM g = true → ∃ a fd ps, FnOk P w K mg base (L2N.CX P w) k a fd ps (spF K (φ g)) ∧ Meth K (stA K) (Γ.nm g) a ∧ Binds K fd ps []
  mkf : ∀ g, Γ.isS g = true → (∀ w, φ g [] w = .stk) ∨ (∀ w, φ g [] w = mkG [] w)
  two : 2 ≤ k
/-- one def, its callees known -/
theorem ok_def {φ : Fn → List D → W → Res D} {d : FDef Fn} {f : Fn} {k : Nat} (Fa : Facts Γ tbl sp en P w K mg base) (hf : (Γ.has f || Γ.hasM f) = true) (hd : tbl f = some d) {a : Addr} {fd : FuncData}
    (F : FunD K (en f).nm (en f).qual (en f).params (en f).body (en f).scope [] [] a fd)
    (ih : Callees Γ φ P w K mg base k) :
    FnOk P w K mg base (L2N.CX P w) (k + 1) a fd (en f).ps (spF K (runD φ d)) := by
  have Sc := Fa.sc f hf
  obtain ⟨h1, h2, hc⟩ := Fa.ok f d hf hd
  refine F.ok Sc (fun vs H Q E h => ?_) (fun cdv A outer s H vs Q E hr h => ?_)
  · obtain ⟨ds, S, w', sb, r, p⟩ := h
    unfold runD at p
    split at p
    · rename_i q
      rw [← h1, ← q.1]
      exact r.length
    · exact p.elim
  · obtain ⟨ds, S, w', sb, r, p⟩ := h
    unfold runD at p
    split at p
    · rename_i q
      have X : XS Γ φ (cxOf (L2N.CX P w) P w K mg base (en f).N (en f).qual (en f).scope a cdv A outer s H E) (fun cls d _ H => E cls d H) (en f).scope := by
        refine ⟨⟨rfl, Sc.nd, rfl, ?_, L2N.takes_of rfl rfl rfl rfl, PassesOwn.leaving, fun g hg => ?_, Fa.frees, Fa.gi, Fa.gs, Fa.exf, Fa.gexc, Fa.rexc, Fa.mexc, Fa.stpC, fun g hg => ?_, fun g hg => ?_, fun hh => ⟨hr.mono ih.two, Fa.lnp hh⟩⟩, fun _ => rfl, Sc.kind, rfl, rfl, rfl⟩
        · have := hr.un
          show (A.deeper (envOfC (en f).qual (en f).scope s.heap.objs.size a cdv)).units + 65 < cLine
          omega
        · obtain ⟨a', fd', ps', h1, h2, h3, h4⟩ := ih.fns g hg
          exact ⟨a', fd', ps', k, h1, hr, h2, h3, h4⟩
        · obtain ⟨a', fd', ps', h1, h2, h3⟩ := ih.mts g hg
          exact ⟨a', fd', ps', k, h1, hr, h2, h3⟩
        · rcases ih.mkf g hg with q | q1
          · exact .inl q
          · obtain ⟨_, _, m1, fi, fd', ps', M, F', b⟩ := Fa.mkf g hg
            exact .inr ⟨m1, q1, fi, fd', ps', 1, M, F' 0, hr.mono ih.two, b⟩
      refine ⟨_, ok_b d.body X hc S H, ?_⟩
      refine ⟨_, w', S, ⟨Nxt.refl S H, sb, start_ok r h2, fun i xs a h _ => absurd h start_own⟩, ?_⟩
      unfold postO
      dsimp only
      split at p
      · rename_i e; rw [e]
        exact fun S1 H1 σ st => p S1 H1 .non st.n st.sb (show Rp S1 .none V.non from .non)
      · rename_i e; rw [e]
        exact p
      · rename_i e; rw [e]
        exact fun S1 H1 σ st => p S1 H1 st.n st.sb
      · exact p.elim
    · exact p.elim
theorem ok_none {n : Nat} {g : Fn} {a : Addr} {fd : FuncData} {ps : List Str} : FnOk P w K mg base (L2N.CX P w) n a fd ps (spF K (callN tbl sp 0 g)) :=
  ⟨fun vs H Q E h => by obtain ⟨_, _, _, _, _, p⟩ := h; exact p.elim, fun A outer s H args us vs Q E _ _ _ _ h => by obtain ⟨_, _, _, _, _, p⟩ := h; exact p.elim⟩
/-- all of them, by the fuel -/
theorem ok_all (Fa : Facts Γ tbl sp en P w K mg base) : ∀ n, Callees Γ (callN tbl sp n) P w K mg base (n + 2)
  | 0 => by
    refine ⟨fun g hg => ?_, fun g hg => ?_, fun g hg => .inl fun _ => rfl, Nat.le_refl _⟩
    · obtain ⟨a, fd, F, h1, h2⟩ := Fa.fns g hg
      exact ⟨a, fd, _, ok_none, h1, F.kp, h2⟩
    · obtain ⟨a, fd, F, h1, h2⟩ := Fa.mts g hg
      exact ⟨a, fd, _, ok_none, h1, h2⟩
  | n + 1 => by
    have key : ∀ g a fd, (Γ.has g || Γ.hasM g) = true → FunD K (en g).nm (en g).qual (en g).params (en g).body (en g).scope [] [] a fd → FnOk P w K mg base (L2N.CX P w) (n + 3) a fd (en g).ps (spF K (callN tbl sp (n + 1) g)) := by
      intro g a fd hg F
      cases ht : tbl g with
      | none =>
        have e : callN tbl sp (n + 1) g = sp g := by funext ds w; unfold callN; rw [ht]
        rw [e]
        exact Fa.spc g a fd (n + 2) hg ht F
      | some d =>
        have e : callN tbl sp (n + 1) g = runD (callN tbl sp n) d := by funext ds w; unfold callN; rw [ht]
        rw [e]
        exact ok_def Fa hg ht F (ok_all Fa n)
    refine ⟨fun g hg => ?_, fun g hg => ?_, fun g hg => .inr fun w => ?_, by omega⟩
    · obtain ⟨a, fd, F, h1, h2⟩ := Fa.fns g hg
      exact ⟨a, fd, _, key g a fd (by rw [hg]; rfl) F, h1, F.kp, h2⟩
    · obtain ⟨a, fd, F, h1, h2⟩ := Fa.mts g hg
      exact ⟨a, fd, _, key g a fd (by rw [hg, Bool.or_true]) F, h1, h2⟩
    · obtain ⟨h1, h2, _⟩ := Fa.mkf g hg
      have e : callN tbl sp (n + 1) g = sp g := by funext ds w; unfold callN; rw [h1]
      rw [e, h2]
/-! ### __init__ -/
def chkInit (x : Str) (body : List Stmt) : Bool := match body with
  | [.Assign [.Attribute (.Name a _) n1 _] (.List [] _) _, .Assign [.Attribute (.Name b _) n2 _] (.List [] _) _] => decide (a = x) && decide (b = x) && decide (n1 = "row") && decide (n2 = "past")
  | _ => false
theorem ok_init {nm qual : Str} {params : Arguments} {body : List Stmt} {sc : Scope} {f : Addr} {fd : FuncData} {x : Str} {k : Nat} (F : FunD K nm qual params body sc [] [] f fd) (Sc : FnScope [x] [x] sc) (hc : chkInit x body = true) (hx : visB sc x = true) (hn : okN x = true)
    (C : Cls K (stA K) ∧ NoAttr K (stA K) "row" ∧ NoAttr K (stA K) "past") : FnOk P w K mg base (L2N.CX P w) (k + 1) f fd [x] (spI K) := by
  obtain ⟨n1, n2⟩ := okN_of hn
  refine F.ok Sc (fun vs H Q E h => ?_) (fun cdv A outer s H vs Q E hr h => ?_)
  · obtain ⟨y, dx, rfl, _⟩ := h
    rfl
  · obtain ⟨y, dx, rfl, h1, q⟩ := h
    unfold chkInit at hc
    split at hc
    · simp only [Bool.and_eq_true, decide_eq_true_eq] at hc
      obtain ⟨⟨⟨e1, e2⟩, e3⟩, e4⟩ := hc
      subst e1 e2 e3 e4
      have vis := vis_of hx
      refine ⟨_, pss_cons (ps_fld (pe_var (i := 0) rfl vis n1 n2) (pe_lst pa_nil) rfl) (pss_one (ps_fld (pe_var (i := 0) rfl vis n1 n2) (pe_lst pa_nil) rfl)), ?_⟩
      refine ⟨Nat.zero_le _, fun r hr => ⟨_, rfl, y, _, dx, [], rfl, (by rw [upd_ne (by rintro rfl; rw [h1] at hr; cases hr)]; exact h1), C.1, C.2.1, (by show 0 < 1000; decide), Nat.zero_le _, fun p hp => ⟨_, rfl, y, _, dx, [("row", .ref r)], rfl, (by rw [upd_ne (by rintro rfl; rw [upd_same] at hp; cases hp), upd_same]; rfl), C.1, C.2.2, (by show 1 < 1000; decide), ?_⟩⟩⟩
      · have ny : p ≠ y := by rintro rfl; rw [upd_same] at hp; cases hp
        have nr : p ≠ r := by rintro rfl; rw [upd_ne ny, upd_same] at hp; cases hp
        exact q r p hr (by rw [upd_ne ny, upd_ne nr] at hp; exact hp) nr
    · cases hc
/-! ### __len__, points -/
def chkLen (f x : Str) (body : List Stmt) : Bool := match body with
  | [.Return (some (.Call (.Name b _) [.Attribute (.Name a _) n1 _] [] _)) _] => decide (b = f) && decide (a = x) && decide (n1 = "row")
  | _ => false
theorem ok_len {nm qual : Str} {params : Arguments} {body : List Stmt} {sc : Scope} {f : Addr} {fd : FuncData} {x : Str} {k : Nat} (F : FunD K nm qual params body sc [] [] f fd) (Sc : FnScope [x] [x] sc) (hc : chkLen "len" x body = true) (hx : visB sc x = true) (hn : okN x = true)
    (hl : sc.names.lookup ("len" : Str) = some .globalImplicit) (hm : mg "len" = none) (C : Cls K (stA K) ∧ NoAttr K (stA K) "row" ∧ NoAttr K (stA K) "past") : FnOk P w K mg base (L2N.CX P w) (k + 1) f fd [x] (spL K) := by
  obtain ⟨n1, n2⟩ := okN_of hn
  refine F.ok Sc (fun vs H Q E h => ?_) (fun cdv A outer s H vs Q E hr h => ?_)
  · obtain ⟨y, dx, r, p, xs, rfl, _⟩ := h
    rfl
  · obtain ⟨y, dx, r, p, xs, rfl, h1, h2, q⟩ := h
    unfold chkLen at hc
    split at hc
    · simp only [Bool.and_eq_true, decide_eq_true_eq] at hc
      obtain ⟨⟨e1, e2⟩, e3⟩ := hc
      subst e1 e2 e3
      have vis := vis_of hx
      exact ⟨_, pss_one (ps_ret (pe_callB call_len_seq (show Gl _ _ from hl) hm PySem.boot_len (pa_cons (pe_fld (pe_var (i := 0) rfl vis n1 n2) rfl) pa_nil))), ⟨_, rfl, y, _, dx, _, _, rfl, h1, C.1, C.2.1, rfl, r, xs, rfl, .inl (SqL.of h2), q⟩⟩
    · cases hc
theorem ok_pts {nm qual : Str} {params : Arguments} {body : List Stmt} {sc : Scope} {f : Addr} {fd : FuncData} {x : Str} {k : Nat} (F : FunD K nm qual params body sc [] [] f fd) (Sc : FnScope [x] [x] sc) (hc : chkLen "list" x body = true) (hx : visB sc x = true) (hn : okN x = true)
    (hl : sc.names.lookup ("list" : Str) = some .globalImplicit) (hm : mg "list" = none) (C : Cls K (stA K) ∧ NoAttr K (stA K) "row" ∧ NoAttr K (stA K) "past") : FnOk P w K mg base (L2N.CX P w) (k + 1) f fd [x] (spP K) := by
  obtain ⟨n1, n2⟩ := okN_of hn
  refine F.ok Sc (fun vs H Q E h => ?_) (fun cdv A outer s H vs Q E hr h => ?_)
  · obtain ⟨y, dx, r, p, xs, rfl, _⟩ := h
    rfl
  · obtain ⟨y, dx, r, p, xs, rfl, h1, h2, q⟩ := h
    unfold chkLen at hc
    split at hc
    · simp only [Bool.and_eq_true, decide_eq_true_eq] at hc
      obtain ⟨⟨e1, e2⟩, e3⟩ := hc
      subst e1 e2 e3
      have vis := vis_of hx
      exact ⟨_, pss_one (ps_ret (pe_callTy call_list_of (show Gl _ _ from hl) hm boot_list (pa_cons (pe_fld (pe_var (i := 0) rfl vis n1 n2) rfl) pa_nil))), ⟨_, rfl, y, _, dx, _, _, rfl, h1, C.1, C.2.1, rfl, r, xs, rfl, .inl (SqL.of h2), q⟩⟩
    · cases hc
end
end Ev

end

section
/-! EvM: the law's end. -/
namespace Ev
open PySem PySem.Spec PyProof.Rows L2

/-- what the evaluator starts from -/
def w0 (a : Nat) (ns : List Int) : W := ⟨none, none, some (a, ns)⟩
/-- an answer True -/
def isT : Res D → Bool
  | .ok (.p (.bool true)) _ => true
  | _ => false

/-- the end of a law whose def is read by the evaluator; what it may let out depends on the world -/
theorem walk_ev {l : PySem.W.OpenLaw} {n k : Nat} {q : Program} {loose : List Str} {XP : (Str → Option Value) → Heap → Prop} {YP : World → Heap → Prop} {d : DefRec} {x : Str} {g : List D → W → Res D}
    (h1 : l.most = some n) (h2 : n ≤ sizeLine) (h3 : d.params.defaults = []) (h4 : Room k callerA)
    (hg : ∀ (a : Nat) (ns : List Int), ns.length ≤ n → isT (g [.scr a] (w0 a ns)) = true)
    (h5 : ∀ (w : World) (mg : Str → Option Value) (fa : Addr) (h : Heap), YP w h → h.Ns mainGlobals mg → mg d.name = some (.ref fa) →
      ∃ (K : PySem.W.Frag) (fd : FuncData), K.In h ∧ (∀ (s : Shared) (u : Value), BindsTo s fd ⟨[u], []⟩ [(x, u)]) ∧
        ∀ base : Heap, K.In base → base.Ns mainGlobals mg → FnOk l.prog w K mg base (L2N.CX l.prog w) k fa fd [x] (spF K g)) :
    PySem.W.WalkO q loose XP YP l.row.toRowW d [] (fun f vs => PySem.call f vs) :=
  Att.attach_call h1 h3 fun w s0 s1 mg mb fa o pm cd doc a vs ns G Y ho hd hcd hmg hobj hints hlen hgn => by
    obtain ⟨K, fd, KX, hb, hF⟩ := h5 w mg fa _ Y G.T.g hmg
    refine law_call KX G.T.g G.T.b G.T.builtins G.T.nolimit hgn hobj hints (Nat.le_trans hlen h2) h4 hF hb (fun H hO hS => ?_) (fun H e s' h => ?_)
    · have hq := hg a ns hlen
      refine ⟨[.scr a], fun _ => none, w0 a ns, ⟨fun _ _ e => (nomatch e), fun _ _ e => (nomatch e), fun _ _ e => (nomatch e), fun b ms e => ?_⟩, .cons rfl .nil, ?_⟩
      · cases e
        rcases hS with (z | ⟨o, z⟩) | z
        · rcases hO a with y | ⟨o, xs, y⟩
          · rw [y] at z; cases z
          · rw [y] at z; cases z
        · exact .inr ⟨rfl, o, z⟩
        · exact .inl z
      · unfold isT at hq
        split at hq
        · rename_i e
          rw [e]
          intro S1 H1 v _ _ r
          cases (show Rp S1 _ v from r)
          rfl
        · cases hq
    · obtain ⟨_, _, _, _, _, _, _, _, _, _, _, _, z⟩ := h
      exact z
/-! ### the own exceptions, told at the head -/
def oneExc (K : PySem.W.Frag) (c : Nat) : Bool :=
  He.eqO (PySem.W.findIn K (.ref (excA K c)) "__getattribute__") (some (some (.builtin "BaseException.__getattribute__"))) && (He.eqO (PySem.W.findIn K (.ref (excA K c)) "__getattr__") (some none) &&
  (decide (PySem.W.subIn K (.ref (excA K c)) (.type "BaseException") = some true) && (PySem.W.hasDictIn K (excA K c) && (He.eqO (PySem.W.findIn K (.ref (excA K c)) "__class__") (some (some (.builtin "object.__class__"))) &&
  (He.eqO (PySem.W.specialIn K (.builtin "object.__class__") "__get__") (some (some (.builtin "getset_descriptor.__get__"))) && (decide (PySem.W.takesIn K (.builtin "object.__class__") = some true) && (decide (PySem.W.mroIn K (excA K c) (.type "object") = some true) &&
  (decide (PySem.W.kitOne K (.ref (excA K c)) (.type "ValueError") = some true) && (List.range 8).all fun k => decide (PySem.W.kitOne K (.ref (excA K c)) (.ref (excA K k)) = some (decide (k = 7) || decide (c = k)))))))))))
def excB (K : PySem.W.Frag) : Bool := (List.range 7).all fun c => oneExc K c
theorem excB_ok {K : PySem.W.Frag} (h : excB K = true) : ExcF K := by
  have key : ∀ c, c ≤ 6 → ExcC K (excA K c) ∧ PySem.W.kitOne K (.ref (excA K c)) (.type "ValueError") = some true ∧ ∀ k, k ≤ 7 → PySem.W.kitOne K (.ref (excA K c)) (.ref (excA K k)) = some (decide (k = 7) || decide (c = k)) := by
    intro c hc
    have z := List.all_eq_true.mp h c (List.mem_range.mpr (by omega))
    unfold oneExc at z
    simp only [Bool.and_eq_true, decide_eq_true_eq] at z
    obtain ⟨z1, z2, z3, z4, z5, z6, z7, z8, z9, z10⟩ := z
    exact ⟨⟨He.eqO_ok z1, He.eqO_ok z2, z3, z4, He.eqO_ok z5, He.eqO_ok z6, z7, z8⟩, z9, fun k hk => of_decide_eq_true (List.all_eq_true.mp z10 k (List.mem_range.mpr (by omega)))⟩
  exact ⟨fun c k hc hk => (key c hc).2.2 k hk, fun c hc => (key c hc).2.1, fun c hc => (key c hc).1⟩
def obsEG (n : Nat) (fa : List He.Fa) (fn : List He.DefD) (ex : PySem.W.Frag → Bool) (g : Addr → Option Obj) : He.AlD × Bool := (He.obsDG n fa fn g, ex (He.frG g (He.asD g n)))
/-- the facts of a head, and one test more -/
def hookE (n : Nat) (fa : List He.Fa) (fn : List He.DefD) (ex : PySem.W.Frag → Bool) : PySem.W.Hook where
  α := He.AlD × Bool
  obs := fun s => obsEG n fa fn ex s.heap.get?
  val := fun _ => (He.valD fn, true)
  says := fun _ h => ∃ K : PySem.W.Frag, K.In h ∧ He.SaysD fa fn K ∧ ex K = true
  of := fun _ _ e => ⟨_, He.frG_in, congrArg (fun z : He.AlD × Bool => z.1) e, congrArg (fun z : He.AlD × Bool => z.2) e⟩
  keeps := fun _ _ _ ⟨K, hK, c⟩ k => ⟨K, PySem.W.Frag.In.keeps hK k, c⟩
theorem obsEG_eq {n : Nat} {fa : List He.Fa} {fn : List He.DefD} {ex : PySem.W.Frag → Bool} {g : Addr → Option Obj} {s : Shared} (h : ∀ a, g a = s.heap.get? a) : obsEG n fa fn ex g = (hookE n fa fn ex).obs s := by
  have e : g = s.heap.get? := funext h
  subst e
  rfl
end Ev

end

section
/-! EvN: a better oracle gives the same answers. -/
namespace Ev
open PySem

def Le {α : Type} (r s : Res α) : Prop := r = .stk ∨ s = r
def LeO (r s : Out) : Prop := r = .stk ∨ s = r
def LeF {Fn : Type} (φ ψ : Fn → List D → W → Res D) : Prop := ∀ f ds w, Le (φ f ds w) (ψ f ds w)
section
variable {α β : Type}
theorem Le.rfl' {r : Res α} : Le r r := .inr rfl
theorem LeO.rfl' {r : Out} : LeO r r := .inr rfl
theorem Le.bind {r s : Res α} {f g : α → W → Res β} (h : Le r s) (k : ∀ a w, Le (f a w) (g a w)) : Le (r.bind f) (s.bind g) := by
  rcases h with rfl | rfl
  · exact .inl rfl
  · cases s with
    | ok a w => exact k a w
    | exc c w => exact .inr rfl
    | stk => exact .inl rfl
theorem Le.toO {r s : Res α} {ρ : Env} {f g : α → W → Out} (h : Le r s) (k : ∀ a w, LeO (f a w) (g a w)) : LeO (r.toO ρ f) (s.toO ρ g) := by
  rcases h with rfl | rfl
  · exact .inl rfl
  · cases s with
    | ok a w => exact k a w
    | exc c w => exact .inr rfl
    | stk => exact .inl rfl
theorem LeO.bind {r s : Out} {f g : Env → W → Out} (h : LeO r s) (k : ∀ ρ w, LeO (f ρ w) (g ρ w)) : LeO (r.bind f) (s.bind g) := by
  rcases h with rfl | rfl
  · exact .inl rfl
  · cases s with
    | next ρ w => exact k ρ w
    | stk => exact .inl rfl
    | _ => exact .inr rfl
theorem Le.tst {r s : Res D} (h : Le r s) : Le (Ev.tst r) (Ev.tst s) := h.bind fun _ _ => .rfl'
theorem Le.plainR {r s : Res D} (h : Le r s) : Le (Ev.plainR r) (Ev.plainR s) := by
  rcases h with rfl | rfl
  · exact .inl rfl
  · exact .rfl'
theorem compGo_le {f g : Env → W → Res (Option PyData)} (h : ∀ ρ w, Le (f ρ w) (g ρ w)) (ρ : Env) (t : MT) : ∀ (xs : List PyData) (w : W), Le (compGo f ρ t xs w) (compGo g ρ t xs w)
  | [], w => .rfl'
  | x :: xs, w => by
    unfold compGo
    split
    · exact .inl rfl
    · rename_i ρ' _
      rcases h ρ' w with e | e
      · rw [e]; exact .inl rfl
      · rw [e]
        split
        · rename_i y w1 _
          rcases compGo_le h ρ t xs w1 with e2 | e2
          · rw [e2]; exact .inl rfl
          · rw [e2]; exact .rfl'
        · exact compGo_le h ρ t xs _
        · exact .inl rfl
theorem forGo_le {f g : Env → W → Out} (h : ∀ ρ w, LeO (f ρ w) (g ρ w)) (t : MT) : ∀ (xs : List PyData) (ρ : Env) (w : W), LeO (forGo f t xs ρ w) (forGo g t xs ρ w)
  | [], ρ, w => .rfl'
  | x :: xs, ρ, w => by
    unfold forGo
    split
    · exact .inl rfl
    · rename_i ρ' _
      rcases h ρ' w with e | e
      · rw [e]; exact .inl rfl
      · rw [e]
        split
        · exact forGo_le h t xs _ _
        · exact forGo_le h t xs _ _
        · exact .rfl'
        · exact .rfl'
theorem whileGo_le {c d : Env → W → Res D} {f g : Env → W → Out} (hc : ∀ ρ w, Le (c ρ w) (d ρ w)) (h : ∀ ρ w, LeO (f ρ w) (g ρ w)) : ∀ (n : Nat) (ρ : Env) (w : W), LeO (whileGo c f n ρ w) (whileGo d g n ρ w)
  | 0, ρ, w => .rfl'
  | n + 1, ρ, w => by
    unfold whileGo
    refine (hc ρ w).tst.toO fun b w1 => ?_
    cases b with
    | false => exact .rfl'
    | true =>
      dsimp only
      rcases h ρ w1 with e | e
      · rw [e]; exact .inl rfl
      · rw [e]
        split
        · exact whileGo_le hc h n _ _
        · exact whileGo_le hc h n _ _
        · exact .rfl'
        · exact .rfl'
end
section
variable {Fn : Type} {φ ψ : Fn → List D → W → Res D} (h : LeF φ ψ)
include h
mutual
theorem evE_le (ρ : Env) : ∀ (e : ME Fn) (w : W), Le (evE φ ρ e w) (evE ψ ρ e w)
  | .var i, w => by unfold evE; exact .rfl'
  | .non, w => by unfold evE; exact .rfl'
  | .bl b, w => by unfold evE; exact .rfl'
  | .int i, w => by unfold evE; exact .rfl'
  | .str x, w => by unfold evE; exact .rfl'
  | .gint _ i, w => by unfold evE; exact .rfl'
  | .gstr _ z, w => by unfold evE; exact .rfl'
  | .bin op a b, w => by unfold evE; exact (evE_le ρ a w).bind fun x w1 => (evE_le ρ b w1).bind fun y w2 => .rfl'
  | .neg a, w => by unfold evE; exact (evE_le ρ a w).bind fun x w1 => .rfl'
  | .not a, w => by unfold evE; exact (evE_le ρ a w).bind fun x w1 => .rfl'
  | .cmp op a b, w => by unfold evE; exact (evE_le ρ a w).bind fun x w1 => (evE_le ρ b w1).bind fun y w2 => .rfl'
  | .chain op op' a b c, w => by
    unfold evE
    refine (evE_le ρ a w).bind fun x w1 => (evE_le ρ b w1).bind fun y w2 => Le.bind .rfl' fun t w3 => ?_
    cases t
    · exact .rfl'
    · exact (evE_le ρ c w3).bind fun z w4 => .rfl'
  | .and a b, w => by
    unfold evE
    refine (evE_le ρ a w).tst.bind fun t w1 => ?_
    cases t
    · exact .rfl'
    · exact evE_le ρ b w1
  | .or a b, w => by
    unfold evE
    refine (evE_le ρ a w).tst.bind fun t w1 => ?_
    cases t
    · exact evE_le ρ b w1
    · exact .rfl'
  | .and1 a, w => by unfold evE; exact evE_le ρ a w
  | .or1 a, w => by unfold evE; exact evE_le ρ a w
  | .ite c a b, w => by
    unfold evE
    refine (evE_le ρ c w).tst.bind fun t w1 => ?_
    cases t
    · exact evE_le ρ b w1
    · exact evE_le ρ a w1
  | .call f es, w => by unfold evE; exact (evEs_le ρ es w).bind fun ds w1 => h f ds w1
  | .call0 f, w => by unfold evE; exact h f [] w
  | .sset a, w => by unfold evE; exact (evE_le ρ a w).bind fun x w1 => .rfl'
  | .fmt a, w => by unfold evE; exact (evE_le ρ a w).bind fun x w1 => .rfl'
  | .fstr es, w => by unfold evE; exact (evEs_le ρ es w).bind fun x w1 => .rfl'
  | .join a b, w => by
    unfold evE
    refine (evE_le ρ a w).bind fun x w1 => ?_
    split
    · exact (evE_le ρ b w1).bind fun y w2 => .rfl'
    · exact .rfl'
  | .split a b, w => by
    unfold evE
    refine (evE_le ρ a w).bind fun x w1 => ?_
    split
    · exact (evE_le ρ b w1).bind fun y w2 => .rfl'
    · exact .rfl'
  | .bcall b es, w => by unfold evE; exact (evEs_le ρ es w).bind fun ds w1 => .rfl'
  | .lenum e, w => by unfold evE; exact (evE_le ρ e w).bind fun x w1 => .rfl'
  | .lrng a b, w => by unfold evE; exact (evE_le ρ a w).bind fun x w1 => (evE_le ρ b w1).bind fun y w2 => .rfl'
  | .isi a t, w => by unfold evE; exact (evE_le ρ a w).bind fun x w1 => .rfl'
  | .ix a b, w => by unfold evE; exact (evE_le ρ a w).bind fun x w1 => (evE_le ρ b w1).bind fun y w2 => .rfl'
  | .sl a lo hi, w => by unfold evE; exact (evE_le ρ a w).bind fun x w1 => (evO_le ρ lo w1).bind fun l w2 => (evO_le ρ hi w2).bind fun u w3 => .rfl'
  | .slS a lo st, w => by unfold evE; exact (evE_le ρ a w).bind fun x w1 => (evO_le ρ lo w1).bind fun l w2 => (evE_le ρ st w2).bind fun u w3 => .rfl'
  | .tup es, w => by unfold evE; exact (evEs_le ρ es w).bind fun ds w1 => .rfl'
  | .lst es, w => by unfold evE; exact (evEs_le ρ es w).bind fun ds w1 => .rfl'
  | .comp elt t it vs, w => by
    unfold evE
    refine (evI_le ρ it w).bind fun xs w1 => ?_
    split
    · exact (compGo_le (fun ρ' w' => (evE_le ρ' elt w').plainR) _ t xs w1).bind fun ys w2 => .rfl'
    · exact .rfl'
  | .compIf elt t it c vs, w => by
    unfold evE
    refine (evI_le ρ it w).bind fun xs w1 => ?_
    split
    · refine (compGo_le (fun ρ' w' => (evE_le ρ' c w').tst.bind fun b w'' => ?_) _ t xs w1).bind fun ys w2 => .rfl'
      cases b
      · exact .rfl'
      · exact (evE_le ρ' elt w'').plainR
    · exact .rfl'
  | .lenO i, w => by unfold evE; exact .rfl'
  | .ixO i b, w => by
    unfold evE
    split
    · exact (evE_le ρ b w).bind fun y w1 => .rfl'
    · exact .rfl'
  | .ninO a i, w => by unfold evE; exact (evE_le ρ a w).bind fun x w1 => .rfl'
  | .index a b, w => by
    unfold evE
    refine (evE_le ρ a w).bind fun x w1 => ?_
    split
    · exact (evE_le ρ b w1).bind fun y w2 => .rfl'
    · exact .rfl'
  | .count a b, w => by
    unfold evE
    refine (evE_le ρ a w).bind fun x w1 => ?_
    split
    · exact (evE_le ρ b w1).bind fun y w2 => .rfl'
    · exact .rfl'
  | .mkS f, w => by unfold evE; exact h f [] w
  | .meth f i es, w => by
    unfold evE
    split
    · exact (evEs_le ρ es w).bind fun ds w1 => h f _ w1
    · exact .rfl'
  | .meth0 f i, w => by
    unfold evE
    split
    · exact h f _ w
    · exact .rfl'
  | .srow i, w => by unfold evE; exact .rfl'
  | .noPast i, w => by unfold evE; exact .rfl'
  | .lenS i, w => by unfold evE; exact .rfl'
  | .neO i, w => by unfold evE; exact .rfl'
theorem evEs_le (ρ : Env) : ∀ (es : MEs Fn) (w : W), Le (evEs φ ρ es w) (evEs ψ ρ es w)
  | .nil, w => by unfold evEs; exact .rfl'
  | .cons e es, w => by unfold evEs; exact (evE_le ρ e w).bind fun x w1 => (evEs_le ρ es w1).bind fun xs w2 => .rfl'
theorem evI_le (ρ : Env) : ∀ (it : MI Fn) (w : W), Le (evI φ ρ it w) (evI ψ ρ it w)
  | .seq e, w => by unfold evI; exact (evE_le ρ e w).bind fun x w1 => .rfl'
  | .range1 a, w => by unfold evI; exact (evE_le ρ a w).bind fun x w1 => .rfl'
  | .range2 a b, w => by unfold evI; exact (evE_le ρ a w).bind fun x w1 => (evE_le ρ b w1).bind fun y w2 => .rfl'
  | .range3 a b c, w => by unfold evI; exact (evE_le ρ a w).bind fun x w1 => (evE_le ρ b w1).bind fun y w2 => (evE_le ρ c w2).bind fun z w3 => .rfl'
  | .enum e, w => by unfold evI; exact (evE_le ρ e w).bind fun x w1 => .rfl'
  | .zip a b, w => by unfold evI; exact (evE_le ρ a w).bind fun x w1 => (evE_le ρ b w1).bind fun y w2 => .rfl'
theorem evO_le (ρ : Env) : ∀ (o : MO Fn) (w : W), Le (evO φ ρ o w) (evO ψ ρ o w)
  | .non, w => by unfold evO; exact .rfl'
  | .some e, w => by unfold evO; exact (evE_le ρ e w).bind fun x w1 => .rfl'
end
mutual
theorem evS_le (ρ : Env) : ∀ (s : MS Fn) (w : W), LeO (evS φ ρ s w) (evS ψ ρ s w)
  | .set i e, w => by unfold evS; exact (evE_le h ρ e w).toO fun d w1 => .rfl'
  | .setO i e, w => by unfold evS; exact (evE_le h ρ e w).toO fun d w1 => .rfl'
  | .parO i es j k, w => by unfold evS; exact (evE_le h ρ (.lst es) w).toO fun d w1 => .rfl'
  | .par is es, w => by unfold evS; exact (evEs_le h ρ es w).toO fun d w1 => .rfl'
  | .unp is e, w => by unfold evS; exact (evE_le h ρ e w).toO fun d w1 => .rfl'
  | .aug i op e, w => by
    unfold evS
    split
    · exact (evE_le h ρ e w).toO fun d w1 => .rfl'
    · exact .rfl'
  | .extO i e, w => by
    unfold evS
    split
    · exact (evE_le h ρ e w).toO fun d w1 => .rfl'
    · exact .rfl'
  | .app i e, w => by
    unfold evS
    split
    · exact (evE_le h ρ e w).toO fun d w1 => .rfl'
    · exact .rfl'
  | .stO i j e, w => by
    unfold evS
    split
    · exact (evE_le h ρ e w).toO fun d w1 => (evE_le h ρ j w1).toO fun k w2 => .rfl'
    · exact .rfl'
  | .ife c a b, w => by
    unfold evS
    refine (evE_le h ρ c w).tst.toO fun t w1 => ?_
    cases t
    · exact evB_le ρ b w1
    · exact evB_le ρ a w1
  | .for_ t it b, w => by unfold evS; exact (evI_le h ρ it w).toO fun xs w1 => forGo_le (fun ρ' w' => evB_le ρ' b w') t xs ρ w1
  | .while_ c b, w => by unfold evS; exact whileGo_le (fun ρ' w' => evE_le h ρ' c w') (fun ρ' w' => evB_le ρ' b w') whileMost ρ w
  | .ret e, w => by unfold evS; exact (evE_le h ρ e w).toO fun d w1 => .rfl'
  | .retN, w => by unfold evS; exact .rfl'
  | .expr e, w => by unfold evS; exact (evE_le h ρ e w).toO fun d w1 => .rfl'
  | .raise c, w => by unfold evS; exact .rfl'
  | .try_ b i j, w => by
    unfold evS
    rcases evB_le ρ b w with e | e
    · rw [e]; exact .inl rfl
    · rw [e]; exact .rfl'
  | .pass, w => by unfold evS; exact .rfl'
  | .setRow i e, w => by unfold evS; exact (evE_le h ρ e w).toO fun d w1 => .rfl'
  | .appPast i, w => by unfold evS; exact .rfl'
  | .popPast i, w => by unfold evS; exact .rfl'
  | .ptsApp i e, w => by
    unfold evS
    split
    · split
      · exact (evE_le h ρ e w).toO fun d w1 => .rfl'
      · exact .rfl'
    · exact .rfl'
  | .popO j i, w => by unfold evS; exact .rfl'
  | .par3O f i j k, w => by unfold evS; exact (h f [] w).toO fun d w1 => .rfl'
  | .wild, w => by unfold evS; exact .rfl'
theorem evB_le (ρ : Env) : ∀ (b : MB Fn) (w : W), LeO (evB φ ρ b w) (evB ψ ρ b w)
  | .nil, w => by unfold evB; exact .rfl'
  | .cons s b, w => by unfold evB; exact (evS_le ρ s w).bind fun ρ1 w1 => evB_le ρ1 b w1
  | .frz i b, w => by
    unfold evB
    split
    · exact evB_le _ b w
    · exact .rfl'
end
theorem runD_le (d : FDef Fn) (ds : List D) (w : W) : Le (runD φ d ds w) (runD ψ d ds w) := by
  unfold runD
  split
  · rcases evB_le h (ds.map Slot.val ++ List.replicate (d.nn - ds.length) .un) d.body w with e | e
    · rw [e]; exact .inl rfl
    · rw [e]; exact .rfl'
  · exact .rfl'
end
section
variable {Fn : Type} {tbl : Fn → Option (FDef Fn)} {sp : Fn → List D → W → Res D}
theorem callN_step : ∀ n, LeF (callN tbl sp n) (callN tbl sp (n + 1))
  | 0, f, ds, w => .inl rfl
  | n + 1, f, ds, w => by
    rw [callN, callN]
    split
    · exact .rfl'
    · exact runD_le (callN_step n) _ ds w
theorem LeF.trans {φ ψ χ : Fn → List D → W → Res D} (a : LeF φ ψ) (b : LeF ψ χ) : LeF φ χ := fun f ds w => by
  rcases a f ds w with e | e
  · exact .inl e
  · rcases b f ds w with e2 | e2
    · exact .inl (e.symm.trans e2)
    · exact .inr (e2.trans e)
theorem callN_le {n : Nat} : ∀ k, LeF (callN tbl sp n) (callN tbl sp (n + k))
  | 0 => fun _ _ _ => .rfl'
  | k + 1 => (callN_le k).trans (callN_step (n + k))
/-- what is known with some fuel is known with more -/
theorem callN_up {n m : Nat} {f : Fn} {ds : List D} {w w' : W} {d : D} (h : callN tbl sp n f ds w = .ok d w') (hm : n ≤ m) : callN tbl sp m f ds w = .ok d w' := by
  obtain ⟨k, rfl⟩ := Nat.exists_eq_add_of_le hm
  rcases callN_le (tbl := tbl) (sp := sp) (n := n) k f ds w with e | e
  · rw [h] at e; cases e
  · rw [e, h]
theorem callN_upE {n m : Nat} {f : Fn} {ds : List D} {w w' : W} {c : Nat} (h : callN tbl sp n f ds w = .exc c w') (hm : n ≤ m) : callN tbl sp m f ds w = .exc c w' := by
  obtain ⟨k, rfl⟩ := Nat.exists_eq_add_of_le hm
  rcases callN_le (tbl := tbl) (sp := sp) (n := n) k f ds w with e | e
  · rw [h] at e; cases e
  · rw [e, h]
end
end Ev

end

section
/-! the defs, as the evaluator has them -/
namespace Px
open PySem PySem.Spec PyProof.Rows L2 Ev
inductive Fn where
  | f_is_int
  | f_is_point
  | f_are_points
  | f_check_points
  | f_common
  | f_lowest
  | f_less
  | f_bounds
  | f_straight
  | f_is_straight
  | f_check_straight
  | f_slopes
  | f_is_line
  | f_check_line
  | f_explains
  | f_law_start
  | f_law_draw
  | f_law_pick
  | f_law_error
  | f_law_true
  | f_law_common
  | f_law_low
  | f_law_line
  | f_law_height
  | f_law_xs
  | f_law_points
  | f_law_bounds
  | f_law_told
  | f_law_told_k02
  | f_law_told_k03
  | f_law_told_k07
  | f_law_k01
  | f_law_k02
  | f_law_k03
  | f_law_k04
  | f_law_k05
  | f_law_k06
  | f_law_k07
  | f_law_k08
  | f_law_k09
  | f_law_k10
  | f_law_k11
  | f_law_k12
  | f_law_k13
  | f_law_k14
  | f_law_k15
  | f_law_k16
  | f_law_k17
  | f_law_k18
  | f_law_k19
  | f_law_k20
  | f_law_k21
  | f_is_fraction
  | f_check_fraction
  | f_simplest_in
  | f_height_at
  | f_offsets
  | f_offsets_for
  | f_leanest
  | f_leanest_line
  | f_law_fits
  | f_lines_with
  | f_law_lines
  | f_simplest
  | f_triples
  | f_clash
  | f_all_clashes
  | f_clashes_at
  | f_law_groups
  | f_is_row
  | f_check_row
  | f_as_points
  | f_points_of
  | f_is_straight_row
  | f_differences
  | f_steps_of
  | f_row_of
  | f_window_sums
  | f_uneven
  | f_law_row
  | f_with_point
  | f_possible
  | f_check_two
  | f_heights_at
  | f_next_heights
  | f_certain_heights
  | f_law_possible
  | f_without_divisor
  | f_count_rows
  | f_behind
  | f_longer
  | f_all_rows
  | f_check_length
  | f_step_rows
  | f_check_steps
  | f_rank_of
  | f_steps_at
  | f_is_piece
  | f_longest
  | f_longest_piece
  | f_pieces
  | f_is_parting
  | f_count_partings
  | f_corners
  | f_law_ok
  | f_law_lists
  | f_choices_of
  | f_without
  | f_good_groups
  | f_check_few
  | f_fewest
  | f_fewest_wrong
  | f_count_wrong
  | f_surely_wrong
  | f_is_enough
  | f_checked
  | f_moved
  | f_sheared
  | f_turned_over
  | f_backward
  | f_every
  | f_Strip
  | m___init__
  | m_add
  | m_fits
  | m_fits_k17
  | m_drop
  | m_drop_k17
  | m_points
  | m_slopes
  | m_line
  | m_undo
  | m_undo_k17
  | m___len__
  | f_law_call
  | f_parse_number
  | f_check_text
  | f_format_points
  | f_parse_points
  | f_format_row
  | f_parse_row
  | f_format_line
  | f_drawn
  | f_law_written
  | f_law_parsed
  | f_law_rejected
  | f_law_one
  | f_law_two
  | f_law_line_call
  | f_law_asked
  | f_law_asked_k16
  | f_law_numbers
  | f_law_row_call
  | f_law_more
  | f_law_strip_call
  | f_law_strip
  | f_law_counts
  | f_wall
  | f_law_first
  | f_law_second
def nmF : Fn → Str
  | .f_is_int => "is_int"
  | .f_is_point => "is_point"
  | .f_are_points => "are_points"
  | .f_check_points => "check_points"
  | .f_common => "common"
  | .f_lowest => "lowest"
  | .f_less => "less"
  | .f_bounds => "bounds"
  | .f_straight => "straight"
  | .f_is_straight => "is_straight"
  | .f_check_straight => "check_straight"
  | .f_slopes => "slopes"
  | .f_is_line => "is_line"
  | .f_check_line => "check_line"
  | .f_explains => "explains"
  | .f_law_start => "_law_start"
  | .f_law_draw => "_law_draw"
  | .f_law_pick => "_law_pick"
  | .f_law_error => "_law_error"
  | .f_law_true => "_law_true"
  | .f_law_common => "_law_common"
  | .f_law_low => "_law_low"
  | .f_law_line => "_law_line"
  | .f_law_height => "_law_height"
  | .f_law_xs => "_law_xs"
  | .f_law_points => "_law_points"
  | .f_law_bounds => "_law_bounds"
  | .f_law_told => "_law_told"
  | .f_law_told_k02 => "_law_told"
  | .f_law_told_k03 => "_law_told"
  | .f_law_told_k07 => "_law_told"
  | .f_law_k01 => "law"
  | .f_law_k02 => "law"
  | .f_law_k03 => "law"
  | .f_law_k04 => "law"
  | .f_law_k05 => "law"
  | .f_law_k06 => "law"
  | .f_law_k07 => "law"
  | .f_law_k08 => "law"
  | .f_law_k09 => "law"
  | .f_law_k10 => "law"
  | .f_law_k11 => "law"
  | .f_law_k12 => "law"
  | .f_law_k13 => "law"
  | .f_law_k14 => "law"
  | .f_law_k15 => "law"
  | .f_law_k16 => "law"
  | .f_law_k17 => "law"
  | .f_law_k18 => "law"
  | .f_law_k19 => "law"
  | .f_law_k20 => "law"
  | .f_law_k21 => "law"
  | .f_is_fraction => "is_fraction"
  | .f_check_fraction => "check_fraction"
  | .f_simplest_in => "simplest_in"
  | .f_height_at => "height_at"
  | .f_offsets => "offsets"
  | .f_offsets_for => "offsets_for"
  | .f_leanest => "leanest"
  | .f_leanest_line => "leanest_line"
  | .f_law_fits => "_law_fits"
  | .f_lines_with => "lines_with"
  | .f_law_lines => "_law_lines"
  | .f_simplest => "simplest"
  | .f_triples => "triples"
  | .f_clash => "clash"
  | .f_all_clashes => "all_clashes"
  | .f_clashes_at => "clashes_at"
  | .f_law_groups => "_law_groups"
  | .f_is_row => "is_row"
  | .f_check_row => "check_row"
  | .f_as_points => "as_points"
  | .f_points_of => "points_of"
  | .f_is_straight_row => "is_straight_row"
  | .f_differences => "differences"
  | .f_steps_of => "steps_of"
  | .f_row_of => "row_of"
  | .f_window_sums => "window_sums"
  | .f_uneven => "uneven"
  | .f_law_row => "_law_row"
  | .f_with_point => "with_point"
  | .f_possible => "possible"
  | .f_check_two => "check_two"
  | .f_heights_at => "heights_at"
  | .f_next_heights => "next_heights"
  | .f_certain_heights => "certain_heights"
  | .f_law_possible => "_law_possible"
  | .f_without_divisor => "without_divisor"
  | .f_count_rows => "count_rows"
  | .f_behind => "behind"
  | .f_longer => "longer"
  | .f_all_rows => "all_rows"
  | .f_check_length => "check_length"
  | .f_step_rows => "step_rows"
  | .f_check_steps => "check_steps"
  | .f_rank_of => "rank_of"
  | .f_steps_at => "steps_at"
  | .f_is_piece => "is_piece"
  | .f_longest => "longest"
  | .f_longest_piece => "longest_piece"
  | .f_pieces => "pieces"
  | .f_is_parting => "is_parting"
  | .f_count_partings => "count_partings"
  | .f_corners => "corners"
  | .f_law_ok => "_law_ok"
  | .f_law_lists => "_law_lists"
  | .f_choices_of => "choices_of"
  | .f_without => "without"
  | .f_good_groups => "good_groups"
  | .f_check_few => "check_few"
  | .f_fewest => "fewest"
  | .f_fewest_wrong => "fewest_wrong"
  | .f_count_wrong => "count_wrong"
  | .f_surely_wrong => "surely_wrong"
  | .f_is_enough => "is_enough"
  | .f_checked => "checked"
  | .f_moved => "moved"
  | .f_sheared => "sheared"
  | .f_turned_over => "turned_over"
  | .f_backward => "backward"
  | .f_every => "every"
  | .f_Strip => "Strip"
  | .m___init__ => "__init__"
  | .m_add => "add"
  | .m_fits => "fits"
  | .m_fits_k17 => "fits"
  | .m_drop => "drop"
  | .m_drop_k17 => "drop"
  | .m_points => "points"
  | .m_slopes => "slopes"
  | .m_line => "line"
  | .m_undo => "undo"
  | .m_undo_k17 => "undo"
  | .m___len__ => "__len__"
  | .f_law_call => "_law_call"
  | .f_parse_number => "parse_number"
  | .f_check_text => "check_text"
  | .f_format_points => "format_points"
  | .f_parse_points => "parse_points"
  | .f_format_row => "format_row"
  | .f_parse_row => "parse_row"
  | .f_format_line => "format_line"
  | .f_drawn => "drawn"
  | .f_law_written => "_law_written"
  | .f_law_parsed => "_law_parsed"
  | .f_law_rejected => "_law_rejected"
  | .f_law_one => "_law_one"
  | .f_law_two => "_law_two"
  | .f_law_line_call => "_law_line_call"
  | .f_law_asked => "_law_asked"
  | .f_law_asked_k16 => "_law_asked"
  | .f_law_numbers => "_law_numbers"
  | .f_law_row_call => "_law_row_call"
  | .f_law_more => "_law_more"
  | .f_law_strip_call => "_law_strip_call"
  | .f_law_strip => "_law_strip"
  | .f_law_counts => "_law_counts"
  | .f_wall => "_wall"
  | .f_law_first => "_law_first"
  | .f_law_second => "_law_second"
def Bf_is_int : FDef Fn := ⟨3, 3,
  (.cons (.ret (.and (.isi (.var 0) .int) (.and (.not (.isi (.var 0) .bool)) (.and1 (.chain .le .le (.var 1) (.var 0) (.var 2)))))) .nil)⟩
def f_is_point_s1 : ME Fn := (.call .f_is_int (.cons (.var 1) (.cons (.neg (.gint "MOST" 1000)) (.cons (.gint "MOST" 1000) .nil))))
def Bf_is_point : FDef Fn := ⟨1, 2,
  (.cons (.ret (.and (.isi (.var 0) .tuple) (.and (.cmp .eq (.bcall .len (.cons (.var 0) .nil)) (.int 2)) (.and1 (.bcall .all (.cons (.comp f_is_point_s1 (.one 1) (.seq (.var 0)) [1]) .nil)))))) .nil)⟩
def f_are_points_s1 : ME Fn := (.call .f_is_point (.cons (.var 2) .nil))
def f_are_points_s2 : ME Fn := (.cmp .lt (.ix (.ix (.var 0) (.var 1)) (.int 0)) (.ix (.ix (.var 0) (.bin .add (.var 1) (.int 1))) (.int 0)))
def Bf_are_points : FDef Fn := ⟨1, 3,
  (.cons (.ife (.or (.not (.isi (.var 0) .list)) (.or1 (.not (.chain .le .le (.int 1) (.bcall .len (.cons (.var 0) .nil)) (.gint "MOST_POINTS" 20))))) (.cons (.ret (.bl false)) .nil) .nil) (.cons (.ife (.not (.bcall .all (.cons (.comp f_are_points_s1 (.one 2) (.seq (.var 0)) [2]) .nil))) (.cons (.ret (.bl false)) .nil) .nil) (.cons (.ret (.bcall .all (.cons (.comp f_are_points_s2 (.one 1) (.range1 (.bin .sub (.bcall .len (.cons (.var 0) .nil)) (.int 1))) [1]) .nil))) .nil)))⟩
def Bf_check_points : FDef Fn := ⟨1, 1,
  (.cons (.ife (.not (.call .f_are_points (.cons (.var 0) .nil))) (.cons (.raise 0) .nil) .nil) .nil)⟩
def f_common_s1 : ME Fn := (.cmp .ne (.var 1) (.int 0))
def f_common_s2 : MB Fn := (.cons (.par [0, 1] (.cons (.var 1) (.cons (.bin .mod (.var 0) (.var 1)) .nil))) .nil)
def Bf_common : FDef Fn := ⟨2, 2,
  (.cons (.par [0, 1] (.cons (.bcall .abs (.cons (.var 0) .nil)) (.cons (.bcall .abs (.cons (.var 1) .nil)) .nil))) (.cons (.while_ f_common_s1 f_common_s2) (.cons (.ret (.var 0)) .nil)))⟩
def Bf_lowest : FDef Fn := ⟨2, 3,
  (.cons (.set 2 (.call .f_common (.cons (.var 0) (.cons (.var 1) .nil)))) (.cons (.ret (.tup (.cons (.bin .fdiv (.var 0) (.var 2)) (.cons (.bin .fdiv (.var 1) (.var 2)) .nil)))) .nil))⟩
def Bf_less : FDef Fn := ⟨2, 2,
  (.cons (.ret (.cmp .lt (.bin .mul (.ix (.var 0) (.int 0)) (.ix (.var 1) (.int 1))) (.bin .mul (.ix (.var 1) (.int 0)) (.ix (.var 0) (.int 1))))) .nil)⟩
def f_bounds_s1 : MB Fn := (.cons (.par [6, 7] (.cons (.bin .sub (.ix (.var 5) (.int 0)) (.ix (.var 4) (.int 0))) (.cons (.bin .sub (.ix (.var 5) (.int 1)) (.ix (.var 4) (.int 1))) .nil))) (.cons (.par [8, 9] (.cons (.call .f_lowest (.cons (.bin .sub (.var 7) (.int 1)) (.cons (.var 6) .nil))) (.cons (.call .f_lowest (.cons (.bin .add (.var 7) (.int 1)) (.cons (.var 6) .nil))) .nil))) (.cons (.set 1 (.ite (.or (.cmp .is_ (.var 1) .non) (.or1 (.call .f_less (.cons (.var 1) (.cons (.var 8) .nil))))) (.var 8) (.var 1))) (.cons (.set 2 (.ite (.or (.cmp .is_ (.var 2) .non) (.or1 (.call .f_less (.cons (.var 9) (.cons (.var 2) .nil))))) (.var 9) (.var 2))) .nil))))
def f_bounds_s2 : MB Fn := (.cons (.for_ (.one 5) (.seq (.sl (.var 0) (.some (.bin .add (.var 3) (.int 1))) .non)) f_bounds_s1) .nil)
def Bf_bounds : FDef Fn := ⟨1, 10,
  (.cons (.par [1, 2] (.cons .non (.cons .non .nil))) (.cons (.for_ (.tup [3, 4]) (.enum (.var 0)) f_bounds_s2) (.cons (.ret (.tup (.cons (.var 1) (.cons (.var 2) .nil)))) .nil)))⟩
def Bf_straight : FDef Fn := ⟨1, 3,
  (.cons (.unp [1, 2] (.call .f_bounds (.cons (.var 0) .nil))) (.cons (.ret (.or (.cmp .is_ (.var 1) .non) (.or1 (.call .f_less (.cons (.var 1) (.cons (.var 2) .nil)))))) .nil))⟩
def Bf_is_straight : FDef Fn := ⟨1, 1,
  (.cons (.expr (.call .f_check_points (.cons (.var 0) .nil))) (.cons (.ret (.call .f_straight (.cons (.var 0) .nil))) .nil))⟩
def Bf_check_straight : FDef Fn := ⟨1, 1,
  (.cons (.ife (.not (.call .f_straight (.cons (.var 0) .nil))) (.cons (.raise 5) .nil) .nil) .nil)⟩
def Bf_slopes : FDef Fn := ⟨1, 1,
  (.cons (.expr (.call .f_check_points (.cons (.var 0) .nil))) (.cons (.expr (.call .f_check_straight (.cons (.var 0) .nil))) (.cons (.ret (.call .f_bounds (.cons (.var 0) .nil))) .nil)))⟩
def f_is_line_s1 : ME Fn := (.call .f_is_int (.cons (.var 1) (.cons (.neg (.gint "MOST_LINE" 1000000000)) (.cons (.gint "MOST_LINE" 1000000000) .nil))))
def Bf_is_line : FDef Fn := ⟨1, 2,
  (.cons (.ife (.or (.not (.isi (.var 0) .tuple)) (.or1 (.cmp .ne (.bcall .len (.cons (.var 0) .nil)) (.int 3)))) (.cons (.ret (.bl false)) .nil) .nil) (.cons (.ife (.not (.bcall .all (.cons (.comp f_is_line_s1 (.one 1) (.seq (.var 0)) [1]) .nil))) (.cons (.ret (.bl false)) .nil) .nil) (.cons (.ret (.and (.cmp .gt (.ix (.var 0) (.int 1)) (.int 0)) (.and1 (.cmp .eq (.call .f_common (.cons (.ix (.var 0) (.int 0)) (.cons (.ix (.var 0) (.int 1)) .nil))) (.int 1))))) .nil)))⟩
def Bf_check_line : FDef Fn := ⟨1, 1,
  (.cons (.ife (.not (.call .f_is_line (.cons (.var 0) .nil))) (.cons (.raise 2) .nil) .nil) .nil)⟩
def f_explains_s1 : ME Fn := (.cmp .eq (.bin .fdiv (.bin .add (.bin .mul (.ix (.var 0) (.int 0)) (.var 2)) (.ix (.var 0) (.int 2))) (.ix (.var 0) (.int 1))) (.var 3))
def Bf_explains : FDef Fn := ⟨2, 4,
  (.cons (.expr (.call .f_check_line (.cons (.var 0) .nil))) (.cons (.expr (.call .f_check_points (.cons (.var 1) .nil))) (.cons (.ret (.bcall .all (.cons (.comp f_explains_s1 (.tup [2, 3]) (.seq (.var 1)) [2, 3]) .nil))) .nil)))⟩
def Bf_law_pick : FDef Fn := ⟨2, 2,
  (.cons (.ret (.ix (.var 1) (.call .f_law_draw (.cons (.var 0) (.cons (.bcall .len (.cons (.var 1) .nil)) .nil))))) .nil)⟩
def Bf_law_error : FDef Fn := ⟨1, 2,
  (.cons (.set 1 (.lst (.cons (.isi (.var 0) (.cls 0)) (.cons (.isi (.var 0) (.cls 1)) (.cons (.isi (.var 0) (.cls 2)) .nil))))) (.cons (.set 1 (.bin .add (.var 1) (.lst (.cons (.isi (.var 0) (.cls 3)) (.cons (.isi (.var 0) (.cls 4)) (.cons (.isi (.var 0) (.cls 5)) .nil)))))) (.cons (.set 1 (.bin .add (.var 1) (.lst (.cons (.isi (.var 0) (.cls 6)) .nil)))) (.cons (.ife (.or (.cmp .ne (.count (.var 1) (.bl true)) (.int 1)) (.or (.not (.isi (.var 0) (.cls 7))) (.or1 (.not (.isi (.var 0) .verr))))) (.cons (.ret (.str "odd")) .nil) .nil) (.cons (.ret (.ix (.lst (.cons (.str "points") (.cons (.str "row") (.cons (.str "line") (.cons (.str "number") (.cons (.str "text") (.cons (.str "bent") (.cons (.str "none") .nil)))))))) (.index (.var 1) (.bl true)))) .nil)))))⟩
def Bf_law_true : FDef Fn := ⟨2, 2,
  (.cons (.ret (.and (.isi (.var 0) .bool) (.and1 (.cmp .eq (.var 0) (.var 1))))) .nil)⟩
def f_law_common_s1 : ME Fn := (.cmp .ne (.var 1) (.int 0))
def f_law_common_s2 : MB Fn := (.cons (.par [0, 1] (.cons (.var 1) (.cons (.bin .mod (.var 0) (.var 1)) .nil))) .nil)
def Bf_law_common : FDef Fn := ⟨2, 2,
  (.cons (.while_ f_law_common_s1 f_law_common_s2) (.cons (.ret (.var 0)) .nil))⟩
def Bf_law_low : FDef Fn := ⟨2, 3,
  (.cons (.set 2 (.call .f_law_common (.cons (.bcall .abs (.cons (.var 0) .nil)) (.cons (.var 1) .nil)))) (.cons (.ret (.tup (.cons (.bin .fdiv (.var 0) (.var 2)) (.cons (.bin .fdiv (.var 1) (.var 2)) .nil)))) .nil))⟩
def Bf_law_line : FDef Fn := ⟨1, 3,
  (.cons (.set 1 (.bin .add (.int 1) (.call .f_law_draw (.cons (.var 0) (.cons (.call .f_law_pick (.cons (.var 0) (.cons (.lst (.cons (.int 2) (.cons (.int 6) (.cons (.int 12) .nil)))) .nil))) .nil))))) (.cons (.set 2 (.bin .sub (.call .f_law_draw (.cons (.var 0) (.cons (.bin .add (.bin .mul (.int 4) (.var 1)) (.int 1)) .nil))) (.bin .mul (.int 2) (.var 1)))) (.cons (.ret (.bin .add (.call .f_law_low (.cons (.var 2) (.cons (.var 1) .nil))) (.tup (.cons (.bin .sub (.call .f_law_draw (.cons (.var 0) (.cons (.int 40) .nil))) (.int 20)) .nil)))) .nil)))⟩
def Bf_law_height : FDef Fn := ⟨2, 2,
  (.cons (.ret (.bin .fdiv (.bin .add (.bin .mul (.ix (.var 0) (.int 0)) (.var 1)) (.ix (.var 0) (.int 2))) (.ix (.var 0) (.int 1)))) .nil)⟩
def f_law_xs_s1 : MB Fn := (.cons (.set 5 (.bin .sub (.call .f_law_draw (.cons (.var 0) (.cons (.var 3) .nil))) (.bin .fdiv (.var 3) (.int 3)))) (.cons (.ife (.ninO (.var 5) 2) (.cons (.app 2 (.var 5)) .nil) .nil) .nil))
def Bf_law_xs : FDef Fn := ⟨2, 6,
  (.cons (.setO 2 (.lst .nil)) (.cons (.set 3 (.call .f_law_pick (.cons (.var 0) (.cons (.lst (.cons (.bin .add (.var 1) (.int 2)) (.cons (.int 30) (.cons (.int 200) .nil)))) .nil)))) (.cons (.for_ (.one 4) (.range1 (.bin .add (.int 1) (.call .f_law_draw (.cons (.var 0) (.cons (.var 1) .nil))))) f_law_xs_s1) (.frz 2 (.cons (.ret (.bcall .sorted (.cons (.var 2) .nil))) .nil)))))⟩
def f_law_points_s1 : ME Fn := (.tup (.cons (.var 7) (.cons (.call .f_law_height (.cons (.var 2) (.cons (.var 7) .nil))) .nil)))
def f_law_points_s2 : MB Fn := (.cons (.set 6 (.call .f_law_draw (.cons (.var 0) (.cons (.lenO 3) .nil)))) (.cons (.unp [7, 8] (.ixO 3 (.var 6))) (.cons (.stO 3 (.var 6) (.tup (.cons (.var 7) (.cons (.bin .add (.var 8) (.call .f_law_pick (.cons (.var 0) (.cons (.lst (.cons (.bin .sub (.int 0) (.int 1)) (.cons (.int 1) (.cons (.int 1) (.cons (.int 2) (.cons (.int 0) .nil)))))) .nil)))) .nil)))) .nil)))
def Bf_law_points : FDef Fn := ⟨2, 9,
  (.cons (.set 2 (.call .f_law_line (.cons (.var 0) .nil))) (.cons (.setO 3 (.comp f_law_points_s1 (.one 7) (.seq (.call .f_law_xs (.cons (.var 0) (.cons (.var 1) .nil)))) [7])) (.cons (.set 4 (.call .f_law_draw (.cons (.var 0) (.cons (.int 4) .nil)))) (.cons (.ife (.cmp .eq (.var 4) (.int 0)) (.frz 3 (.cons (.ret (.var 3)) .nil)) .nil) (.cons (.for_ (.one 5) (.range1 (.call .f_law_draw (.cons (.var 0) (.cons (.int 3) .nil)))) f_law_points_s2) (.frz 3 (.cons (.ret (.var 3)) .nil)))))))⟩
def f_law_bounds_s1 : MB Fn := (.cons (.ife (.cmp .lt (.ix (.var 1) (.int 0)) (.ix (.var 4) (.int 0))) (.cons (.set 5 (.bin .sub (.ix (.var 4) (.int 0)) (.ix (.var 1) (.int 0)))) (.cons (.par [6, 7] (.cons (.bin .sub (.bin .sub (.ix (.var 4) (.int 1)) (.ix (.var 1) (.int 1))) (.int 1)) (.cons (.bin .add (.bin .sub (.ix (.var 4) (.int 1)) (.ix (.var 1) (.int 1))) (.int 1)) .nil))) (.cons (.ife (.or (.cmp .is_ (.var 2) .non) (.or1 (.cmp .gt (.bin .mul (.var 6) (.ix (.var 2) (.int 1))) (.bin .mul (.ix (.var 2) (.int 0)) (.var 5))))) (.cons (.set 2 (.tup (.cons (.var 6) (.cons (.var 5) .nil)))) .nil) .nil) (.cons (.ife (.or (.cmp .is_ (.var 3) .non) (.or1 (.cmp .lt (.bin .mul (.var 7) (.ix (.var 3) (.int 1))) (.bin .mul (.ix (.var 3) (.int 0)) (.var 5))))) (.cons (.set 3 (.tup (.cons (.var 7) (.cons (.var 5) .nil)))) .nil) .nil) .nil)))) .nil) .nil)
def f_law_bounds_s2 : MB Fn := (.cons (.for_ (.one 4) (.seq (.var 0)) f_law_bounds_s1) .nil)
def Bf_law_bounds : FDef Fn := ⟨1, 8,
  (.cons (.par [2, 3] (.cons .non (.cons .non .nil))) (.cons (.for_ (.one 1) (.seq (.var 0)) f_law_bounds_s2) (.cons (.ret (.tup (.cons (.var 2) (.cons (.var 3) .nil)))) .nil)))⟩
def Bf_law_told : FDef Fn := ⟨1, 4,
  (.cons (.set 1 .non) (.cons (.set 2 .non) (.cons (.try_ (.cons (.set 1 (.call .f_slopes (.cons (.var 0) .nil))) .nil) 2 3) (.cons (.ret (.ite (.cmp .is_ (.var 2) .non) (.var 1) (.call .f_law_error (.cons (.var 2) .nil)))) .nil))))⟩
def Bf_law_told_k02 : FDef Fn := ⟨2, 5,
  (.cons (.set 2 .non) (.cons (.set 3 .non) (.cons (.try_ (.cons (.set 2 (.call .f_offsets_for (.cons (.var 0) (.cons (.var 1) .nil)))) .nil) 3 4) (.cons (.ret (.ite (.cmp .is_ (.var 3) .non) (.var 2) (.call .f_law_error (.cons (.var 3) .nil)))) .nil))))⟩
def Bf_law_told_k03 : FDef Fn := ⟨1, 4,
  (.cons (.set 1 .non) (.cons (.set 2 .non) (.cons (.try_ (.cons (.set 1 (.call .f_leanest_line (.cons (.var 0) .nil))) .nil) 2 3) (.cons (.ret (.ite (.cmp .is_ (.var 2) .non) (.var 1) (.call .f_law_error (.cons (.var 2) .nil)))) .nil))))⟩
def Bf_law_told_k07 : FDef Fn := ⟨3, 6,
  (.cons (.set 3 .non) (.cons (.set 4 .non) (.cons (.try_ (.cons (.set 3 (.ite (.cmp .eq (.var 0) (.int 0)) (.call .f_heights_at (.cons (.var 1) (.cons (.var 2) .nil))) (.call .f_next_heights (.cons (.var 1) .nil)))) .nil) 4 5) (.cons (.ret (.ite (.cmp .is_ (.var 4) .non) (.var 3) (.call .f_law_error (.cons (.var 4) .nil)))) .nil))))⟩
def f_law_k01_s1 : ME Fn := (.tup (.cons (.var 9) (.cons (.call .f_law_height (.cons (.var 5) (.cons (.var 9) .nil))) .nil)))
def Bf_law_k01 : FDef Fn := ⟨1, 11,
  (.cons (.set 1 (.call .f_law_start (.cons (.var 0) .nil))) (.cons (.set 2 (.call .f_law_points (.cons (.var 1) (.cons (.int 14) .nil)))) (.cons (.unp [7, 8] (.call .f_law_bounds (.cons (.var 2) .nil))) (.cons (.set 3 (.or (.cmp .is_ (.var 7) .non) (.or1 (.cmp .lt (.bin .mul (.ix (.var 7) (.int 0)) (.ix (.var 8) (.int 1))) (.bin .mul (.ix (.var 8) (.int 0)) (.ix (.var 7) (.int 1))))))) (.cons (.ife (.or (.cmp .isn (.call .f_are_points (.cons (.var 2) .nil)) (.bl true)) (.or1 (.not (.call .f_law_true (.cons (.call .f_is_straight (.cons (.var 2) .nil)) (.cons (.var 3) .nil)))))) (.cons (.ret (.bl false)) .nil) .nil) (.cons (.set 4 (.ite (.not (.var 3)) (.str "bent") (.ite (.cmp .is_ (.var 7) .non) (.tup (.cons .non (.cons .non .nil))) (.tup (.cons (.call .f_law_low (.cons (.ix (.var 7) (.int 0)) (.cons (.ix (.var 7) (.int 1)) .nil))) (.cons (.call .f_law_low (.cons (.ix (.var 8) (.int 0)) (.cons (.ix (.var 8) (.int 1)) .nil))) .nil)))))) (.cons (.ife (.cmp .ne (.call .f_law_told (.cons (.var 2) .nil)) (.var 4)) (.cons (.ret (.bl false)) .nil) .nil) (.cons (.set 5 (.call .f_law_line (.cons (.var 1) .nil))) (.cons (.ife (.not (.call .f_law_true (.cons (.call .f_explains (.cons (.var 5) (.cons (.var 2) .nil))) (.cons (.cmp .eq (.var 2) (.comp f_law_k01_s1 (.tup [9, 10]) (.seq (.var 2)) [9, 10])) .nil)))) (.cons (.ret (.bl false)) .nil) .nil) (.cons (.set 6 (.comp f_law_k01_s1 (.tup [9, 10]) (.seq (.var 2)) [9, 10])) (.cons (.ife (.or (.cmp .isn (.call .f_is_straight (.cons (.var 6) .nil)) (.bl true)) (.or1 (.cmp .isn (.call .f_explains (.cons (.var 5) (.cons (.var 6) .nil))) (.bl true)))) (.cons (.ret (.bl false)) .nil) .nil) (.cons (.ife (.cmp .eq (.bcall .len (.cons (.var 6) .nil)) (.int 1)) (.cons (.ret (.cmp .eq (.call .f_slopes (.cons (.var 6) .nil)) (.tup (.cons .non (.cons .non .nil))))) .nil) .nil) (.cons (.unp [7, 8] (.call .f_slopes (.cons (.var 6) .nil))) (.cons (.ret (.and (.cmp .lt (.bin .mul (.ix (.var 7) (.int 0)) (.ix (.var 5) (.int 1))) (.bin .mul (.ix (.var 5) (.int 0)) (.ix (.var 7) (.int 1)))) (.and1 (.cmp .lt (.bin .mul (.ix (.var 5) (.int 0)) (.ix (.var 8) (.int 1))) (.bin .mul (.ix (.var 8) (.int 0)) (.ix (.var 5) (.int 1))))))) .nil))))))))))))))⟩
def f_law_k02_s1 : ME Fn := (.call .f_law_height (.cons (.var 9) (.cons (.var 8) .nil)))
def f_law_k02_s2 : ME Fn := (.call .f_height_at (.cons (.var 9) (.cons (.var 8) .nil)))
def f_law_k02_s3 : ME Fn := (.var 14)
def f_law_k02_s4 : MB Fn := (.cons (.set 9 (.bin .add (.var 4) (.tup (.cons (.var 7) .nil)))) (.cons (.set 12 (.comp f_law_k02_s1 (.tup [8, 14]) (.seq (.var 2)) [8, 14])) (.cons (.ife (.or (.cmp .ne (.comp f_law_k02_s2 (.tup [8, 14]) (.seq (.var 2)) [8, 14]) (.var 12)) (.or1 (.cmp .isn (.call .f_is_line (.cons (.var 9) .nil)) (.bl true)))) (.cons (.ret (.bl false)) .nil) .nil) (.cons (.set 13 (.cmp .eq (.var 12) (.comp f_law_k02_s3 (.tup [8, 14]) (.seq (.var 2)) [8, 14]))) (.cons (.ife (.or (.not (.call .f_law_true (.cons (.call .f_explains (.cons (.var 9) (.cons (.var 2) .nil))) (.cons (.var 13) .nil)))) (.or1 (.cmp .ne (.var 13) (.chain .le .le (.ix (.var 6) (.int 0)) (.var 7) (.ix (.var 6) (.int 1)))))) (.cons (.ret (.bl false)) .nil) .nil) .nil)))))
def Bf_law_k02 : FDef Fn := ⟨1, 15,
  (.cons (.set 1 (.call .f_law_start (.cons (.var 0) .nil))) (.cons (.set 2 (.call .f_law_points (.cons (.var 1) (.cons (.int 9) .nil)))) (.cons (.set 3 (.bin .add (.int 1) (.call .f_law_draw (.cons (.var 1) (.cons (.int 12) .nil))))) (.cons (.set 4 (.call .f_law_low (.cons (.bin .sub (.call .f_law_draw (.cons (.var 1) (.cons (.bin .add (.bin .mul (.int 6) (.var 3)) (.int 1)) .nil))) (.bin .mul (.int 3) (.var 3))) (.cons (.var 3) .nil)))) (.cons (.ife (.and (.cmp .eq (.call .f_law_draw (.cons (.var 1) (.cons (.int 2) .nil))) (.int 0)) (.and1 (.call .f_law_fits (.cons (.var 2) .nil)))) (.cons (.set 4 (.sl (.call .f_leanest_line (.cons (.var 2) .nil)) .non (.some (.int 2)))) .nil) .nil) (.cons (.unp [10, 11] (.call .f_law_bounds (.cons (.var 2) .nil))) (.cons (.set 5 (.or (.cmp .is_ (.var 10) .non) (.or1 (.and (.cmp .lt (.bin .mul (.ix (.var 10) (.int 0)) (.ix (.var 4) (.int 1))) (.bin .mul (.ix (.var 4) (.int 0)) (.ix (.var 10) (.int 1)))) (.and1 (.cmp .lt (.bin .mul (.ix (.var 4) (.int 0)) (.ix (.var 11) (.int 1))) (.bin .mul (.ix (.var 11) (.int 0)) (.ix (.var 4) (.int 1))))))))) (.cons (.set 6 (.call .f_law_told_k02 (.cons (.var 2) (.cons (.var 4) .nil)))) (.cons (.ife (.not (.var 5)) (.cons (.ret (.cmp .eq (.var 6) (.str "none"))) .nil) .nil) (.cons (.ife (.or (.not (.isi (.var 6) .tuple)) (.or (.cmp .ne (.bcall .len (.cons (.var 6) .nil)) (.int 2)) (.or1 (.cmp .gt (.ix (.var 6) (.int 0)) (.ix (.var 6) (.int 1)))))) (.cons (.ret (.bl false)) .nil) .nil) (.cons (.for_ (.one 7) (.range2 (.bin .sub (.ix (.var 6) (.int 0)) (.int 1)) (.bin .add (.ix (.var 6) (.int 1)) (.int 2))) f_law_k02_s4) (.cons (.set 8 (.call .f_law_draw (.cons (.var 1) (.cons (.int 1000000000) .nil)))) (.cons (.set 9 (.bin .add (.var 4) (.tup (.cons (.ix (.var 6) (.int 0)) .nil)))) (.cons (.ret (.and (.cmp .eq (.call .f_height_at (.cons (.var 9) (.cons (.var 8) .nil))) (.call .f_law_height (.cons (.var 9) (.cons (.var 8) .nil)))) (.and1 (.cmp .eq (.call .f_height_at (.cons (.var 9) (.cons (.bin .sub (.int 0) (.var 8)) .nil))) (.call .f_law_height (.cons (.var 9) (.cons (.bin .sub (.int 0) (.var 8)) .nil))))))) .nil))))))))))))))⟩
def f_law_k03_s1 : ME Fn := (.bcall .abs (.cons (.ix (.var 9) (.int 0)) .nil))
def f_law_k03_s2 : ME Fn := (.cmp .eq (.bcall .abs (.cons (.ix (.var 9) (.int 0)) .nil)) (.var 8))
def f_law_k03_s3 : ME Fn := (.var 9)
def f_law_k03_s4 : MB Fn := (.cons (.set 7 (.call .f_law_lines (.cons (.var 2) (.cons (.var 4) (.cons (.var 5) (.cons (.var 6) .nil)))))) (.cons (.ife (.and (.cmp .le (.var 4) (.int 100)) (.and1 (.cmp .ne (.call .f_lines_with (.cons (.var 2) (.cons (.var 4) .nil))) (.var 7)))) (.cons (.ret (.bl false)) .nil) .nil) (.cons (.ife (.cmp .ne (.cmp .ne (.var 7) (.lst .nil)) (.cmp .eq (.var 4) (.ix (.var 3) (.int 1)))) (.cons (.ret (.bl false)) .nil) .nil) (.cons (.ife (.cmp .ne (.var 7) (.lst .nil)) (.cons (.set 8 (.bcall .min (.cons (.comp f_law_k03_s1 (.one 9) (.seq (.var 7)) [9]) .nil))) (.cons (.ife (.cmp .ne (.var 3) (.bcall .min (.cons (.compIf f_law_k03_s3 (.one 9) (.seq (.var 7)) f_law_k03_s2 [9]) .nil))) (.cons (.ret (.bl false)) .nil) .nil) .nil)) .nil) .nil))))
def Bf_law_k03 : FDef Fn := ⟨1, 10,
  (.cons (.set 1 (.call .f_law_start (.cons (.var 0) .nil))) (.cons (.set 2 (.call .f_law_points (.cons (.var 1) (.cons (.int 9) .nil)))) (.cons (.unp [5, 6] (.call .f_law_bounds (.cons (.var 2) .nil))) (.cons (.set 3 (.call .f_law_told_k03 (.cons (.var 2) .nil))) (.cons (.ife (.not (.call .f_law_fits (.cons (.var 2) .nil))) (.cons (.ret (.cmp .eq (.var 3) (.str "bent"))) .nil) .nil) (.cons (.ife (.cmp .is_ (.var 5) .non) (.cons (.ret (.cmp .eq (.var 3) (.tup (.cons (.int 0) (.cons (.int 1) (.cons (.ix (.ix (.var 2) (.int 0)) (.int 1)) .nil)))))) .nil) .nil) (.cons (.ife (.or (.cmp .isn (.call .f_explains (.cons (.var 3) (.cons (.var 2) .nil))) (.bl true)) (.or1 (.cmp .gt (.ix (.var 3) (.int 1)) (.bin .add (.ix (.var 6) (.int 1)) (.ix (.var 5) (.int 1)))))) (.cons (.ret (.bl false)) .nil) .nil) (.cons (.for_ (.one 4) (.range2 (.int 1) (.bin .add (.ix (.var 3) (.int 1)) (.int 1))) f_law_k03_s4) (.cons (.set 4 (.bin .add (.int 1) (.call .f_law_draw (.cons (.var 1) (.cons (.int 30) .nil))))) (.cons (.ret (.cmp .eq (.call .f_lines_with (.cons (.var 2) (.cons (.var 4) .nil))) (.call .f_law_lines (.cons (.var 2) (.cons (.var 4) (.cons (.var 5) (.cons (.var 6) .nil))))))) .nil))))))))))⟩
def f_law_k04_s1 : MB Fn := (.cons (.set 6 (.bin .add (.int 1) (.call .f_law_draw (.cons (.var 1) (.cons (.var 2) .nil))))) (.cons (.app 3 (.call .f_law_low (.cons (.bin .sub (.call .f_law_draw (.cons (.var 1) (.cons (.bin .add (.bin .mul (.int 6) (.var 6)) (.int 1)) .nil))) (.bin .mul (.int 3) (.var 6))) (.cons (.var 6) .nil)))) .nil))
def f_law_k04_s2 : ME Fn := (.bcall .abs (.cons (.var 12) .nil))
def f_law_k04_s3 : MB Fn := (.cons (.set 9 (.bin .add (.bin .fdiv (.bin .mul (.ix (.var 7) (.int 0)) (.var 6)) (.ix (.var 7) (.int 1))) (.int 1))) (.cons (.set 10 (.lst .nil)) (.cons (.ife (.cmp .lt (.bin .mul (.var 9) (.ix (.var 8) (.int 1))) (.bin .mul (.ix (.var 8) (.int 0)) (.var 6))) (.cons (.set 11 (.bin .sub (.bin .sub (.int 0) (.bin .fdiv (.bin .sub (.int 0) (.bin .mul (.ix (.var 8) (.int 0)) (.var 6))) (.ix (.var 8) (.int 1)))) (.int 1))) (.cons (.set 10 (.lst (.cons (.var 9) (.cons (.var 11) (.cons (.bcall .min (.cons (.bcall .max (.cons (.int 0) (.cons (.var 9) .nil))) (.cons (.var 11) .nil))) .nil))))) .nil)) .nil) (.cons (.ife (.cmp .ne (.cmp .ne (.var 10) (.lst .nil)) (.cmp .eq (.var 6) (.ix (.var 5) (.int 1)))) (.cons (.ret (.bl false)) .nil) .nil) (.cons (.ife (.and (.cmp .ne (.var 10) (.lst .nil)) (.and1 (.cmp .ne (.bcall .abs (.cons (.ix (.var 5) (.int 0)) .nil)) (.bcall .min (.cons (.comp f_law_k04_s2 (.one 12) (.seq (.var 10)) [12]) .nil))))) (.cons (.ret (.bl false)) .nil) .nil) .nil)))))
def Bf_law_k04 : FDef Fn := ⟨1, 13,
  (.cons (.set 1 (.call .f_law_start (.cons (.var 0) .nil))) (.cons (.set 2 (.call .f_law_pick (.cons (.var 1) (.cons (.lst (.cons (.int 3) (.cons (.int 12) (.cons (.int 60) .nil)))) .nil)))) (.cons (.setO 3 (.lst .nil)) (.cons (.for_ (.one 4) (.range1 (.int 2)) f_law_k04_s1) (.cons (.par [7, 8] (.cons (.ixO 3 (.int 0)) (.cons (.ixO 3 (.int 1)) .nil))) (.cons (.ife (.cmp .eq (.call .f_law_draw (.cons (.var 1) (.cons (.int 3) .nil))) (.int 0)) (.cons (.set 8 (.call .f_law_low (.cons (.bin .add (.bin .mul (.ix (.var 7) (.int 0)) (.bin .add (.var 2) (.int 1))) (.int 1)) (.cons (.bin .mul (.ix (.var 7) (.int 1)) (.bin .add (.var 2) (.int 1))) .nil)))) .nil) .nil) (.cons (.ife (.cmp .gt (.bin .mul (.ix (.var 7) (.int 0)) (.ix (.var 8) (.int 1))) (.bin .mul (.ix (.var 8) (.int 0)) (.ix (.var 7) (.int 1)))) (.cons (.par [7, 8] (.cons (.var 8) (.cons (.var 7) .nil))) .nil) .nil) (.cons (.ife (.cmp .eq (.var 7) (.var 8)) (.cons (.set 8 (.tup (.cons (.bin .add (.ix (.var 7) (.int 0)) (.ix (.var 7) (.int 1))) (.cons (.ix (.var 7) (.int 1)) .nil)))) .nil) .nil) (.cons (.set 5 (.call .f_simplest (.cons (.var 7) (.cons (.var 8) .nil)))) (.cons (.ife (.or (.cmp .isn (.call .f_is_fraction (.cons (.var 5) .nil)) (.bl true)) (.or1 (.cmp .isn (.call .f_is_fraction (.cons (.var 7) .nil)) (.bl true)))) (.cons (.ret (.bl false)) .nil) .nil) (.cons (.ife (.or (.not (.cmp .lt (.bin .mul (.ix (.var 7) (.int 0)) (.ix (.var 5) (.int 1))) (.bin .mul (.ix (.var 5) (.int 0)) (.ix (.var 7) (.int 1))))) (.or1 (.not (.cmp .lt (.bin .mul (.ix (.var 5) (.int 0)) (.ix (.var 8) (.int 1))) (.bin .mul (.ix (.var 8) (.int 0)) (.ix (.var 5) (.int 1))))))) (.cons (.ret (.bl false)) .nil) .nil) (.cons (.for_ (.one 6) (.range2 (.int 1) (.bin .add (.bcall .min (.cons (.ix (.var 5) (.int 1)) (.cons (.int 400) .nil))) (.int 1))) f_law_k04_s3) (.cons (.ret (.cmp .eq (.call .f_simplest (.cons (.tup (.cons (.bin .sub (.int 0) (.ix (.var 8) (.int 0))) (.cons (.ix (.var 8) (.int 1)) .nil))) (.cons (.tup (.cons (.bin .sub (.int 0) (.ix (.var 7) (.int 0))) (.cons (.ix (.var 7) (.int 1)) .nil))) .nil))) (.tup (.cons (.bin .sub (.int 0) (.ix (.var 5) (.int 0))) (.cons (.ix (.var 5) (.int 1)) .nil))))) .nil)))))))))))))⟩
def f_law_k05_s1 : ME Fn := (.tup (.cons (.var 6) (.cons (.bin .add (.var 7) (.call .f_law_draw (.cons (.var 1) (.cons (.int 3) .nil)))) .nil)))
def f_law_k05_s2 : ME Fn := (.not (.call .f_law_fits (.cons (.bcall .list (.cons (.var 5) .nil)) .nil)))
def f_law_k05_s3 : ME Fn := (.var 5)
def f_law_k05_s4 : ME Fn := (.cmp .in_ (.ix (.var 2) (.var 4)) (.var 5))
def f_law_k05_s5 : ME Fn := (.call .f_clashes_at (.cons (.var 2) (.cons (.var 8) .nil)))
def f_law_k05_s6 : ME Fn := (.cmp .isn (.call .f_is_straight (.cons (.bcall .list (.cons (.var 9) .nil)) .nil)) (.bl true))
def f_law_k05_s7 : ME Fn := (.var 9)
def f_law_k05_s8 : MB Fn := (.cons (.ife (.or (.cmp .isn (.call .f_is_straight (.cons (.bcall .list (.cons (.var 5) .nil)) .nil)) (.bl false)) (.or1 (.cmp .ne (.compIf f_law_k05_s7 (.one 9) (.seq (.tup (.cons (.sl (.var 5) .non (.some (.int 2))) (.cons (.sl (.var 5) (.some (.int 1)) .non) .nil)))) f_law_k05_s6 [9]) (.lst .nil)))) (.cons (.ret (.bl false)) .nil) .nil) .nil)
def Bf_law_k05 : FDef Fn := ⟨1, 10,
  (.cons (.set 1 (.call .f_law_start (.cons (.var 0) .nil))) (.cons (.set 2 (.call .f_law_points (.cons (.var 1) (.cons (.int 10) .nil)))) (.cons (.ife (.cmp .eq (.call .f_law_draw (.cons (.var 1) (.cons (.int 4) .nil))) (.int 0)) (.cons (.set 2 (.comp f_law_k05_s1 (.tup [6, 7]) (.seq (.var 2)) [6, 7])) .nil) .nil) (.cons (.set 3 (.compIf f_law_k05_s3 (.one 5) (.seq (.call .f_law_groups (.cons (.var 2) .nil))) f_law_k05_s2 [5])) (.cons (.ife (.or (.cmp .ne (.call .f_all_clashes (.cons (.var 2) .nil)) (.var 3)) (.or1 (.cmp .ne (.call .f_clash (.cons (.var 2) .nil)) (.ite (.cmp .ne (.var 3) (.lst .nil)) (.ix (.var 3) (.int 0)) .non)))) (.cons (.ret (.bl false)) .nil) .nil) (.cons (.ife (.cmp .ne (.cmp .eq (.var 3) (.lst .nil)) (.call .f_is_straight (.cons (.var 2) .nil))) (.cons (.ret (.bl false)) .nil) .nil) (.cons (.set 4 (.call .f_law_draw (.cons (.var 1) (.cons (.bcall .len (.cons (.var 2) .nil)) .nil)))) (.cons (.ife (.cmp .ne (.call .f_clashes_at (.cons (.var 2) (.cons (.var 4) .nil))) (.bcall .len (.cons (.compIf f_law_k05_s3 (.one 5) (.seq (.var 3)) f_law_k05_s4 [5]) .nil))) (.cons (.ret (.bl false)) .nil) .nil) (.cons (.ife (.cmp .ne (.bcall .sum (.cons (.comp f_law_k05_s5 (.one 8) (.range1 (.bcall .len (.cons (.var 2) .nil))) [8]) .nil)) (.bin .mul (.int 3) (.bcall .len (.cons (.var 3) .nil)))) (.cons (.ret (.bl false)) .nil) .nil) (.cons (.for_ (.one 5) (.seq (.sl (.var 3) .non (.some (.int 3)))) f_law_k05_s8) (.cons (.ret (.cmp .is_ (.call .f_is_straight (.cons (.lst (.cons (.ix (.var 2) (.int 0)) .nil)) .nil)) (.bl true))) .nil)))))))))))⟩
def f_law_k06_s1 : MB Fn := (.cons (.app 2 (.bin .add (.ixO 2 (.neg (.int 1))) (.call .f_law_draw (.cons (.var 1) (.cons (.int 2) .nil))))) .nil)
def f_law_k06_s2 : ME Fn := (.tup (.cons (.var 7) (.cons (.ix (.var 2) (.var 7)) .nil)))
def f_law_k06_s3 : ME Fn := (.bin .sub (.ix (.var 2) (.bin .add (.var 7) (.int 1))) (.ix (.var 2) (.var 7)))
def f_law_k06_s4 : ME Fn := (.bcall .sum (.cons (.sl (.var 3) (.some (.var 7)) (.some (.bin .add (.var 7) (.var 5)))) .nil))
def f_law_k06_s5 : MB Fn := (.cons (.ife (.cmp .ge (.bcall .abs (.cons (.bin .sub (.ix (.var 8) (.var 9)) (.ix (.var 8) (.var 10))) .nil)) (.int 2)) (.cons (.set 4 (.tup (.cons (.var 5) (.cons (.var 9) (.cons (.var 10) .nil))))) .nil) .nil) .nil)
def f_law_k06_s6 : MB Fn := (.cons (.for_ (.one 10) (.range3 (.bin .sub (.bcall .len (.cons (.var 8) .nil)) (.int 1)) (.var 9) (.bin .sub (.int 0) (.int 1))) f_law_k06_s5) .nil)
def f_law_k06_s7 : MB Fn := (.cons (.set 8 (.comp f_law_k06_s4 (.one 7) (.range1 (.bin .add (.bin .sub (.bcall .len (.cons (.var 3) .nil)) (.var 5)) (.int 1))) [7])) (.cons (.ife (.cmp .ne (.call .f_window_sums (.cons (.var 2) (.cons (.var 5) .nil))) (.tup (.cons (.bcall .min (.cons (.var 8) .nil)) (.cons (.bcall .max (.cons (.var 8) .nil)) .nil)))) (.cons (.ret (.bl false)) .nil) .nil) (.cons (.for_ (.one 9) (.range3 (.bin .sub (.bcall .len (.cons (.var 8) .nil)) (.int 1)) (.bin .sub (.int 0) (.int 1)) (.bin .sub (.int 0) (.int 1))) f_law_k06_s6) .nil)))
def Bf_law_k06 : FDef Fn := ⟨1, 11,
  (.cons (.set 1 (.call .f_law_start (.cons (.var 0) .nil))) (.cons (.set 2 (.call .f_law_row (.cons (.var 1) (.cons (.int 14) .nil)))) (.cons (.ife (.cmp .eq (.call .f_law_draw (.cons (.var 1) (.cons (.int 3) .nil))) (.int 0)) (.cons (.setO 2 (.lst (.cons (.int 0) .nil))) (.cons (.for_ (.one 7) (.range1 (.call .f_law_draw (.cons (.var 1) (.cons (.int 12) .nil)))) f_law_k06_s1) (.frz 2 .nil))) .nil) (.cons (.ife (.or (.cmp .isn (.call .f_is_row (.cons (.var 2) .nil)) (.bl true)) (.or1 (.cmp .ne (.call .f_points_of (.cons (.var 2) .nil)) (.comp f_law_k06_s2 (.one 7) (.range1 (.bcall .len (.cons (.var 2) .nil))) [7])))) (.cons (.ret (.bl false)) .nil) .nil) (.cons (.set 3 (.comp f_law_k06_s3 (.one 7) (.range1 (.bin .sub (.bcall .len (.cons (.var 2) .nil)) (.int 1))) [7])) (.cons (.ife (.or (.cmp .ne (.call .f_steps_of (.cons (.var 2) .nil)) (.var 3)) (.or1 (.cmp .ne (.call .f_row_of (.cons (.ix (.var 2) (.int 0)) (.cons (.var 3) .nil))) (.var 2)))) (.cons (.ret (.bl false)) .nil) .nil) (.cons (.set 4 .non) (.cons (.for_ (.one 5) (.range3 (.bcall .len (.cons (.var 3) .nil)) (.int 0) (.bin .sub (.int 0) (.int 1))) f_law_k06_s7) (.cons (.ife (.cmp .ne (.call .f_uneven (.cons (.var 2) .nil)) (.var 4)) (.cons (.ret (.bl false)) .nil) .nil) (.cons (.set 6 (.call .f_law_fits (.cons (.comp f_law_k06_s2 (.one 7) (.range1 (.bcall .len (.cons (.var 2) .nil))) [7]) .nil))) (.cons (.ret (.and (.call .f_law_true (.cons (.call .f_is_straight_row (.cons (.var 2) .nil)) (.cons (.var 6) .nil))) (.and1 (.cmp .eq (.var 6) (.cmp .is_ (.var 4) .non))))) .nil)))))))))))⟩
def f_law_k07_s1 : MB Fn := (.cons (.set 11 (.call .f_heights_at (.cons (.var 2) (.cons (.var 8) .nil)))) (.cons (.app 7 (.ite (.cmp .eq (.bcall .len (.cons (.var 11) .nil)) (.int 1)) (.ix (.var 11) (.int 0)) .non)) .nil))
def f_law_k07_s2 : ME Fn := (.tup (.cons (.var 12) (.cons (.ix (.var 9) (.var 12)) .nil)))
def Bf_law_k07 : FDef Fn := ⟨1, 13,
  (.cons (.set 1 (.call .f_law_start (.cons (.var 0) .nil))) (.cons (.set 2 (.call .f_law_points (.cons (.var 1) (.cons (.int 7) .nil)))) (.cons (.set 3 (.call .f_law_pick (.cons (.var 1) (.cons (.lst (.cons (.bin .sub (.ix (.ix (.var 2) (.int 0)) (.int 0)) (.int 1)) (.cons (.bin .add (.ix (.ix (.var 2) (.neg (.int 1))) (.int 0)) (.int 1)) (.cons (.bin .add (.ix (.ix (.var 2) (.int 0)) (.int 0)) (.call .f_law_draw (.cons (.var 1) (.cons (.int 20) .nil)))) (.cons (.bin .sub (.ix (.ix (.var 2) (.neg (.int 1))) (.int 0)) (.call .f_law_draw (.cons (.var 1) (.cons (.int 20) .nil)))) .nil))))) .nil)))) (.cons (.set 4 (.call .f_law_told_k07 (.cons (.int 0) (.cons (.var 2) (.cons (.var 3) .nil))))) (.cons (.ife (.not (.call .f_law_fits (.cons (.var 2) .nil))) (.cons (.ret (.cmp .eq (.var 4) (.str "bent"))) .nil) .nil) (.cons (.ife (.cmp .eq (.bcall .len (.cons (.var 2) .nil)) (.int 1)) (.cons (.ret (.cmp .eq (.var 4) (.str "none"))) .nil) .nil) (.cons (.set 5 (.call .f_law_height (.cons (.call .f_leanest_line (.cons (.var 2) .nil)) (.cons (.var 3) .nil)))) (.cons (.ife (.or (.cmp .ne (.var 4) (.call .f_law_possible (.cons (.var 2) (.cons (.var 3) (.cons (.var 5) .nil))))) (.or1 (.cmp .gt (.bcall .len (.cons (.var 4) .nil)) (.int 100)))) (.cons (.ret (.bl false)) .nil) .nil) (.cons (.set 6 (.bcall .min (.cons (.bin .add (.var 3) (.int 3)) (.cons (.int 1000) .nil)))) (.cons (.setO 7 (.lst .nil)) (.cons (.for_ (.one 8) (.range2 (.var 3) (.bin .add (.var 6) (.int 1))) f_law_k07_s1) (.frz 7 (.cons (.ife (.cmp .ne (.call .f_certain_heights (.cons (.var 2) (.cons (.var 3) (.cons (.var 6) .nil)))) (.var 7)) (.cons (.ret (.bl false)) .nil) .nil) (.cons (.set 9 (.call .f_law_row (.cons (.var 1) (.cons (.int 9) .nil)))) (.cons (.set 10 (.comp f_law_k07_s2 (.one 12) (.range1 (.bcall .len (.cons (.var 9) .nil))) [12])) (.cons (.set 4 (.call .f_law_told_k07 (.cons (.int 1) (.cons (.var 9) (.cons (.int 0) .nil))))) (.cons (.ife (.not (.call .f_law_fits (.cons (.var 10) .nil))) (.cons (.ret (.cmp .eq (.var 4) (.str "bent"))) .nil) .nil) (.cons (.ife (.cmp .eq (.bcall .len (.cons (.var 9) .nil)) (.int 1)) (.cons (.ret (.cmp .eq (.var 4) (.str "none"))) .nil) .nil) (.cons (.ret (.cmp .eq (.var 4) (.call .f_law_possible (.cons (.var 10) (.cons (.bcall .len (.cons (.var 9) .nil)) (.cons (.ix (.var 9) (.neg (.int 1))) .nil)))))) .nil)))))))))))))))))))⟩
def f_law_k08_s1 : ME Fn := (.bin .add (.var 6) (.tup (.cons (.int 0) .nil)))
def f_law_k08_s2 : ME Fn := (.bin .add (.var 6) (.tup (.cons (.int 1) .nil)))
def f_law_k08_s3 : MB Fn := (.cons (.set 3 (.bin .add (.comp f_law_k08_s1 (.one 6) (.seq (.var 3)) [6]) (.comp f_law_k08_s2 (.one 6) (.seq (.var 3)) [6]))) .nil)
def f_law_k08_s4 : MB Fn := (.cons (.set 14 (.bin .add (.var 14) (.ix (.var 6) (.var 4)))) (.cons (.app 13 (.tup (.cons (.bin .add (.var 4) (.int 1)) (.cons (.var 14) .nil)))) .nil))
def f_law_k08_s5 : MB Fn := (.cons (.parO 13 (.cons (.tup (.cons (.int 0) (.cons (.int 0) .nil))) .nil) 14 0) (.cons (.for_ (.one 4) (.range1 (.var 2)) f_law_k08_s4) (.frz 13 (.cons (.ife (.call .f_law_fits (.cons (.var 13) .nil)) (.cons (.app 5 (.var 6)) .nil) .nil) .nil))))
def f_law_k08_s6 : ME Fn := (.call .f_law_draw (.cons (.var 1) (.cons (.bcall .len (.cons (.var 5) .nil)) .nil)))
def f_law_k08_s7 : MB Fn := (.cons (.ife (.or (.cmp .ne (.call .f_rank_of (.cons (.ix (.var 5) (.var 4)) .nil)) (.var 4)) (.or1 (.cmp .ne (.call .f_steps_at (.cons (.var 2) (.cons (.var 4) .nil))) (.ix (.var 5) (.var 4))))) (.cons (.ret (.bl false)) .nil) .nil) .nil)
def f_law_k08_s8 : ME Fn := (.cmp .eq (.call .f_law_common (.cons (.var 16) (.cons (.var 9) .nil))) (.int 1))
def f_law_k08_s9 : ME Fn := (.var 16)
def f_law_k08_s10 : MB Fn := (.cons (.set 12 (.compIf f_law_k08_s9 (.one 16) (.range2 (.int 1) (.bin .add (.var 9) (.int 1))) f_law_k08_s8 [16])) (.cons (.set 8 (.bin .add (.var 8) (.bin .mul (.bin .add (.bin .sub (.var 7) (.var 9)) (.int 1)) (.bcall .len (.cons (.var 12) .nil))))) .nil))
def Bf_law_k08 : FDef Fn := ⟨1, 17,
  (.cons (.set 1 (.call .f_law_start (.cons (.var 0) .nil))) (.cons (.set 2 (.call .f_law_draw (.cons (.var 1) (.cons (.int 8) .nil)))) (.cons (.set 3 (.lst (.cons (.tup .nil) .nil))) (.cons (.for_ (.one 4) (.range1 (.var 2)) f_law_k08_s3) (.cons (.setO 5 (.lst .nil)) (.cons (.for_ (.one 6) (.seq (.bcall .sorted (.cons (.var 3) .nil))) f_law_k08_s5) (.frz 5 (.cons (.ife (.or (.cmp .ne (.call .f_step_rows (.cons (.var 2) .nil)) (.var 5)) (.or1 (.cmp .ne (.call .f_count_rows (.cons (.var 2) .nil)) (.bcall .len (.cons (.var 5) .nil))))) (.cons (.ret (.bl false)) .nil) .nil) (.cons (.for_ (.one 4) (.seq (.bin .add (.lst (.cons (.int 0) (.cons (.bin .sub (.bcall .len (.cons (.var 5) .nil)) (.int 1)) .nil))) (.comp f_law_k08_s6 (.one 15) (.range1 (.int 6)) [15]))) f_law_k08_s7) (.cons (.set 7 (.call .f_law_draw (.cons (.var 1) (.cons (.int 101) .nil)))) (.cons (.set 8 (.int 1)) (.cons (.for_ (.one 9) (.range2 (.int 1) (.bin .add (.var 7) (.int 1))) f_law_k08_s10) (.cons (.ife (.cmp .ne (.call .f_count_rows (.cons (.var 7) .nil)) (.var 8)) (.cons (.ret (.bl false)) .nil) .nil) (.cons (.set 9 (.bin .add (.int 8) (.call .f_law_draw (.cons (.var 1) (.cons (.int 3) .nil))))) (.cons (.set 10 (.call .f_law_draw (.cons (.var 1) (.cons (.call .f_count_rows (.cons (.var 9) .nil)) .nil)))) (.cons (.set 11 (.call .f_steps_at (.cons (.var 9) (.cons (.var 10) .nil)))) (.cons (.ret (.and (.cmp .eq (.call .f_rank_of (.cons (.var 11) .nil)) (.var 10)) (.and (.cmp .eq (.bcall .len (.cons (.var 11) .nil)) (.var 9)) (.and1 (.cmp .is_ (.call .f_uneven (.cons (.call .f_row_of (.cons (.int 0) (.cons (.bcall .list (.cons (.var 11) .nil)) .nil))) .nil)) .non))))) .nil)))))))))))))))))⟩
def f_law_k09_s1 : ME Fn := (.call .f_law_draw (.cons (.var 1) (.cons (.int 4) .nil)))
def f_law_k09_s2 : ME Fn := (.bcall .len (.cons (.var 12) .nil))
def f_law_k09_s3 : ME Fn := (.cmp .eq (.bcall .len (.cons (.var 12) .nil)) (.var 4))
def f_law_k09_s4 : ME Fn := (.var 12)
def f_law_k09_s5 : ME Fn := (.call .f_law_ok (.cons (.var 2) (.cons (.var 7) (.cons (.var 14) .nil))))
def f_law_k09_s6 : ME Fn := (.bin .sub (.var 14) (.var 7))
def f_law_k09_s7 : MB Fn := (.cons (.ife (.cmp .ne (.call .f_longest_piece (.cons (.var 2) (.cons (.var 7) .nil))) (.bcall .max (.cons (.compIf f_law_k09_s6 (.one 14) (.range2 (.bin .add (.var 7) (.int 1)) (.bin .add (.bcall .len (.cons (.var 2) .nil)) (.int 1))) f_law_k09_s5 [14]) .nil))) (.cons (.ret (.bl false)) .nil) .nil) .nil)
def f_law_k09_s8 : ME Fn := (.cmp .eq (.bcall .len (.cons (.var 12) .nil)) (.var 8))
def f_law_k09_s9 : ME Fn := (.bcall .sum (.cons (.sl (.var 12) .non (.some (.var 7))) .nil))
def f_law_k09_s10 : ME Fn := (.comp f_law_k09_s9 (.one 12) (.seq (.var 6)) [12])
def f_law_k09_s11 : ME Fn := (.tup (.cons (.bcall .min (.cons (.var 13) .nil)) (.cons (.bcall .max (.cons (.var 13) .nil)) .nil)))
def f_law_k09_s12 : ME Fn := (.bin .add (.int 1) (.call .f_law_draw (.cons (.var 1) (.cons (.bcall .len (.cons (.var 2) .nil)) .nil))))
def Bf_law_k09 : FDef Fn := ⟨1, 15,
  (.cons (.set 1 (.call .f_law_start (.cons (.var 0) .nil))) (.cons (.set 2 (.call .f_law_row (.cons (.var 1) (.cons (.int 8) .nil)))) (.cons (.ife (.cmp .eq (.call .f_law_draw (.cons (.var 1) (.cons (.int 2) .nil))) (.int 0)) (.cons (.set 2 (.comp f_law_k09_s1 (.one 7) (.range1 (.bin .add (.int 1) (.call .f_law_draw (.cons (.var 1) (.cons (.int 8) .nil))))) [7])) .nil) .nil) (.cons (.set 3 (.call .f_law_lists (.cons (.var 2) (.cons (.int 0) .nil)))) (.cons (.set 4 (.bcall .min (.cons (.comp f_law_k09_s2 (.one 12) (.seq (.var 3)) [12]) .nil))) (.cons (.set 5 (.call .f_pieces (.cons (.var 2) .nil))) (.cons (.set 6 (.compIf f_law_k09_s4 (.one 12) (.seq (.var 3)) f_law_k09_s3 [12])) (.cons (.ife (.or (.cmp .ne (.var 5) (.bcall .max (.cons (.var 6) .nil))) (.or1 (.cmp .isn (.call .f_is_parting (.cons (.var 2) (.cons (.var 5) .nil))) (.bl true)))) (.cons (.ret (.bl false)) .nil) .nil) (.cons (.for_ (.one 7) (.range1 (.bcall .len (.cons (.var 2) .nil))) f_law_k09_s7) (.cons (.set 8 (.bin .add (.int 1) (.call .f_law_draw (.cons (.var 1) (.cons (.bcall .len (.cons (.var 2) .nil)) .nil))))) (.cons (.ife (.cmp .ne (.call .f_count_partings (.cons (.var 2) (.cons (.var 8) .nil))) (.bcall .len (.cons (.compIf f_law_k09_s4 (.one 12) (.seq (.var 3)) f_law_k09_s8 [12]) .nil))) (.cons (.ret (.bl false)) .nil) .nil) (.cons (.set 9 (.comp f_law_k09_s10 (.one 7) (.range2 (.int 1) (.var 4)) [7])) (.cons (.ife (.cmp .ne (.call .f_corners (.cons (.var 2) .nil)) (.comp f_law_k09_s11 (.one 13) (.seq (.var 9)) [13])) (.cons (.ret (.bl false)) .nil) .nil) (.cons (.set 10 (.comp f_law_k09_s12 (.one 7) (.range1 (.call .f_law_draw (.cons (.var 1) (.cons (.int 4) .nil)))) [7])) (.cons (.set 11 (.call .f_law_pick (.cons (.var 1) (.cons (.bin .add (.var 3) (.lst (.cons (.var 10) .nil))) .nil)))) (.cons (.ret (.call .f_law_true (.cons (.call .f_is_parting (.cons (.var 2) (.cons (.var 11) .nil))) (.cons (.cmp .in_ (.var 11) (.var 3)) .nil)))) .nil))))))))))))))))⟩
def f_law_k10_s1 : ME Fn := (.and (.cmp .lt (.bcall .len (.cons (.var 2) .nil)) (.int 17)) (.and1 (.cmp .gt (.call .f_law_draw (.cons (.var 1) (.cons (.int 5) .nil))) (.int 0))))
def f_law_k10_s2 : MB Fn := (.cons (.set 2 (.bin .add (.var 2) (.lst (.cons (.bin .add (.ix (.var 2) (.neg (.int 1))) (.call .f_law_pick (.cons (.var 1) (.cons (.lst (.cons (.int 0) (.cons (.int 1) (.cons (.int 2) (.cons (.bin .sub (.int 0) (.int 1)) .nil))))) .nil)))) .nil)))) .nil)
def f_law_k10_s3 : ME Fn := (.tup (.cons (.var 12) (.cons (.ix (.var 2) (.var 12)) .nil)))
def f_law_k10_s4 : MB Fn := (.cons (.ife (.cmp .ne (.call .f_longest_piece (.cons (.var 2) (.cons (.var 4) .nil))) (.var 5)) (.cons (.ret (.bl false)) .nil) .nil) (.cons (.set 10 (.comp f_law_k10_s3 (.one 12) (.range2 (.var 4) (.bin .add (.var 4) (.var 5))) [12])) (.cons (.ife (.or (.not (.call .f_law_fits (.cons (.var 10) .nil))) (.or1 (.and (.cmp .lt (.bin .add (.var 4) (.var 5)) (.bcall .len (.cons (.var 2) .nil))) (.and1 (.call .f_law_fits (.cons (.bin .add (.var 10) (.lst (.cons (.tup (.cons (.bin .add (.var 4) (.var 5)) (.cons (.ix (.var 2) (.bin .add (.var 4) (.var 5))) .nil))) .nil))) .nil)))))) (.cons (.ret (.bl false)) .nil) .nil) (.cons (.set 4 (.bin .add (.var 4) (.var 5))) .nil))))
def f_law_k10_s5 : ME Fn := (.var 14)
def f_law_k10_s6 : ME Fn := (.bcall .sum (.cons (.sl (.var 3) .non (.some (.var 12))) .nil))
def f_law_k10_s7 : ME Fn := (.var 13)
def f_law_k10_s8 : ME Fn := (.cmp .gt (.ix (.var 7) (.var 12)) (.ix (.ix (.var 6) (.var 12)) (.int 1)))
def f_law_k10_s9 : ME Fn := (.var 12)
def f_law_k10_s10 : MB Fn := (.cons (.app 11 (.bin .sub (.var 8) (.var 4))) (.cons (.set 4 (.var 8)) .nil))
def Bf_law_k10 : FDef Fn := ⟨1, 15,
  (.cons (.set 1 (.call .f_law_start (.cons (.var 0) .nil))) (.cons (.set 2 (.call .f_law_row (.cons (.var 1) (.cons (.int 12) .nil)))) (.cons (.while_ f_law_k10_s1 f_law_k10_s2) (.cons (.set 3 (.call .f_pieces (.cons (.var 2) .nil))) (.cons (.ife (.or (.cmp .ne (.bcall .sum (.cons (.var 3) .nil)) (.bcall .len (.cons (.var 2) .nil))) (.or1 (.cmp .isn (.call .f_is_parting (.cons (.var 2) (.cons (.var 3) .nil))) (.bl true)))) (.cons (.ret (.bl false)) .nil) .nil) (.cons (.set 4 (.int 0)) (.cons (.for_ (.one 5) (.seq (.var 3)) f_law_k10_s4) (.cons (.set 6 (.call .f_corners (.cons (.var 2) .nil))) (.cons (.ife (.or (.cmp .ne (.bcall .len (.cons (.var 6) .nil)) (.bin .sub (.bcall .len (.cons (.var 3) .nil)) (.int 1))) (.or1 (.cmp .ne (.comp f_law_k10_s5 (.tup [13, 14]) (.seq (.var 6)) [13, 14]) (.comp f_law_k10_s6 (.one 12) (.range2 (.int 1) (.bcall .len (.cons (.var 3) .nil))) [12])))) (.cons (.ret (.bl false)) .nil) .nil) (.cons (.set 7 (.comp f_law_k10_s7 (.tup [13, 14]) (.seq (.var 6)) [13, 14])) (.cons (.ife (.cmp .ne (.compIf f_law_k10_s9 (.one 12) (.range1 (.bcall .len (.cons (.var 6) .nil))) f_law_k10_s8 [12]) (.lst .nil)) (.cons (.ret (.bl false)) .nil) .nil) (.cons (.parO 11 .nil 4 0) (.cons (.for_ (.one 8) (.seq (.bin .add (.var 7) (.lst (.cons (.bcall .len (.cons (.var 2) .nil)) .nil)))) f_law_k10_s10) (.frz 11 (.cons (.ife (.cmp .isn (.call .f_is_parting (.cons (.var 2) (.cons (.var 11) .nil))) (.bl true)) (.cons (.ret (.bl false)) .nil) .nil) (.cons (.set 9 (.call .f_pieces (.cons (.slS (.var 2) .non (.neg (.int 1))) .nil))) (.cons (.ret (.and (.cmp .eq (.bcall .len (.cons (.var 9) .nil)) (.bcall .len (.cons (.var 3) .nil))) (.and1 (.cmp .eq (.slS (.var 9) .non (.neg (.int 1))) (.var 11))))) .nil)))))))))))))))))⟩
def f_law_k11_s1 : ME Fn := (.tup (.cons (.var 15) (.cons (.bin .add (.var 16) (.call .f_law_pick (.cons (.var 1) (.cons (.lst (.cons (.int 0) (.cons (.int 0) (.cons (.int 2) (.cons (.bin .sub (.int 0) (.int 2)) .nil))))) .nil)))) .nil)))
def f_law_k11_s2 : ME Fn := (.bin .add (.var 6) (.tup (.cons (.var 4) .nil)))
def f_law_k11_s3 : MB Fn := (.cons (.set 3 (.bin .add (.var 3) (.comp f_law_k11_s2 (.one 6) (.seq (.var 3)) [6]))) .nil)
def f_law_k11_s4 : ME Fn := (.cmp .nin (.var 4) (.var 6))
def f_law_k11_s5 : ME Fn := (.ix (.var 2) (.var 4))
def f_law_k11_s6 : MB Fn := (.cons (.set 13 (.compIf f_law_k11_s5 (.one 4) (.range1 (.bcall .len (.cons (.var 2) .nil))) f_law_k11_s4 [4])) (.cons (.ife (.or (.cmp .eq (.var 13) (.lst .nil)) (.or1 (.call .f_law_fits (.cons (.var 13) .nil)))) (.cons (.app 5 (.tup (.cons (.bcall .len (.cons (.var 6) .nil)) (.cons (.var 6) .nil)))) .nil) .nil) .nil))
def f_law_k11_s7 : ME Fn := (.cmp .eq (.var 17) (.var 7))
def f_law_k11_s8 : ME Fn := (.var 6)
def f_law_k11_s9 : ME Fn := (.cmp .eq (.compIf f_law_k11_s8 (.one 6) (.seq (.var 8)) f_law_k11_s4 [6]) (.lst .nil))
def f_law_k11_s10 : ME Fn := (.var 4)
def f_law_k11_s11 : ME Fn := (.call .f_law_draw (.cons (.var 1) (.cons (.bcall .len (.cons (.var 2) .nil)) .nil)))
def f_law_k11_s12 : ME Fn := (.not (.call .f_law_fits (.cons (.bcall .list (.cons (.var 14) .nil)) .nil)))
def f_law_k11_s13 : ME Fn := (.var 14)
def f_law_k11_s14 : ME Fn := (.cmp .in_ (.ix (.var 2) (.var 4)) (.var 14))
def f_law_k11_s15 : ME Fn := (.cmp .eq (.compIf f_law_k11_s10 (.one 4) (.seq (.ix (.var 8) (.int 0))) f_law_k11_s14 [4]) (.lst .nil))
def Bf_law_k11 : FDef Fn := ⟨1, 18,
  (.cons (.set 1 (.call .f_law_start (.cons (.var 0) .nil))) (.cons (.set 2 (.call .f_law_points (.cons (.var 1) (.cons (.int 7) .nil)))) (.cons (.ife (.cmp .eq (.call .f_law_draw (.cons (.var 1) (.cons (.int 2) .nil))) (.int 0)) (.cons (.set 2 (.comp f_law_k11_s1 (.tup [15, 16]) (.seq (.var 2)) [15, 16])) .nil) .nil) (.cons (.set 3 (.lst (.cons (.tup .nil) .nil))) (.cons (.for_ (.one 4) (.range1 (.bcall .len (.cons (.var 2) .nil))) f_law_k11_s3) (.cons (.setO 5 (.lst .nil)) (.cons (.for_ (.one 6) (.seq (.var 3)) f_law_k11_s6) (.frz 5 (.cons (.set 7 (.ix (.bcall .min (.cons (.var 5) .nil)) (.int 0))) (.cons (.set 8 (.bcall .sorted (.cons (.compIf f_law_k11_s8 (.tup [17, 6]) (.seq (.var 5)) f_law_k11_s7 [17, 6]) .nil))) (.cons (.ife (.or (.cmp .ne (.call .f_fewest_wrong (.cons (.var 2) .nil)) (.ix (.var 8) (.int 0))) (.or1 (.cmp .ne (.call .f_count_wrong (.cons (.var 2) .nil)) (.tup (.cons (.var 7) (.cons (.bcall .len (.cons (.var 8) .nil)) .nil)))))) (.cons (.ret (.bl false)) .nil) .nil) (.cons (.ife (.cmp .ne (.call .f_surely_wrong (.cons (.var 2) .nil)) (.compIf f_law_k11_s10 (.one 4) (.range1 (.bcall .len (.cons (.var 2) .nil))) f_law_k11_s9 [4])) (.cons (.ret (.bl false)) .nil) .nil) (.cons (.set 9 (.comp f_law_k11_s11 (.one 4) (.range1 (.call .f_law_draw (.cons (.var 1) (.cons (.int 4) .nil)))) [4])) (.cons (.set 10 (.bcall .tuple (.cons (.sset (.var 9)) .nil))) (.cons (.ife (.not (.call .f_law_true (.cons (.call .f_is_enough (.cons (.var 2) (.cons (.var 9) .nil))) (.cons (.cmp .in_ (.tup (.cons (.bcall .len (.cons (.var 10) .nil)) (.cons (.var 10) .nil))) (.var 5)) .nil)))) (.cons (.ret (.bl false)) .nil) .nil) (.cons (.set 11 (.compIf f_law_k11_s13 (.one 14) (.seq (.call .f_law_groups (.cons (.var 2) .nil))) f_law_k11_s12 [14])) (.cons (.set 12 (.compIf f_law_k11_s13 (.one 14) (.seq (.var 11)) f_law_k11_s15 [14])) (.cons (.ret (.and (.cmp .eq (.var 12) (.lst .nil)) (.and1 (.cmp .eq (.cmp .eq (.var 7) (.int 0)) (.call .f_is_straight (.cons (.var 2) .nil)))))) .nil))))))))))))))))))⟩
def f_law_k12_s1 : ME Fn := (.tup (.cons (.var 19) (.cons (.bin .add (.var 20) (.bin .mul (.var 8) (.var 19))) .nil)))
def f_law_k12_s2 : ME Fn := (.tup (.cons (.bin .add (.var 19) (.var 6)) (.cons (.bin .add (.var 20) (.var 7)) .nil)))
def f_law_k12_s3 : ME Fn := (.tup (.cons (.bin .sub (.int 0) (.var 19)) (.cons (.var 20) .nil)))
def f_law_k12_s4 : ME Fn := (.tup (.cons (.var 19) (.cons (.bin .sub (.int 0) (.var 20)) .nil)))
def f_law_k12_s5 : ME Fn := (.call .f_is_straight (.cons (.var 17) .nil))
def f_law_k12_s6 : ME Fn := (.tup (.cons (.var 18) (.cons (.ix (.ix (.var 2) (.bin .add (.var 14) (.bin .mul (.var 18) (.var 13)))) (.int 1)) .nil)))
def f_law_k12_s7 : ME Fn := (.bin .sub (.ix (.ix (.var 2) (.bin .add (.var 18) (.int 1))) (.int 0)) (.ix (.ix (.var 2) (.var 18)) (.int 0)))
def Bf_law_k12 : FDef Fn := ⟨1, 21,
  (.cons (.set 1 (.call .f_law_start (.cons (.var 0) .nil))) (.cons (.set 2 (.call .f_law_points (.cons (.var 1) (.cons (.int 12) .nil)))) (.cons (.set 3 (.call .f_is_straight (.cons (.var 2) .nil))) (.cons (.par [6, 7, 8] (.cons (.bin .sub (.call .f_law_draw (.cons (.var 1) (.cons (.int 200) .nil))) (.int 100)) (.cons (.bin .sub (.call .f_law_draw (.cons (.var 1) (.cons (.int 200) .nil))) (.int 100)) (.cons (.bin .sub (.call .f_law_draw (.cons (.var 1) (.cons (.int 7) .nil))) (.int 3)) .nil)))) (.cons (.par [9, 10] (.cons (.call .f_moved (.cons (.var 2) (.cons (.var 6) (.cons (.var 7) .nil)))) (.cons (.call .f_sheared (.cons (.var 2) (.cons (.var 8) .nil))) .nil))) (.cons (.ife (.or (.cmp .ne (.var 9) (.comp f_law_k12_s2 (.tup [19, 20]) (.seq (.var 2)) [19, 20])) (.or1 (.cmp .ne (.var 10) (.comp f_law_k12_s1 (.tup [19, 20]) (.seq (.var 2)) [19, 20])))) (.cons (.ret (.bl false)) .nil) .nil) (.cons (.par [11, 12] (.cons (.call .f_turned_over (.cons (.var 2) .nil)) (.cons (.call .f_backward (.cons (.var 2) .nil)) .nil))) (.cons (.ife (.or (.cmp .ne (.var 11) (.comp f_law_k12_s4 (.tup [19, 20]) (.seq (.var 2)) [19, 20])) (.or1 (.cmp .ne (.var 12) (.bcall .sorted (.cons (.comp f_law_k12_s3 (.tup [19, 20]) (.seq (.var 2)) [19, 20]) .nil))))) (.cons (.ret (.bl false)) .nil) .nil) (.cons (.ife (.cmp .ne (.comp f_law_k12_s5 (.one 17) (.seq (.tup (.cons (.var 9) (.cons (.var 10) (.cons (.var 11) (.cons (.var 12) .nil)))))) [17]) (.bin .mul (.lst (.cons (.var 3) .nil)) (.int 4))) (.cons (.ret (.bl false)) .nil) .nil) (.cons (.ife (.or (.cmp .ne (.call .f_sheared (.cons (.var 10) (.cons (.bin .sub (.int 0) (.var 8)) .nil))) (.var 2)) (.or (.cmp .ne (.call .f_backward (.cons (.var 12) .nil)) (.var 2)) (.or1 (.cmp .ne (.call .f_turned_over (.cons (.var 11) .nil)) (.var 2))))) (.cons (.ret (.bl false)) .nil) .nil) (.cons (.par [13, 14] (.cons (.bin .add (.int 1) (.call .f_law_draw (.cons (.var 1) (.cons (.bcall .len (.cons (.var 2) .nil)) .nil)))) (.cons (.call .f_law_draw (.cons (.var 1) (.cons (.bcall .len (.cons (.var 2) .nil)) .nil))) .nil))) (.cons (.set 4 (.call .f_every (.cons (.var 2) (.cons (.var 13) (.cons (.var 14) .nil))))) (.cons (.ife (.cmp .ne (.var 4) (.comp f_law_k12_s6 (.one 18) (.range1 (.bin .add (.bin .fdiv (.bin .sub (.bin .sub (.bcall .len (.cons (.var 2) .nil)) (.int 1)) (.var 14)) (.var 13)) (.int 1))) [18])) (.cons (.ret (.bl false)) .nil) .nil) (.cons (.ife (.not (.var 3)) (.cons (.ret (.bl true)) .nil) .nil) (.cons (.ife (.and (.cmp .eq (.comp f_law_k12_s7 (.one 18) (.range1 (.bin .sub (.bcall .len (.cons (.var 2) .nil)) (.int 1))) [18]) (.bin .mul (.lst (.cons (.int 1) .nil)) (.bin .sub (.bcall .len (.cons (.var 2) .nil)) (.int 1)))) (.and1 (.not (.call .f_is_straight (.cons (.var 4) .nil))))) (.cons (.ret (.bl false)) .nil) .nil) (.cons (.unp [15, 16] (.call .f_slopes (.cons (.var 2) .nil))) (.cons (.ife (.cmp .is_ (.var 15) .non) (.cons (.ret (.cmp .eq (.call .f_slopes (.cons (.var 10) .nil)) (.tup (.cons .non (.cons .non .nil))))) .nil) .nil) (.cons (.ife (.or (.cmp .ne (.call .f_slopes (.cons (.var 9) .nil)) (.tup (.cons (.var 15) (.cons (.var 16) .nil)))) (.or1 (.cmp .ne (.call .f_slopes (.cons (.var 10) .nil)) (.tup (.cons (.tup (.cons (.bin .add (.ix (.var 15) (.int 0)) (.bin .mul (.var 8) (.ix (.var 15) (.int 1)))) (.cons (.ix (.var 15) (.int 1)) .nil))) (.cons (.tup (.cons (.bin .add (.ix (.var 16) (.int 0)) (.bin .mul (.var 8) (.ix (.var 16) (.int 1)))) (.cons (.ix (.var 16) (.int 1)) .nil))) .nil)))))) (.cons (.ret (.bl false)) .nil) .nil) (.cons (.set 5 (.tup (.cons (.tup (.cons (.bin .sub (.int 0) (.ix (.var 16) (.int 0))) (.cons (.ix (.var 16) (.int 1)) .nil))) (.cons (.tup (.cons (.bin .sub (.int 0) (.ix (.var 15) (.int 0))) (.cons (.ix (.var 15) (.int 1)) .nil))) .nil)))) (.cons (.ret (.and (.cmp .eq (.call .f_slopes (.cons (.var 11) .nil)) (.var 5)) (.and1 (.cmp .eq (.call .f_slopes (.cons (.var 12) .nil)) (.var 5))))) .nil))))))))))))))))))))⟩
def f_law_k13_s1 : ME Fn := (.var 13)
def f_law_k13_s2 : ME Fn := (.cmp .eq (.var 13) (.var 8))
def f_law_k13_s3 : ME Fn := (.var 14)
def f_law_k13_s4 : ME Fn := (.cmp .ne (.ix (.var 13) (.int 0)) (.var 8))
def f_law_k13_s5 : MB Fn := (.cons (.set 7 (.call .f_law_pick (.cons (.var 1) (.cons (.lst (.cons (.int 0) (.cons (.int 0) (.cons (.int 0) (.cons (.int 1) (.cons (.int 2) .nil)))))) .nil)))) (.cons (.set 8 (.bin .sub (.call .f_law_draw (.cons (.var 1) (.cons (.int 24) .nil))) (.int 8))) (.cons (.set 9 (.tup (.cons (.var 8) (.cons (.bin .add (.call .f_law_height (.cons (.var 2) (.cons (.var 8) .nil))) (.call .f_law_pick (.cons (.var 1) (.cons (.lst (.cons (.int 0) (.cons (.int 0) (.cons (.int 0) (.cons (.int 1) (.cons (.bin .sub (.int 0) (.int 1)) .nil)))))) .nil)))) .nil)))) (.cons (.set 10 (.cmp .in_ (.var 8) (.comp f_law_k13_s1 (.tup [13, 14]) (.seq (.var 5)) [13, 14]))) (.cons (.set 11 (.ite (.var 10) (.cmp .in_ (.var 9) (.var 5)) (.call .f_law_fits (.cons (.bcall .sorted (.cons (.bin .add (.var 5) (.lst (.cons (.var 9) .nil))) .nil)) .nil)))) (.cons (.ife (.not (.call .f_law_true (.cons (.meth .m_fits 4 (.cons (.var 9) .nil)) (.cons (.var 11) .nil)))) (.cons (.ret (.bl false)) .nil) .nil) (.cons (.ife (.cmp .eq (.var 7) (.int 0)) (.cons (.ife (.cmp .ne (.call .f_law_call (.cons (.var 4) (.cons (.int 0) (.cons (.var 9) .nil)))) (.ite (.var 10) (.str "points") (.ite (.not (.var 11)) (.str "bent") (.bin .add (.bcall .len (.cons (.var 5) .nil)) (.int 1))))) (.cons (.ret (.bl false)) .nil) .nil) (.cons (.ife (.and (.var 11) (.and1 (.not (.var 10)))) (.cons (.app 6 (.var 5)) (.cons (.set 5 (.bcall .sorted (.cons (.bin .add (.var 5) (.lst (.cons (.var 9) .nil))) .nil))) .nil)) .nil) .nil)) (.cons (.ife (.cmp .eq (.var 7) (.int 1)) (.cons (.set 12 (.compIf f_law_k13_s3 (.tup [13, 14]) (.seq (.var 5)) f_law_k13_s2 [13, 14])) (.cons (.ife (.cmp .ne (.call .f_law_call (.cons (.var 4) (.cons (.int 1) (.cons (.var 8) .nil)))) (.ite (.var 10) (.ix (.var 12) (.int 0)) (.str "none"))) (.cons (.ret (.bl false)) .nil) .nil) (.cons (.ife (.var 10) (.cons (.app 6 (.var 5)) (.cons (.set 5 (.compIf f_law_k13_s1 (.one 13) (.seq (.var 5)) f_law_k13_s4 [13])) .nil)) .nil) .nil))) (.cons (.ife (.cmp .ne (.call .f_law_call (.cons (.var 4) (.cons (.int 2) (.cons (.int 0) .nil)))) (.ite (.neO 6) .non (.str "none"))) (.cons (.ret (.bl false)) .nil) .nil) (.cons (.popO 5 6) .nil))) .nil)) (.cons (.ife (.or (.cmp .ne (.meth0 .m_points 4) (.var 5)) (.or1 (.cmp .ne (.lenS 4) (.bcall .len (.cons (.var 5) .nil))))) (.cons (.ret (.bl false)) .nil) .nil) (.cons (.ife (.cmp .ne (.call .f_law_call (.cons (.var 4) (.cons (.int 3) (.cons (.int 0) .nil)))) (.ite (.cmp .ne (.var 5) (.lst .nil)) (.call .f_leanest_line (.cons (.var 5) .nil)) (.str "none"))) (.cons (.ret (.bl false)) .nil) .nil) (.cons (.ife (.cmp .ne (.meth0 .m_slopes 4) (.ite (.cmp .ne (.var 5) (.lst .nil)) (.call .f_slopes (.cons (.var 5) .nil)) (.tup (.cons .non (.cons .non .nil))))) (.cons (.ret (.bl false)) .nil) .nil) .nil))))))))))
def Bf_law_k13 : FDef Fn := ⟨1, 15,
  (.cons (.set 1 (.call .f_law_start (.cons (.var 0) .nil))) (.cons (.par3O .f_Strip 4 5 6) (.cons (.set 2 (.call .f_law_line (.cons (.var 1) .nil))) (.cons (.for_ (.one 3) (.range1 (.int 14)) f_law_k13_s5) (.cons (.ret (.bl true)) .nil)))))⟩
def f_law_k14_s1 : ME Fn := (.ite (.cmp .eq (.var 20) (.var 13)) (.str "#") (.str "."))
def f_law_k14_s2 : MB Fn := (.cons (.app 12 (.join (.str "") (.comp f_law_k14_s1 (.one 20) (.seq (.var 6)) [20]))) .nil)
def f_law_k14_s3 : MB Fn := (.cons (.set 15 (.ix (.lst (.cons (.var 8) (.cons (.var 9) .nil))) (.var 14))) (.cons (.set 16 (.call .f_law_draw (.cons (.var 1) (.cons (.bin .add (.bcall .len (.cons (.var 15) .nil)) (.int 1)) .nil)))) (.cons (.set 17 (.call .f_law_pick (.cons (.var 1) (.cons (.lst (.cons (.str "0") (.cons (.str "1") (.cons (.str "9") (.cons (.str " ") (.cons (.str "-") (.cons (.str ",") (.cons (.str "x") (.cons (.str "") .nil))))))))) .nil)))) (.cons (.set 18 (.call .f_law_pick (.cons (.var 1) (.cons (.lst (.cons (.bin .add (.bin .add (.sl (.var 15) .non (.some (.var 16))) (.var 17)) (.sl (.var 15) (.some (.bin .add (.var 16) (.int 1))) .non)) (.cons (.bin .add (.bin .add (.sl (.var 15) .non (.some (.var 16))) (.var 17)) (.sl (.var 15) (.some (.var 16)) .non)) .nil))) .nil)))) (.cons (.set 19 (.call .f_law_parsed (.cons (.var 14) (.cons (.var 18) .nil)))) (.cons (.ife (.and (.cmp .ne (.var 19) (.str "text")) (.and1 (.cmp .ne (.var 18) (.call .f_law_written (.cons (.var 14) (.cons (.var 19) .nil)))))) (.cons (.ret (.bl false)) .nil) .nil) .nil))))))
def f_law_k14_s4 : MB Fn := (.cons (.for_ (.one 14) (.seq (.lst (.cons (.int 0) (.cons (.int 1) .nil)))) f_law_k14_s3) .nil)
def Bf_law_k14 : FDef Fn := ⟨1, 21,
  (.cons (.set 1 (.call .f_law_start (.cons (.var 0) .nil))) (.cons (.par [5, 6, 7] (.cons (.call .f_law_points (.cons (.var 1) (.cons (.int 6) .nil))) (.cons (.call .f_law_row (.cons (.var 1) (.cons (.int 8) .nil))) (.cons (.call .f_law_line (.cons (.var 1) .nil)) .nil)))) (.cons (.par [8, 9] (.cons (.call .f_format_points (.cons (.var 5) .nil)) (.cons (.call .f_format_row (.cons (.var 6) .nil)) .nil))) (.cons (.ife (.or (.cmp .ne (.var 8) (.call .f_law_written (.cons (.int 0) (.cons (.var 5) .nil)))) (.or (.cmp .ne (.call .f_parse_points (.cons (.var 8) .nil)) (.var 5)) (.or (.cmp .ne (.var 9) (.call .f_law_written (.cons (.int 1) (.cons (.var 6) .nil)))) (.or1 (.cmp .ne (.call .f_parse_row (.cons (.var 9) .nil)) (.var 6)))))) (.cons (.ret (.bl false)) .nil) .nil) (.cons (.set 2 (.ite (.cmp .lt (.ix (.var 7) (.int 2)) (.int 0)) (.str " - ") (.str " + "))) (.cons (.set 3 (.bin .add (.bin .add (.bin .add (.str "(") (.bcall .str (.cons (.ix (.var 7) (.int 0)) .nil))) (.str " x")) (.var 2))) (.cons (.ife (.cmp .ne (.call .f_format_line (.cons (.var 7) .nil)) (.bin .add (.bin .add (.bin .add (.var 3) (.bcall .str (.cons (.bcall .abs (.cons (.ix (.var 7) (.int 2)) .nil)) .nil))) (.str ") / ")) (.bcall .str (.cons (.ix (.var 7) (.int 1)) .nil)))) (.cons (.ret (.bl false)) .nil) .nil) (.cons (.par [10, 11] (.cons (.bcall .min (.cons (.var 6) .nil)) (.cons (.bcall .max (.cons (.var 6) .nil)) .nil))) (.cons (.ife (.cmp .le (.bin .sub (.var 11) (.var 10)) (.int 60)) (.cons (.setO 12 (.lst .nil)) (.cons (.for_ (.one 13) (.range3 (.var 11) (.bin .sub (.var 10) (.int 1)) (.bin .sub (.int 0) (.int 1))) f_law_k14_s2) (.frz 12 (.cons (.ife (.cmp .ne (.call .f_drawn (.cons (.var 6) .nil)) (.var 12)) (.cons (.ret (.bl false)) .nil) .nil) .nil)))) .nil) (.cons (.for_ (.one 4) (.range1 (.int 8)) f_law_k14_s4) (.cons (.ret (.call0 .f_law_rejected)) .nil)))))))))))⟩
def f_law_k15_s1 : ME Fn := (.tup (.cons (.var 5) (.cons (.int 0) .nil)))
def f_law_k15_s2 : ME Fn := (.call .f_law_asked (.cons (.int 1) (.cons (.var 5) (.cons (.var 3) (.cons (.int 0) .nil)))))
def f_law_k15_s3 : ME Fn := (.call .f_law_asked (.cons (.int 2) (.cons (.var 5) (.cons (.var 3) (.cons .non .nil)))))
def f_law_k15_s4 : MB Fn := (.cons (.ife (.or (.cmp .isn (.call .f_are_points (.cons (.var 3) .nil)) (.bl false)) (.or1 (.cmp .ne (.comp f_law_k15_s2 (.one 5) (.range1 (.int 11)) [5]) (.bin .mul (.lst (.cons (.str "points") .nil)) (.int 11))))) (.cons (.ret (.bl false)) .nil) .nil) (.cons (.ife (.or (.cmp .ne (.comp f_law_k15_s3 (.one 5) (.range1 (.int 9)) [5]) (.bin .mul (.lst (.cons (.str "points") .nil)) (.int 9))) (.or1 (.cmp .ne (.call .f_law_asked (.cons (.int 3) (.cons (.int 1) (.cons (.tup (.cons (.int 1) (.cons (.int 2) (.cons (.int 0) .nil)))) (.cons (.var 3) .nil))))) (.str "points")))) (.cons (.ret (.bl false)) .nil) .nil) .nil))
def f_law_k15_s5 : ME Fn := (.call .f_law_asked (.cons (.int 3) (.cons (.var 5) (.cons (.var 3) (.cons .non .nil)))))
def f_law_k15_s6 : MB Fn := (.cons (.ife (.or (.cmp .isn (.call .f_is_line (.cons (.var 3) .nil)) (.bl false)) (.or1 (.cmp .ne (.comp f_law_k15_s5 (.one 5) (.range1 (.int 3)) [5]) (.bin .mul (.lst (.cons (.str "line") .nil)) (.int 3))))) (.cons (.ret (.bl false)) .nil) .nil) .nil)
def f_law_k15_s7 : MB Fn := (.cons (.ife (.cmp .ne (.call .f_law_asked (.cons (.int 3) (.cons (.int 0) (.cons (.tup (.cons (.int 1) (.cons (.int 2) (.cons (.int 0) .nil)))) (.cons (.var 3) .nil))))) (.str "number")) (.cons (.ret (.bl false)) .nil) .nil) .nil)
def Bf_law_k15 : FDef Fn := ⟨1, 6,
  (.cons (.set 1 (.call .f_law_start (.cons (.var 0) .nil))) (.cons (.set 2 (.lst (.cons .non (.cons (.int 5) (.cons (.tup .nil) (.cons (.lst .nil) (.cons (.lst (.cons (.int 5) .nil)) (.cons (.lst (.cons (.tup (.cons (.int 1) .nil)) .nil)) (.cons (.lst (.cons (.tup (.cons (.int 1) (.cons (.int 2) (.cons (.int 3) .nil)))) .nil)) (.cons (.lst (.cons (.lst (.cons (.int 1) (.cons (.int 2) .nil))) .nil)) (.cons (.lst (.cons (.tup (.cons (.int 1) (.cons .non .nil))) .nil)) (.cons (.lst (.cons (.tup (.cons (.bl true) (.cons (.int 1) .nil))) .nil)) (.cons (.lst (.cons (.tup (.cons (.str "1") (.cons (.int 2) .nil))) .nil)) (.cons (.lst (.cons (.tup (.cons (.int 1001) (.cons (.int 0) .nil))) .nil)) (.cons (.lst (.cons (.tup (.cons (.int 0) (.cons (.bin .sub (.int 0) (.int 1001)) .nil))) .nil)) (.cons (.lst (.cons (.tup (.cons (.int 1) (.cons (.int 2) .nil))) (.cons (.tup (.cons (.int 1) (.cons (.int 3) .nil))) .nil))) (.cons (.lst (.cons (.tup (.cons (.int 2) (.cons (.int 1) .nil))) (.cons (.tup (.cons (.int 1) (.cons (.int 1) .nil))) .nil))) (.cons (.tup (.cons (.tup (.cons (.int 0) (.cons (.int 0) .nil))) .nil)) (.cons (.comp f_law_k15_s1 (.one 5) (.range1 (.int 21)) [5]) .nil))))))))))))))))))) (.cons (.for_ (.one 3) (.seq (.var 2)) f_law_k15_s4) (.cons (.for_ (.one 3) (.seq (.lst (.cons .non (.cons (.int 5) (.cons (.tup (.cons (.int 1) (.cons (.int 2) .nil))) (.cons (.lst (.cons (.int 1) (.cons (.int 2) (.cons (.int 0) .nil)))) (.cons (.tup (.cons (.int 1) (.cons (.int 0) (.cons (.int 0) .nil)))) (.cons (.tup (.cons (.int 2) (.cons (.int 4) (.cons (.int 0) .nil)))) (.cons (.tup (.cons (.int 0) (.cons (.int 2) (.cons (.int 0) .nil)))) (.cons (.tup (.cons (.int 1) (.cons (.bin .sub (.int 0) (.int 1)) (.cons (.int 0) .nil)))) (.cons (.tup (.cons (.bl true) (.cons (.int 1) (.cons (.int 0) .nil)))) (.cons (.tup (.cons (.int 1) (.cons (.int 2) (.cons .non .nil)))) (.cons (.tup (.cons (.int 1000000001) (.cons (.int 1) (.cons (.int 0) .nil)))) (.cons (.tup (.cons (.int 1) (.cons (.int 2) (.cons (.int 3) (.cons (.int 4) .nil))))) .nil)))))))))))))) f_law_k15_s6) (.cons (.for_ (.one 3) (.seq (.lst (.cons .non (.cons (.int 1000000001) (.cons (.bin .sub (.int 0) (.int 1000000001)) (.cons (.bl true) (.cons (.str "1") .nil))))))) f_law_k15_s7) (.cons (.ife (.or (.cmp .isn (.call .f_is_line (.cons (.tup (.cons (.int 0) (.cons (.int 1) (.cons (.int 0) .nil)))) .nil)) (.bl true)) (.or (.cmp .ne (.call .f_law_asked (.cons (.int 3) (.cons (.int 0) (.cons (.tup (.cons (.int 1) (.cons (.int 1) (.cons (.int 1000000000) .nil)))) (.cons (.int 1000000000) .nil))))) (.str "done")) (.or1 (.cmp .isn (.call .f_are_points (.cons (.comp f_law_k15_s1 (.one 5) (.range1 (.int 20)) [5]) .nil)) (.bl true))))) (.cons (.ret (.bl false)) .nil) .nil) (.cons (.set 4 (.bin .add (.int 2) (.call .f_law_draw (.cons (.var 1) (.cons (.int 9) .nil))))) (.cons (.ret (.call .f_law_numbers (.cons (.lst (.cons (.tup (.cons (.int 0) (.cons (.int 0) .nil))) (.cons (.tup (.cons (.int 1) (.cons (.int 0) .nil))) (.cons (.tup (.cons (.int 2) (.cons (.int 1) .nil))) .nil)))) (.cons (.lst (.cons (.tup (.cons (.int 0) (.cons (.int 0) .nil))) (.cons (.tup (.cons (.int 1) (.cons (.int 0) .nil))) (.cons (.tup (.cons (.int 2) (.cons (.var 4) .nil))) .nil)))) .nil)))) .nil))))))))⟩
def f_law_k16_s1 : ME Fn := (.call .f_law_asked_k16 (.cons (.int 2) (.cons (.var 7) (.cons (.var 2) (.cons .non .nil)))))
def f_law_k16_s2 : ME Fn := (.call .f_law_asked_k16 (.cons (.int 1) (.cons (.var 7) (.cons (.var 2) (.cons (.int 0) .nil)))))
def f_law_k16_s3 : MB Fn := (.cons (.ife (.or (.cmp .isn (.call .f_is_row (.cons (.var 2) .nil)) (.bl false)) (.or (.cmp .ne (.comp f_law_k16_s2 (.one 7) (.range1 (.int 9)) [7]) (.bin .mul (.lst (.cons (.str "row") .nil)) (.int 9))) (.or1 (.cmp .ne (.comp f_law_k16_s1 (.one 7) (.range1 (.int 4)) [7]) (.bin .mul (.lst (.cons (.str "row") .nil)) (.int 4)))))) (.cons (.ret (.bl false)) .nil) .nil) .nil)
def f_law_k16_s4 : ME Fn := (.call .f_law_asked_k16 (.cons (.int 2) (.cons (.var 4) (.cons (.var 3) (.cons (.var 2) .nil)))))
def f_law_k16_s5 : MB Fn := (.cons (.ife (.cmp .ne (.comp f_law_k16_s4 (.one 2) (.seq (.var 5)) [2]) (.bin .mul (.lst (.cons (.str "number") .nil)) (.bcall .len (.cons (.var 5) .nil)))) (.cons (.ret (.bl false)) .nil) .nil) .nil)
def f_law_k16_s6 : ME Fn := (.call .f_law_asked_k16 (.cons (.int 1) (.cons (.int 4) (.cons (.var 2) (.cons (.int 0) .nil)))))
def f_law_k16_s7 : MB Fn := (.cons (.ife (.or (.cmp .isn (.call .f_is_fraction (.cons (.var 2) .nil)) (.bl false)) (.or (.cmp .ne (.call .f_law_asked_k16 (.cons (.int 2) (.cons (.int 4) (.cons (.var 2) (.cons (.tup (.cons (.int 1) (.cons (.int 1) .nil))) .nil))))) (.str "number")) (.or1 (.cmp .ne (.call .f_law_asked_k16 (.cons (.int 2) (.cons (.int 4) (.cons (.tup (.cons (.int 1) (.cons (.int 1) .nil))) (.cons (.var 2) .nil))))) (.str "number"))))) (.cons (.ret (.bl false)) .nil) .nil) .nil)
def f_law_k16_s8 : ME Fn := (.call .f_law_asked_k16 (.cons (.int 2) (.cons (.int 4) (.cons (.tup (.cons (.int 1) (.cons (.int 2) .nil))) (.cons (.var 6) .nil)))))
def f_law_k16_s9 : ME Fn := (.call .f_law_asked_k16 (.cons (.int 2) (.cons (.int 5) (.cons (.var 2) (.cons .non .nil)))))
def f_law_k16_s10 : ME Fn := (.call .f_law_asked_k16 (.cons (.int 2) (.cons (.int 5) (.cons (.int 0) (.cons (.var 2) .nil)))))
def f_law_k16_s11 : ME Fn := (.call .f_law_asked_k16 (.cons (.int 2) (.cons (.var 7) (.cons .non (.cons (.int 0) .nil)))))
def f_law_k16_s12 : ME Fn := (.call .f_law_asked_k16 (.cons (.int 2) (.cons (.int 7) (.cons (.var 2) (.cons (.int 0) .nil)))))
def Bf_law_k16 : FDef Fn := ⟨1, 8,
  (.cons (.set 1 (.call .f_law_start (.cons (.var 0) .nil))) (.cons (.for_ (.one 2) (.seq (.lst (.cons .non (.cons (.int 5) (.cons (.tup .nil) (.cons (.lst .nil) (.cons (.tup (.cons (.int 1) (.cons (.int 2) .nil))) (.cons (.lst (.cons (.bl true) .nil)) (.cons (.lst (.cons (.str "1") .nil)) (.cons (.lst (.cons .non .nil)) (.cons (.lst (.cons (.int 1001) .nil)) (.cons (.lst (.cons (.bin .sub (.int 0) (.int 1001)) .nil)) (.cons (.bin .mul (.lst (.cons (.int 0) .nil)) (.int 21)) (.cons (.lst (.cons (.lst (.cons (.int 1) .nil)) .nil)) .nil)))))))))))))) f_law_k16_s3) (.cons (.set 3 (.lst (.cons (.int 0) (.cons (.int 0) (.cons (.int 1) .nil))))) (.cons (.for_ (.tup [4, 5]) (.seq (.lst (.cons (.tup (.cons (.int 0) (.cons (.lst (.cons .non (.cons (.int 0) (.cons (.int 3) (.cons (.bl true) .nil))))) .nil))) (.cons (.tup (.cons (.int 1) (.cons (.lst (.cons .non (.cons (.int 3) (.cons (.bin .sub (.int 0) (.int 1)) (.cons (.bl true) .nil))))) .nil))) (.cons (.tup (.cons (.int 2) (.cons (.lst (.cons .non (.cons (.tup (.cons (.int 3) .nil)) (.cons (.lst (.cons (.int 0) .nil)) (.cons (.lst (.cons (.int 4) .nil)) (.cons (.lst (.cons (.bl true) .nil)) .nil)))))) .nil))) (.cons (.tup (.cons (.int 3) (.cons (.lst (.cons .non (.cons (.int 0) (.cons (.int 4) (.cons (.bl true) .nil))))) .nil))) .nil)))))) f_law_k16_s5) (.cons (.ife (.or (.cmp .ne (.comp f_law_k16_s6 (.one 2) (.seq (.tup (.cons (.lst (.cons (.int 0) (.cons (.int 0) (.cons (.int 2) .nil)))) (.cons (.lst (.cons (.int 5) .nil)) .nil)))) [2]) (.lst (.cons (.str "bent") (.cons (.str "none") .nil)))) (.or (.cmp .ne (.call .f_law_asked_k16 (.cons (.int 1) (.cons (.int 8) (.cons (.lst (.cons (.int 0) (.cons (.int 61) .nil))) (.cons (.int 0) .nil))))) (.str "text")) (.or (.cmp .ne (.call .f_law_asked_k16 (.cons (.int 1) (.cons (.int 8) (.cons (.lst (.cons (.int 0) (.cons (.int 60) .nil))) (.cons (.int 0) .nil))))) (.str "done")) (.or1 (.cmp .isn (.call .f_is_row (.cons (.bin .mul (.lst (.cons (.int 0) .nil)) (.int 20)) .nil)) (.bl true)))))) (.cons (.ret (.bl false)) .nil) .nil) (.cons (.for_ (.one 2) (.seq (.lst (.cons .non (.cons (.int 5) (.cons (.tup (.cons (.int 1) (.cons (.int 0) .nil))) (.cons (.tup (.cons (.int 2) (.cons (.int 4) .nil))) (.cons (.lst (.cons (.int 1) (.cons (.int 2) .nil))) (.cons (.tup (.cons (.bl true) (.cons (.int 2) .nil))) .nil)))))))) f_law_k16_s7) (.cons (.ife (.cmp .ne (.comp f_law_k16_s8 (.one 6) (.seq (.tup (.cons (.tup (.cons (.int 1) (.cons (.int 2) .nil))) (.cons (.tup (.cons (.int 1) (.cons (.int 3) .nil))) (.cons (.tup (.cons (.int 2) (.cons (.int 3) .nil))) .nil))))) [6]) (.lst (.cons (.str "number") (.cons (.str "number") (.cons (.str "done") .nil))))) (.cons (.ret (.bl false)) .nil) .nil) (.cons (.ife (.cmp .ne (.comp f_law_k16_s9 (.one 2) (.seq (.tup (.cons .non (.cons (.int 1001) (.cons (.bl true) .nil))))) [2]) (.bin .mul (.lst (.cons (.str "number") .nil)) (.int 3))) (.cons (.ret (.bl false)) .nil) .nil) (.cons (.ife (.cmp .ne (.comp f_law_k16_s10 (.one 2) (.seq (.tup (.cons .non (.cons (.tup (.cons (.int 1) .nil)) (.cons (.lst (.cons .non .nil)) (.cons (.lst (.cons (.bl true) .nil)) (.cons (.lst (.cons (.int 2001) .nil)) (.cons (.lst (.cons (.int 600) (.cons (.int 600) .nil))) (.cons (.bin .mul (.lst (.cons (.int 0) .nil)) (.int 20)) (.cons (.lst (.cons (.int 1000) .nil)) .nil)))))))))) [2]) (.bin .add (.bin .mul (.lst (.cons (.str "row") .nil)) (.int 7)) (.lst (.cons (.str "done") .nil)))) (.cons (.ret (.bl false)) .nil) .nil) (.cons (.ife (.or (.cmp .ne (.comp f_law_k16_s12 (.one 2) (.seq (.tup (.cons .non (.cons (.bin .sub (.int 0) (.int 1)) (.cons (.int 101) (.cons (.bl true) .nil)))))) [2]) (.bin .mul (.lst (.cons (.str "number") .nil)) (.int 4))) (.or1 (.cmp .ne (.comp f_law_k16_s11 (.one 7) (.seq (.tup (.cons (.int 6) (.cons (.int 8) .nil)))) [7]) (.bin .mul (.lst (.cons (.str "number") .nil)) (.int 2))))) (.cons (.ret (.bl false)) .nil) .nil) (.cons (.ret (.call .f_law_counts (.cons (.var 1) .nil))) .nil)))))))))))⟩
def Bf_law_k17 : FDef Fn := ⟨1, 5,
  (.cons (.set 1 (.call .f_law_start (.cons (.var 0) .nil))) (.cons (.set 2 (.lst (.cons (.tup (.cons (.int 0) (.cons (.int 0) .nil))) (.cons (.tup (.cons (.int 1) (.cons (.int 0) .nil))) (.cons (.tup (.cons (.int 2) (.cons (.int 1) .nil))) .nil))))) (.cons (.ife (.or (.not (.call .f_law_first (.cons (.var 2) .nil))) (.or1 (.not (.call .f_law_second (.cons (.var 2) .nil))))) (.cons (.ret (.bl false)) .nil) .nil) (.cons (.set 3 (.mkS .f_Strip)) (.cons (.ife (.or (.cmp .ne (.meth .m_add 3 (.cons (.tup (.cons (.int 0) (.cons (.int 0) .nil))) .nil)) (.int 1)) (.or1 (.cmp .ne (.meth0 .m_line 3) (.tup (.cons (.int 0) (.cons (.int 1) (.cons (.int 0) .nil))))))) (.cons (.ret (.bl false)) .nil) .nil) (.cons (.set 4 (.call .f_law_draw (.cons (.var 1) (.cons (.int 1000) .nil)))) (.cons (.ret (.and (.cmp .eq (.call .f_height_at (.cons (.tup (.cons (.int 1) (.cons (.int 2) (.cons (.int 0) .nil)))) (.cons (.var 4) .nil))) (.bin .fdiv (.var 4) (.int 2))) (.and1 (.cmp .eq (.call .f_heights_at (.cons (.lst (.cons (.tup (.cons (.int 0) (.cons (.int 0) .nil))) (.cons (.tup (.cons (.int 1) (.cons (.int 0) .nil))) .nil))) (.cons (.int 0) .nil))) (.lst (.cons (.int 0) .nil)))))) .nil)))))))⟩
def f_law_k18_s1 : ME Fn := (.cmp .gt (.call .f_law_draw (.cons (.var 1) (.cons (.int 3) .nil))) (.int 0))
def f_law_k18_s2 : ME Fn := (.var 10)
def f_law_k18_s3 : ME Fn := (.cmp .nin (.var 10) (.var 3))
def f_law_k18_s4 : ME Fn := (.cmp .eq (.compIf f_law_k18_s2 (.one 10) (.seq (.var 11)) f_law_k18_s3 [10]) (.lst .nil))
def f_law_k18_s5 : ME Fn := (.var 11)
def f_law_k18_s6 : ME Fn := (.cmp .nin (.ix (.var 2) (.var 12)) (.var 3))
def f_law_k18_s7 : ME Fn := (.var 12)
def Bf_law_k18 : FDef Fn := ⟨1, 13,
  (.cons (.set 1 (.call .f_law_start (.cons (.var 0) .nil))) (.cons (.set 2 (.call .f_law_points (.cons (.var 1) (.cons (.int 10) .nil)))) (.cons (.set 3 (.compIf f_law_k18_s2 (.one 10) (.seq (.var 2)) f_law_k18_s1 [10])) (.cons (.ife (.cmp .eq (.var 3) (.lst .nil)) (.cons (.set 3 (.lst (.cons (.ix (.var 2) (.int 0)) .nil))) .nil) .nil) (.cons (.set 4 (.compIf f_law_k18_s5 (.one 11) (.seq (.call .f_all_clashes (.cons (.var 2) .nil))) f_law_k18_s4 [11])) (.cons (.ife (.cmp .ne (.call .f_all_clashes (.cons (.var 3) .nil)) (.var 4)) (.cons (.ret (.bl false)) .nil) .nil) (.cons (.set 5 (.compIf f_law_k18_s7 (.one 12) (.range1 (.bcall .len (.cons (.var 2) .nil))) f_law_k18_s6 [12])) (.cons (.ife (.not (.call .f_law_true (.cons (.call .f_is_enough (.cons (.var 2) (.cons (.var 5) .nil))) (.cons (.call .f_is_straight (.cons (.var 3) .nil)) .nil)))) (.cons (.ret (.bl false)) .nil) .nil) (.cons (.ife (.or (.cmp .gt (.ix (.call .f_count_wrong (.cons (.var 3) .nil)) (.int 0)) (.ix (.call .f_count_wrong (.cons (.var 2) .nil)) (.int 0))) (.or1 (.cmp .gt (.ix (.call .f_count_wrong (.cons (.var 2) .nil)) (.int 0)) (.bin .add (.ix (.call .f_count_wrong (.cons (.var 3) .nil)) (.int 0)) (.bcall .len (.cons (.var 5) .nil)))))) (.cons (.ret (.bl false)) .nil) .nil) (.cons (.ife (.cmp .isn (.call .f_is_straight (.cons (.var 2) .nil)) (.bl true)) (.cons (.ret (.bl true)) .nil) .nil) (.cons (.ife (.or (.cmp .isn (.call .f_is_straight (.cons (.var 3) .nil)) (.bl true)) (.or1 (.cmp .isn (.call .f_explains (.cons (.call .f_leanest_line (.cons (.var 2) .nil)) (.cons (.var 3) .nil))) (.bl true)))) (.cons (.ret (.bl false)) .nil) .nil) (.cons (.unp [6, 7] (.call .f_slopes (.cons (.var 2) .nil))) (.cons (.unp [8, 9] (.call .f_slopes (.cons (.var 3) .nil))) (.cons (.ife (.and (.cmp .isn (.var 8) .non) (.and1 (.or (.cmp .gt (.bin .mul (.ix (.var 8) (.int 0)) (.ix (.var 6) (.int 1))) (.bin .mul (.ix (.var 6) (.int 0)) (.ix (.var 8) (.int 1)))) (.or1 (.cmp .lt (.bin .mul (.ix (.var 9) (.int 0)) (.ix (.var 7) (.int 1))) (.bin .mul (.ix (.var 7) (.int 0)) (.ix (.var 9) (.int 1)))))))) (.cons (.ret (.bl false)) .nil) .nil) (.cons (.ret (.cmp .le (.ix (.call .f_leanest_line (.cons (.var 3) .nil)) (.int 1)) (.ix (.call .f_leanest_line (.cons (.var 2) .nil)) (.int 1)))) .nil)))))))))))))))⟩
def f_law_k19_s1 : ME Fn := (.tup (.cons (.var 15) (.cons (.call .f_law_height (.cons (.var 2) (.cons (.var 15) .nil))) .nil)))
def Bf_law_k19 : FDef Fn := ⟨1, 16,
  (.cons (.set 1 (.call .f_law_start (.cons (.var 0) .nil))) (.cons (.set 2 (.call .f_law_line (.cons (.var 1) .nil))) (.cons (.set 3 (.comp f_law_k19_s1 (.one 15) (.seq (.call .f_law_xs (.cons (.var 1) (.cons (.int 9) .nil)))) [15])) (.cons (.unp [7, 8, 9] (.call .f_leanest_line (.cons (.var 3) .nil))) (.cons (.par [10, 11, 12] (.cons (.bin .sub (.call .f_law_draw (.cons (.var 1) (.cons (.int 100) .nil))) (.int 50)) (.cons (.bin .sub (.call .f_law_draw (.cons (.var 1) (.cons (.int 100) .nil))) (.int 50)) (.cons (.bin .sub (.call .f_law_draw (.cons (.var 1) (.cons (.int 7) .nil))) (.int 3)) .nil)))) (.cons (.ife (.cmp .isn (.call .f_explains (.cons (.tup (.cons (.var 7) (.cons (.var 8) (.cons (.bin .sub (.bin .add (.var 9) (.bin .mul (.var 8) (.var 11))) (.bin .mul (.var 7) (.var 10))) .nil)))) (.cons (.call .f_moved (.cons (.var 3) (.cons (.var 10) (.cons (.var 11) .nil)))) .nil))) (.bl true)) (.cons (.ret (.bl false)) .nil) .nil) (.cons (.ife (.cmp .ne (.call .f_leanest_line (.cons (.call .f_moved (.cons (.var 3) (.cons (.var 10) (.cons (.var 11) .nil)))) .nil)) (.tup (.cons (.var 7) (.cons (.var 8) (.cons (.bin .sub (.bin .add (.var 9) (.bin .mul (.var 8) (.var 11))) (.bin .mul (.var 7) (.var 10))) .nil))))) (.cons (.ret (.bl false)) .nil) .nil) (.cons (.set 4 (.call .f_leanest_line (.cons (.call .f_sheared (.cons (.var 3) (.cons (.var 12) .nil))) .nil))) (.cons (.ife (.or (.cmp .ne (.ix (.var 4) (.int 1)) (.var 8)) (.or1 (.and (.cmp .gt (.var 8) (.int 1)) (.and1 (.cmp .ne (.var 4) (.tup (.cons (.bin .add (.var 7) (.bin .mul (.var 12) (.var 8))) (.cons (.var 8) (.cons (.var 9) .nil))))))))) (.cons (.ret (.bl false)) .nil) .nil) (.cons (.ife (.cmp .isn (.call .f_explains (.cons (.tup (.cons (.bin .add (.var 7) (.bin .mul (.var 12) (.var 8))) (.cons (.var 8) (.cons (.var 9) .nil)))) (.cons (.call .f_sheared (.cons (.var 3) (.cons (.var 12) .nil))) .nil))) (.bl true)) (.cons (.ret (.bl false)) .nil) .nil) (.cons (.set 5 (.call .f_leanest_line (.cons (.call .f_turned_over (.cons (.var 3) .nil)) .nil))) (.cons (.unp [13, 14] (.call .f_offsets_for (.cons (.var 3) (.cons (.tup (.cons (.var 7) (.cons (.var 8) .nil))) .nil)))) (.cons (.ife (.or (.cmp .ne (.sl (.var 5) .non (.some (.int 2))) (.tup (.cons (.bin .sub (.int 0) (.var 7)) (.cons (.var 8) .nil)))) (.or (.cmp .ne (.ix (.var 5) (.int 2)) (.bin .sub (.bin .sub (.var 8) (.int 1)) (.var 14))) (.or1 (.cmp .ne (.var 13) (.var 9))))) (.cons (.ret (.bl false)) .nil) .nil) (.cons (.set 6 (.call .f_leanest_line (.cons (.call .f_backward (.cons (.var 3) .nil)) .nil))) (.cons (.ife (.cmp .ne (.var 6) (.tup (.cons (.bin .sub (.int 0) (.var 7)) (.cons (.var 8) (.cons (.var 9) .nil))))) (.cons (.ret (.bl false)) .nil) .nil) (.cons (.ife (.cmp .ne (.call .f_offsets_for (.cons (.call .f_backward (.cons (.var 3) .nil)) (.cons (.tup (.cons (.bin .sub (.int 0) (.var 7)) (.cons (.var 8) .nil))) .nil))) (.tup (.cons (.var 13) (.cons (.var 14) .nil)))) (.cons (.ret (.bl false)) .nil) .nil) (.cons (.ret (.cmp .eq (.call .f_offsets_for (.cons (.call .f_sheared (.cons (.var 3) (.cons (.var 12) .nil))) (.cons (.tup (.cons (.bin .add (.var 7) (.bin .mul (.var 12) (.var 8))) (.cons (.var 8) .nil))) .nil))) (.tup (.cons (.var 13) (.cons (.var 14) .nil))))) .nil)))))))))))))))))⟩
def f_law_k20_s1 : ME Fn := (.call .f_height_at (.cons (.var 2) (.cons (.var 10) .nil)))
def f_law_k20_s2 : ME Fn := (.call .f_law_height (.cons (.var 2) (.cons (.var 10) .nil)))
def f_law_k20_s3 : MB Fn := (.cons (.unp [11, 12] (.call .f_window_sums (.cons (.var 4) (.cons (.var 5) .nil)))) (.cons (.set 7 (.bin .mul (.ix (.var 2) (.int 0)) (.var 5))) (.cons (.ife (.or (.cmp .lt (.var 11) (.bin .fdiv (.var 7) (.ix (.var 2) (.int 1)))) (.or1 (.cmp .gt (.var 12) (.bin .sub (.int 0) (.bin .fdiv (.bin .sub (.int 0) (.var 7)) (.ix (.var 2) (.int 1))))))) (.cons (.ret (.bl false)) .nil) .nil) .nil)))
def Bf_law_k20 : FDef Fn := ⟨1, 13,
  (.cons (.set 1 (.call .f_law_start (.cons (.var 0) .nil))) (.cons (.set 2 (.call .f_law_line (.cons (.var 1) .nil))) (.cons (.set 3 (.bin .add (.int 1) (.call .f_law_draw (.cons (.var 1) (.cons (.int 20) .nil))))) (.cons (.set 4 (.comp f_law_k20_s1 (.one 10) (.range1 (.var 3)) [10])) (.cons (.ife (.or (.cmp .ne (.var 4) (.comp f_law_k20_s2 (.one 10) (.range1 (.var 3)) [10])) (.or (.cmp .isn (.call .f_is_straight_row (.cons (.var 4) .nil)) (.bl true)) (.or1 (.cmp .ne (.call .f_pieces (.cons (.var 4) .nil)) (.lst (.cons (.var 3) .nil)))))) (.cons (.ret (.bl false)) .nil) .nil) (.cons (.ife (.or (.cmp .isn (.call .f_uneven (.cons (.var 4) .nil)) .non) (.or (.cmp .ne (.call .f_corners (.cons (.var 4) .nil)) (.lst .nil)) (.or1 (.cmp .isn (.call .f_explains (.cons (.var 2) (.cons (.call .f_points_of (.cons (.var 4) .nil)) .nil))) (.bl true))))) (.cons (.ret (.bl false)) .nil) .nil) (.cons (.for_ (.one 5) (.range2 (.int 1) (.var 3)) f_law_k20_s3) (.cons (.ife (.cmp .gt (.var 3) (.int 1)) (.cons (.set 8 (.call .f_next_heights (.cons (.var 4) .nil))) (.cons (.ife (.or (.cmp .nin (.call .f_law_height (.cons (.var 2) (.cons (.var 3) .nil))) (.var 8)) (.or1 (.cmp .nin (.call .f_law_height (.cons (.var 2) (.cons (.bin .add (.var 3) (.int 3)) .nil))) (.call .f_heights_at (.cons (.call .f_points_of (.cons (.var 4) .nil)) (.cons (.bin .add (.var 3) (.int 3)) .nil)))))) (.cons (.ret (.bl false)) .nil) .nil) (.cons (.set 9 (.call .f_certain_heights (.cons (.call .f_points_of (.cons (.var 4) .nil)) (.cons (.int 0) (.cons (.var 3) .nil))))) (.cons (.ife (.or (.cmp .ne (.sl (.var 9) .non (.some (.var 3))) (.var 4)) (.or1 (.cmp .nin (.ix (.var 9) (.var 3)) (.lst (.cons .non (.cons (.ix (.var 8) (.int 0)) .nil)))))) (.cons (.ret (.bl false)) .nil) .nil) .nil)))) .nil) (.cons (.set 6 (.call .f_every (.cons (.call .f_points_of (.cons (.var 4) .nil)) (.cons (.bin .add (.int 1) (.call .f_law_draw (.cons (.var 1) (.cons (.var 3) .nil)))) (.cons (.call .f_law_draw (.cons (.var 1) (.cons (.var 3) .nil))) .nil))))) (.cons (.ret (.and (.cmp .is_ (.call .f_is_straight (.cons (.var 6) .nil)) (.bl true)) (.and1 (.cmp .eq (.call .f_fewest_wrong (.cons (.call .f_points_of (.cons (.sl (.var 4) .non (.some (.int 10))) .nil)) .nil)) (.tup .nil))))) .nil))))))))))⟩
def f_law_k21_s1 : ME Fn := (.bin .sub (.var 15) (.ix (.var 7) (.neg (.int 1))))
def f_law_k21_s2 : ME Fn := (.cmp .in_ (.var 11) (.var 8))
def f_law_k21_s3 : ME Fn := (.var 11)
def f_law_k21_s4 : ME Fn := (.cmp .is_ (.call .f_uneven (.cons (.bin .add (.var 7) (.lst (.cons (.bin .add (.ix (.var 7) (.neg (.int 1))) (.var 11)) .nil))) .nil)) .non)
def f_law_k21_s5 : MB Fn := (.cons (.ife (.cmp .ne (.call .f_steps_at (.cons (.bin .add (.var 2) (.int 1)) (.cons (.call .f_rank_of (.cons (.bin .add (.var 3) (.tup (.cons (.var 11) .nil))) .nil)) .nil))) (.bin .add (.var 3) (.tup (.cons (.var 11) .nil)))) (.cons (.ret (.bl false)) .nil) .nil) .nil)
def f_law_k21_s6 : ME Fn := (.bin .sub (.int 1) (.var 11))
def Bf_law_k21 : FDef Fn := ⟨1, 16,
  (.cons (.set 1 (.call .f_law_start (.cons (.var 0) .nil))) (.cons (.set 2 (.bin .add (.int 1) (.call .f_law_draw (.cons (.var 1) (.cons (.int 7) .nil))))) (.cons (.set 3 (.call .f_steps_at (.cons (.var 2) (.cons (.call .f_law_draw (.cons (.var 1) (.cons (.call .f_count_rows (.cons (.var 2) .nil)) .nil))) .nil)))) (.cons (.set 4 (.call .f_law_draw (.cons (.var 1) (.cons (.var 2) .nil)))) (.cons (.set 5 (.bin .add (.var 4) (.call .f_law_draw (.cons (.var 1) (.cons (.bin .add (.bin .sub (.var 2) (.var 4)) (.int 1)) .nil))))) (.cons (.set 6 (.sl (.var 3) (.some (.var 4)) (.some (.var 5)))) (.cons (.ife (.not (.chain .le .lt (.int 0) (.call .f_rank_of (.cons (.var 6) .nil)) (.call .f_count_rows (.cons (.bcall .len (.cons (.var 6) .nil)) .nil)))) (.cons (.ret (.bl false)) .nil) .nil) (.cons (.set 7 (.call .f_row_of (.cons (.int 0) (.cons (.bcall .list (.cons (.var 3) .nil)) .nil)))) (.cons (.set 8 (.comp f_law_k21_s1 (.one 15) (.seq (.call .f_next_heights (.cons (.var 7) .nil))) [15])) (.cons (.set 9 (.compIf f_law_k21_s3 (.one 11) (.seq (.tup (.cons (.int 0) (.cons (.int 1) .nil)))) f_law_k21_s2 [11])) (.cons (.set 10 (.compIf f_law_k21_s3 (.one 11) (.seq (.tup (.cons (.int 0) (.cons (.int 1) .nil)))) f_law_k21_s4 [11])) (.cons (.ife (.or (.cmp .eq (.var 9) (.lst .nil)) (.or1 (.cmp .ne (.var 10) (.var 9)))) (.cons (.ret (.bl false)) .nil) .nil) (.cons (.for_ (.one 11) (.seq (.var 9)) f_law_k21_s5) (.cons (.set 12 (.slS (.var 3) .non (.neg (.int 1)))) (.cons (.set 13 (.bcall .tuple (.cons (.comp f_law_k21_s6 (.one 11) (.seq (.var 3)) [11]) .nil))) (.cons (.ife (.or (.cmp .ne (.call .f_steps_at (.cons (.var 2) (.cons (.call .f_rank_of (.cons (.var 12) .nil)) .nil))) (.var 12)) (.or1 (.cmp .ne (.call .f_rank_of (.cons (.var 13) .nil)) (.bin .sub (.bin .sub (.call .f_count_rows (.cons (.var 2) .nil)) (.int 1)) (.call .f_rank_of (.cons (.var 3) .nil)))))) (.cons (.ret (.bl false)) .nil) .nil) (.cons (.set 14 (.call .f_rank_of (.cons (.var 3) .nil))) (.cons (.ret (.or (.cmp .eq (.var 14) (.int 0)) (.or1 (.cmp .lt (.call .f_steps_at (.cons (.var 2) (.cons (.bin .sub (.var 14) (.int 1)) .nil))) (.var 3))))) .nil))))))))))))))))))⟩
def Bf_is_fraction : FDef Fn := ⟨1, 1,
  (.cons (.ife (.or (.not (.isi (.var 0) .tuple)) (.or (.cmp .ne (.bcall .len (.cons (.var 0) .nil)) (.int 2)) (.or1 (.not (.call .f_is_int (.cons (.ix (.var 0) (.int 0)) (.cons (.neg (.gint "MOST_LINE" 1000000000)) (.cons (.gint "MOST_LINE" 1000000000) .nil)))))))) (.cons (.ret (.bl false)) .nil) .nil) (.cons (.ret (.and (.call .f_is_int (.cons (.ix (.var 0) (.int 1)) (.cons (.int 1) (.cons (.gint "MOST_LINE" 1000000000) .nil)))) (.and1 (.cmp .eq (.call .f_common (.cons (.ix (.var 0) (.int 0)) (.cons (.ix (.var 0) (.int 1)) .nil))) (.int 1))))) .nil))⟩
def Bf_check_fraction : FDef Fn := ⟨1, 1,
  (.cons (.ife (.not (.call .f_is_fraction (.cons (.var 0) .nil))) (.cons (.raise 3) .nil) .nil) .nil)⟩
def Bf_simplest_in : FDef Fn := ⟨2, 9,
  (.cons (.set 2 (.bin .add (.bin .fdiv (.ix (.var 0) (.int 0)) (.ix (.var 0) (.int 1))) (.int 1))) (.cons (.ife (.cmp .lt (.bin .mul (.var 2) (.ix (.var 1) (.int 1))) (.ix (.var 1) (.int 0))) (.cons (.ife (.chain .lt .lt (.ix (.var 0) (.int 0)) (.int 0) (.ix (.var 1) (.int 0))) (.cons (.ret (.tup (.cons (.int 0) (.cons (.int 1) .nil)))) .nil) .nil) (.cons (.set 7 (.bin .sub (.neg (.bin .fdiv (.neg (.ix (.var 1) (.int 0))) (.ix (.var 1) (.int 1)))) (.int 1))) (.cons (.ret (.ite (.cmp .ge (.ix (.var 0) (.int 0)) (.int 0)) (.tup (.cons (.var 2) (.cons (.int 1) .nil))) (.tup (.cons (.var 7) (.cons (.int 1) .nil))))) .nil))) .nil) (.cons (.set 3 (.bin .sub (.var 2) (.int 1))) (.cons (.set 4 (.tup (.cons (.bin .sub (.ix (.var 0) (.int 0)) (.bin .mul (.var 3) (.ix (.var 0) (.int 1)))) (.cons (.ix (.var 0) (.int 1)) .nil)))) (.cons (.set 5 (.tup (.cons (.bin .sub (.ix (.var 1) (.int 0)) (.bin .mul (.var 3) (.ix (.var 1) (.int 1)))) (.cons (.ix (.var 1) (.int 1)) .nil)))) (.cons (.ife (.cmp .eq (.ix (.var 4) (.int 0)) (.int 0)) (.cons (.set 8 (.bin .add (.bin .fdiv (.ix (.var 5) (.int 1)) (.ix (.var 5) (.int 0))) (.int 1))) (.cons (.ret (.call .f_lowest (.cons (.bin .add (.bin .mul (.var 3) (.var 8)) (.int 1)) (.cons (.var 8) .nil)))) .nil)) .nil) (.cons (.set 6 (.call .f_simplest_in (.cons (.tup (.cons (.ix (.var 5) (.int 1)) (.cons (.ix (.var 5) (.int 0)) .nil))) (.cons (.tup (.cons (.ix (.var 4) (.int 1)) (.cons (.ix (.var 4) (.int 0)) .nil))) .nil)))) (.cons (.ret (.call .f_lowest (.cons (.bin .add (.bin .mul (.var 3) (.ix (.var 6) (.int 0))) (.ix (.var 6) (.int 1))) (.cons (.ix (.var 6) (.int 0)) .nil)))) .nil))))))))⟩
def Bf_height_at : FDef Fn := ⟨2, 2,
  (.cons (.expr (.call .f_check_line (.cons (.var 0) .nil))) (.cons (.ife (.not (.call .f_is_int (.cons (.var 1) (.cons (.neg (.gint "MOST_LINE" 1000000000)) (.cons (.gint "MOST_LINE" 1000000000) .nil))))) (.cons (.raise 3) .nil) .nil) (.cons (.ret (.bin .fdiv (.bin .add (.bin .mul (.ix (.var 0) (.int 0)) (.var 1)) (.ix (.var 0) (.int 2))) (.ix (.var 0) (.int 1)))) .nil)))⟩
def f_offsets_s1 : ME Fn := (.bin .sub (.bin .mul (.var 5) (.var 7)) (.bin .mul (.var 4) (.var 6)))
def f_offsets_s2 : ME Fn := (.bin .sub (.bin .mul (.var 5) (.bin .add (.var 7) (.int 1))) (.bin .mul (.var 4) (.var 6)))
def Bf_offsets : FDef Fn := ⟨2, 8,
  (.cons (.unp [4, 5] (.var 1)) (.cons (.set 2 (.bcall .max (.cons (.comp f_offsets_s1 (.tup [6, 7]) (.seq (.var 0)) [6, 7]) .nil))) (.cons (.set 3 (.bin .sub (.bcall .min (.cons (.comp f_offsets_s2 (.tup [6, 7]) (.seq (.var 0)) [6, 7]) .nil)) (.int 1))) (.cons (.ret (.tup (.cons (.var 2) (.cons (.var 3) .nil)))) .nil))))⟩
def Bf_offsets_for : FDef Fn := ⟨2, 4,
  (.cons (.expr (.call .f_check_points (.cons (.var 0) .nil))) (.cons (.expr (.call .f_check_fraction (.cons (.var 1) .nil))) (.cons (.unp [2, 3] (.call .f_offsets (.cons (.var 0) (.cons (.var 1) .nil)))) (.cons (.ife (.cmp .gt (.var 2) (.var 3)) (.cons (.raise 6) .nil) .nil) (.cons (.ret (.tup (.cons (.var 2) (.cons (.var 3) .nil)))) .nil)))))⟩
def Bf_leanest : FDef Fn := ⟨1, 4,
  (.cons (.unp [2, 3] (.call .f_bounds (.cons (.var 0) .nil))) (.cons (.set 1 (.ite (.cmp .is_ (.var 2) .non) (.tup (.cons (.int 0) (.cons (.int 1) .nil))) (.call .f_simplest_in (.cons (.var 2) (.cons (.var 3) .nil))))) (.cons (.ret (.tup (.cons (.ix (.var 1) (.int 0)) (.cons (.ix (.var 1) (.int 1)) (.cons (.ix (.call .f_offsets (.cons (.var 0) (.cons (.var 1) .nil))) (.int 0)) .nil))))) .nil)))⟩
def Bf_leanest_line : FDef Fn := ⟨1, 1,
  (.cons (.expr (.call .f_check_points (.cons (.var 0) .nil))) (.cons (.expr (.call .f_check_straight (.cons (.var 0) .nil))) (.cons (.ret (.call .f_leanest (.cons (.var 0) .nil))) .nil)))⟩
def Bf_law_fits : FDef Fn := ⟨1, 3,
  (.cons (.unp [1, 2] (.call .f_law_bounds (.cons (.var 0) .nil))) (.cons (.ret (.or (.cmp .is_ (.var 1) .non) (.or1 (.cmp .lt (.bin .mul (.ix (.var 1) (.int 0)) (.ix (.var 2) (.int 1))) (.bin .mul (.ix (.var 2) (.int 0)) (.ix (.var 1) (.int 1))))))) .nil))⟩
def f_lines_with_s1 : ME Fn := (.tup (.cons (.var 3) (.cons (.var 1) (.cons (.var 8) .nil))))
def f_lines_with_s2 : MB Fn := (.cons (.ife (.cmp .eq (.call .f_common (.cons (.var 3) (.cons (.var 1) .nil))) (.int 1)) (.cons (.unp [6, 7] (.call .f_offsets (.cons (.var 0) (.cons (.tup (.cons (.var 3) (.cons (.var 1) .nil))) .nil)))) (.cons (.extO 2 (.comp f_lines_with_s1 (.one 8) (.range2 (.var 6) (.bin .add (.var 7) (.int 1))) [8])) .nil)) .nil) .nil)
def Bf_lines_with : FDef Fn := ⟨2, 9,
  (.cons (.expr (.call .f_check_points (.cons (.var 0) .nil))) (.cons (.ife (.not (.call .f_is_int (.cons (.var 1) (.cons (.int 1) (.cons (.int 100) .nil))))) (.cons (.raise 3) .nil) .nil) (.cons (.ife (.cmp .eq (.bcall .len (.cons (.var 0) .nil)) (.int 1)) (.cons (.raise 6) .nil) .nil) (.cons (.expr (.call .f_check_straight (.cons (.var 0) .nil))) (.cons (.unp [4, 5] (.call .f_bounds (.cons (.var 0) .nil))) (.cons (.setO 2 (.lst .nil)) (.cons (.for_ (.one 3) (.range2 (.bin .add (.bin .fdiv (.bin .mul (.ix (.var 4) (.int 0)) (.var 1)) (.ix (.var 4) (.int 1))) (.int 1)) (.neg (.bin .fdiv (.bin .mul (.neg (.ix (.var 5) (.int 0))) (.var 1)) (.ix (.var 5) (.int 1))))) f_lines_with_s2) (.frz 2 (.cons (.ret (.var 2)) .nil)))))))))⟩
def f_law_lines_s1 : ME Fn := (.bin .sub (.bin .mul (.var 1) (.var 10)) (.bin .mul (.var 5) (.var 9)))
def f_law_lines_s2 : ME Fn := (.bin .sub (.bin .mul (.var 1) (.bin .add (.var 10) (.int 1))) (.bin .mul (.var 5) (.var 9)))
def f_law_lines_s3 : ME Fn := (.tup (.cons (.var 5) (.cons (.var 1) (.cons (.var 8) .nil))))
def f_law_lines_s4 : MB Fn := (.cons (.ife (.cmp .eq (.call .f_law_common (.cons (.bcall .abs (.cons (.var 5) .nil)) (.cons (.var 1) .nil))) (.int 1)) (.cons (.set 6 (.bcall .max (.cons (.comp f_law_lines_s1 (.tup [9, 10]) (.seq (.var 0)) [9, 10]) .nil))) (.cons (.set 7 (.bcall .min (.cons (.comp f_law_lines_s2 (.tup [9, 10]) (.seq (.var 0)) [9, 10]) .nil))) (.cons (.set 4 (.bin .add (.var 4) (.comp f_law_lines_s3 (.one 8) (.range2 (.var 6) (.var 7)) [8]))) .nil))) .nil) .nil)
def Bf_law_lines : FDef Fn := ⟨4, 11,
  (.cons (.set 4 (.lst .nil)) (.cons (.for_ (.one 5) (.range2 (.bin .fdiv (.bin .mul (.ix (.var 2) (.int 0)) (.var 1)) (.ix (.var 2) (.int 1))) (.bin .add (.bin .fdiv (.bin .mul (.ix (.var 3) (.int 0)) (.var 1)) (.ix (.var 3) (.int 1))) (.int 1))) f_law_lines_s4) (.cons (.ret (.var 4)) .nil)))⟩
def Bf_simplest : FDef Fn := ⟨2, 2,
  (.cons (.expr (.call .f_check_fraction (.cons (.var 0) .nil))) (.cons (.expr (.call .f_check_fraction (.cons (.var 1) .nil))) (.cons (.ife (.not (.call .f_less (.cons (.var 0) (.cons (.var 1) .nil)))) (.cons (.raise 3) .nil) .nil) (.cons (.ret (.call .f_simplest_in (.cons (.var 0) (.cons (.var 1) .nil)))) .nil))))⟩
def f_triples_s1 : ME Fn := (.tup (.cons (.ix (.var 0) (.var 2)) (.cons (.ix (.var 0) (.var 3)) (.cons (.ix (.var 0) (.var 4)) .nil))))
def f_triples_s2 : MB Fn := (.cons (.extO 1 (.comp f_triples_s1 (.one 4) (.range2 (.bin .add (.var 3) (.int 1)) (.bcall .len (.cons (.var 0) .nil))) [4])) .nil)
def f_triples_s3 : MB Fn := (.cons (.for_ (.one 3) (.range2 (.bin .add (.var 2) (.int 1)) (.bcall .len (.cons (.var 0) .nil))) f_triples_s2) .nil)
def Bf_triples : FDef Fn := ⟨1, 5,
  (.cons (.setO 1 (.lst .nil)) (.cons (.for_ (.one 2) (.range1 (.bcall .len (.cons (.var 0) .nil))) f_triples_s3) (.frz 1 (.cons (.ret (.var 1)) .nil))))⟩
def f_clash_s1 : MB Fn := (.cons (.ife (.not (.call .f_straight (.cons (.bcall .list (.cons (.var 1) .nil)) .nil))) (.cons (.ret (.var 1)) .nil) .nil) .nil)
def Bf_clash : FDef Fn := ⟨1, 2,
  (.cons (.expr (.call .f_check_points (.cons (.var 0) .nil))) (.cons (.for_ (.one 1) (.seq (.call .f_triples (.cons (.var 0) .nil))) f_clash_s1) (.cons (.ret .non) .nil)))⟩
def f_all_clashes_s1 : ME Fn := (.not (.call .f_straight (.cons (.bcall .list (.cons (.var 1) .nil)) .nil)))
def f_all_clashes_s2 : ME Fn := (.var 1)
def Bf_all_clashes : FDef Fn := ⟨1, 2,
  (.cons (.expr (.call .f_check_points (.cons (.var 0) .nil))) (.cons (.ret (.compIf f_all_clashes_s2 (.one 1) (.seq (.call .f_triples (.cons (.var 0) .nil))) f_all_clashes_s1 [1])) .nil))⟩
def f_clashes_at_s1 : ME Fn := (.and (.cmp .in_ (.ix (.var 0) (.var 1)) (.var 2)) (.and1 (.not (.call .f_straight (.cons (.bcall .list (.cons (.var 2) .nil)) .nil)))))
def f_clashes_at_s2 : ME Fn := (.var 2)
def Bf_clashes_at : FDef Fn := ⟨2, 3,
  (.cons (.expr (.call .f_check_points (.cons (.var 0) .nil))) (.cons (.ife (.not (.call .f_is_int (.cons (.var 1) (.cons (.int 0) (.cons (.bin .sub (.bcall .len (.cons (.var 0) .nil)) (.int 1)) .nil))))) (.cons (.raise 3) .nil) .nil) (.cons (.ret (.bcall .len (.cons (.compIf f_clashes_at_s2 (.one 2) (.seq (.call .f_triples (.cons (.var 0) .nil))) f_clashes_at_s1 [2]) .nil))) .nil)))⟩
def f_law_groups_s1 : ME Fn := (.tup (.cons (.ix (.var 0) (.var 2)) (.cons (.ix (.var 0) (.var 3)) (.cons (.ix (.var 0) (.var 4)) .nil))))
def f_law_groups_s2 : MB Fn := (.cons (.set 1 (.bin .add (.var 1) (.comp f_law_groups_s1 (.one 4) (.range2 (.bin .add (.var 3) (.int 1)) (.bcall .len (.cons (.var 0) .nil))) [4]))) .nil)
def f_law_groups_s3 : MB Fn := (.cons (.for_ (.one 3) (.range2 (.bin .add (.var 2) (.int 1)) (.bcall .len (.cons (.var 0) .nil))) f_law_groups_s2) .nil)
def Bf_law_groups : FDef Fn := ⟨1, 5,
  (.cons (.set 1 (.lst .nil)) (.cons (.for_ (.one 2) (.range1 (.bcall .len (.cons (.var 0) .nil))) f_law_groups_s3) (.cons (.ret (.var 1)) .nil)))⟩
def f_is_row_s1 : ME Fn := (.call .f_is_int (.cons (.var 1) (.cons (.neg (.gint "MOST" 1000)) (.cons (.gint "MOST" 1000) .nil))))
def Bf_is_row : FDef Fn := ⟨1, 2,
  (.cons (.ife (.or (.not (.isi (.var 0) .list)) (.or1 (.not (.chain .le .le (.int 1) (.bcall .len (.cons (.var 0) .nil)) (.gint "MOST_POINTS" 20))))) (.cons (.ret (.bl false)) .nil) .nil) (.cons (.ret (.bcall .all (.cons (.comp f_is_row_s1 (.one 1) (.seq (.var 0)) [1]) .nil))) .nil))⟩
def Bf_check_row : FDef Fn := ⟨1, 1,
  (.cons (.ife (.not (.call .f_is_row (.cons (.var 0) .nil))) (.cons (.raise 1) .nil) .nil) .nil)⟩
def Bf_as_points : FDef Fn := ⟨1, 1,
  (.cons (.ret (.lenum (.var 0))) .nil)⟩
def Bf_points_of : FDef Fn := ⟨1, 1,
  (.cons (.expr (.call .f_check_row (.cons (.var 0) .nil))) (.cons (.ret (.call .f_as_points (.cons (.var 0) .nil))) .nil))⟩
def Bf_is_straight_row : FDef Fn := ⟨1, 1,
  (.cons (.expr (.call .f_check_row (.cons (.var 0) .nil))) (.cons (.ret (.call .f_straight (.cons (.call .f_as_points (.cons (.var 0) .nil)) .nil))) .nil))⟩
def f_differences_s1 : ME Fn := (.bin .sub (.ix (.var 0) (.bin .add (.var 1) (.int 1))) (.ix (.var 0) (.var 1)))
def Bf_differences : FDef Fn := ⟨1, 2,
  (.cons (.ret (.comp f_differences_s1 (.one 1) (.range1 (.bin .sub (.bcall .len (.cons (.var 0) .nil)) (.int 1))) [1])) .nil)⟩
def Bf_steps_of : FDef Fn := ⟨1, 1,
  (.cons (.expr (.call .f_check_row (.cons (.var 0) .nil))) (.cons (.ret (.call .f_differences (.cons (.var 0) .nil))) .nil))⟩
def f_row_of_s1 : ME Fn := (.call .f_is_int (.cons (.var 3) (.cons (.neg (.int 2000)) (.cons (.int 2000) .nil))))
def f_row_of_s2 : MB Fn := (.cons (.app 2 (.bin .add (.ixO 2 (.neg (.int 1))) (.var 3))) .nil)
def Bf_row_of : FDef Fn := ⟨2, 4,
  (.cons (.ife (.not (.call .f_is_int (.cons (.var 0) (.cons (.neg (.int 1000)) (.cons (.int 1000) .nil))))) (.cons (.raise 3) .nil) .nil) (.cons (.ife (.or (.not (.isi (.var 1) .list)) (.or1 (.not (.bcall .all (.cons (.comp f_row_of_s1 (.one 3) (.seq (.var 1)) [3]) .nil))))) (.cons (.raise 1) .nil) .nil) (.cons (.setO 2 (.lst (.cons (.var 0) .nil))) (.cons (.for_ (.one 3) (.seq (.var 1)) f_row_of_s2) (.frz 2 (.cons (.expr (.call .f_check_row (.cons (.var 2) .nil))) (.cons (.ret (.var 2)) .nil)))))))⟩
def f_window_sums_s1 : ME Fn := (.bin .sub (.ix (.var 0) (.bin .add (.var 3) (.var 1))) (.ix (.var 0) (.var 3)))
def Bf_window_sums : FDef Fn := ⟨2, 4,
  (.cons (.expr (.call .f_check_row (.cons (.var 0) .nil))) (.cons (.ife (.not (.call .f_is_int (.cons (.var 1) (.cons (.int 1) (.cons (.bin .sub (.bcall .len (.cons (.var 0) .nil)) (.int 1)) .nil))))) (.cons (.raise 3) .nil) .nil) (.cons (.set 2 (.comp f_window_sums_s1 (.one 3) (.range1 (.bin .sub (.bcall .len (.cons (.var 0) .nil)) (.var 1))) [3])) (.cons (.ret (.tup (.cons (.bcall .min (.cons (.var 2) .nil)) (.cons (.bcall .max (.cons (.var 2) .nil)) .nil)))) .nil))))⟩
def f_uneven_s1 : ME Fn := (.bin .sub (.ix (.var 0) (.bin .add (.var 5) (.var 1))) (.ix (.var 0) (.var 5)))
def f_uneven_s2 : MB Fn := (.cons (.ife (.cmp .ge (.bcall .abs (.cons (.bin .sub (.ix (.var 2) (.var 3)) (.ix (.var 2) (.var 4))) .nil)) (.int 2)) (.cons (.ret (.tup (.cons (.var 1) (.cons (.var 3) (.cons (.var 4) .nil))))) .nil) .nil) .nil)
def f_uneven_s3 : MB Fn := (.cons (.for_ (.one 4) (.range2 (.bin .add (.var 3) (.int 1)) (.bcall .len (.cons (.var 2) .nil))) f_uneven_s2) .nil)
def f_uneven_s4 : MB Fn := (.cons (.set 2 (.comp f_uneven_s1 (.one 5) (.range1 (.bin .sub (.bcall .len (.cons (.var 0) .nil)) (.var 1))) [5])) (.cons (.for_ (.one 3) (.range1 (.bcall .len (.cons (.var 2) .nil))) f_uneven_s3) .nil))
def Bf_uneven : FDef Fn := ⟨1, 6,
  (.cons (.expr (.call .f_check_row (.cons (.var 0) .nil))) (.cons (.for_ (.one 1) (.range2 (.int 1) (.bcall .len (.cons (.var 0) .nil))) f_uneven_s4) (.cons (.ret .non) .nil)))⟩
def f_law_row_s1 : ME Fn := (.call .f_law_height (.cons (.var 2) (.cons (.var 6) .nil)))
def f_law_row_s2 : MB Fn := (.cons (.set 5 (.call .f_law_draw (.cons (.var 0) (.cons (.lenO 3) .nil)))) (.cons (.stO 3 (.var 5) (.bin .add (.ixO 3 (.var 5)) (.call .f_law_pick (.cons (.var 0) (.cons (.lst (.cons (.bin .sub (.int 0) (.int 1)) (.cons (.int 1) (.cons (.int 0) (.cons (.int 0) .nil))))) .nil))))) .nil))
def Bf_law_row : FDef Fn := ⟨2, 7,
  (.cons (.set 2 (.call .f_law_line (.cons (.var 0) .nil))) (.cons (.setO 3 (.comp f_law_row_s1 (.one 6) (.range1 (.bin .add (.int 1) (.call .f_law_draw (.cons (.var 0) (.cons (.var 1) .nil))))) [6])) (.cons (.for_ (.one 4) (.range1 (.call .f_law_draw (.cons (.var 0) (.cons (.int 3) .nil)))) f_law_row_s2) (.frz 3 (.cons (.ret (.var 3)) .nil)))))⟩
def f_with_point_s1 : ME Fn := (.cmp .ne (.ix (.var 3) (.int 0)) (.var 1))
def f_with_point_s2 : ME Fn := (.var 3)
def Bf_with_point : FDef Fn := ⟨3, 4,
  (.cons (.ret (.bcall .sorted (.cons (.bin .add (.compIf f_with_point_s2 (.one 3) (.seq (.var 0)) f_with_point_s1 [3]) (.lst (.cons (.tup (.cons (.var 1) (.cons (.var 2) .nil))) .nil))) .nil))) .nil)⟩
def f_possible_s1 : ME Fn := (.cmp .eq (.var 9) (.var 1))
def f_possible_s2 : ME Fn := (.var 10)
def f_possible_s3 : ME Fn := (.call .f_straight (.cons (.call .f_with_point (.cons (.var 0) (.cons (.var 1) (.cons (.bin .sub (.var 7) (.int 1)) .nil)))) .nil))
def f_possible_s4 : MB Fn := (.cons (.aug 7 .sub (.int 1)) .nil)
def f_possible_s5 : ME Fn := (.call .f_straight (.cons (.call .f_with_point (.cons (.var 0) (.cons (.var 1) (.cons (.bin .add (.var 8) (.int 1)) .nil)))) .nil))
def f_possible_s6 : MB Fn := (.cons (.aug 8 .add (.int 1)) .nil)
def Bf_possible : FDef Fn := ⟨2, 11,
  (.cons (.set 2 (.compIf f_possible_s2 (.tup [9, 10]) (.seq (.var 0)) f_possible_s1 [9, 10])) (.cons (.ife (.cmp .ne (.var 2) (.lst .nil)) (.cons (.ret (.var 2)) .nil) .nil) (.cons (.unp [4, 5, 6] (.call .f_leanest (.cons (.var 0) .nil))) (.cons (.set 3 (.bin .fdiv (.bin .add (.bin .mul (.var 4) (.var 1)) (.var 6)) (.var 5))) (.cons (.par [7, 8] (.cons (.var 3) (.cons (.var 3) .nil))) (.cons (.while_ f_possible_s3 f_possible_s4) (.cons (.while_ f_possible_s5 f_possible_s6) (.cons (.ret (.lrng (.var 7) (.bin .add (.var 8) (.int 1)))) .nil))))))))⟩
def Bf_check_two : FDef Fn := ⟨1, 1,
  (.cons (.ife (.cmp .lt (.bcall .len (.cons (.var 0) .nil)) (.int 2)) (.cons (.raise 6) .nil) .nil) .nil)⟩
def Bf_heights_at : FDef Fn := ⟨2, 2,
  (.cons (.expr (.call .f_check_points (.cons (.var 0) .nil))) (.cons (.ife (.not (.call .f_is_int (.cons (.var 1) (.cons (.neg (.gint "MOST" 1000)) (.cons (.gint "MOST" 1000) .nil))))) (.cons (.raise 3) .nil) .nil) (.cons (.expr (.call .f_check_straight (.cons (.var 0) .nil))) (.cons (.expr (.call .f_check_two (.cons (.var 0) .nil))) (.cons (.ret (.call .f_possible (.cons (.var 0) (.cons (.var 1) .nil)))) .nil)))))⟩
def Bf_next_heights : FDef Fn := ⟨1, 2,
  (.cons (.expr (.call .f_check_row (.cons (.var 0) .nil))) (.cons (.set 1 (.call .f_as_points (.cons (.var 0) .nil))) (.cons (.expr (.call .f_check_straight (.cons (.var 1) .nil))) (.cons (.expr (.call .f_check_two (.cons (.var 1) .nil))) (.cons (.ret (.call .f_possible (.cons (.var 1) (.cons (.bcall .len (.cons (.var 0) .nil)) .nil)))) .nil)))))⟩
def f_certain_heights_s1 : MB Fn := (.cons (.set 5 (.call .f_possible (.cons (.var 0) (.cons (.var 4) .nil)))) (.cons (.app 3 (.ite (.cmp .eq (.bcall .len (.cons (.var 5) .nil)) (.int 1)) (.ix (.var 5) (.int 0)) .non)) .nil))
def Bf_certain_heights : FDef Fn := ⟨3, 6,
  (.cons (.expr (.call .f_check_points (.cons (.var 0) .nil))) (.cons (.ife (.or (.not (.call .f_is_int (.cons (.var 1) (.cons (.neg (.gint "MOST" 1000)) (.cons (.gint "MOST" 1000) .nil))))) (.or1 (.not (.call .f_is_int (.cons (.var 2) (.cons (.var 1) (.cons (.bcall .min (.cons (.bin .add (.var 1) (.int 40)) (.cons (.gint "MOST" 1000) .nil))) .nil))))))) (.cons (.raise 3) .nil) .nil) (.cons (.expr (.call .f_check_straight (.cons (.var 0) .nil))) (.cons (.expr (.call .f_check_two (.cons (.var 0) .nil))) (.cons (.setO 3 (.lst .nil)) (.cons (.for_ (.one 4) (.range2 (.var 1) (.bin .add (.var 2) (.int 1))) f_certain_heights_s1) (.frz 3 (.cons (.ret (.var 3)) .nil))))))))⟩
def f_law_possible_s1 : ME Fn := (.var 4)
def f_law_possible_s2 : ME Fn := (.cmp .eq (.var 4) (.var 1))
def f_law_possible_s3 : ME Fn := (.var 3)
def f_law_possible_s4 : ME Fn := (.call .f_law_fits (.cons (.bcall .sorted (.cons (.bin .add (.var 0) (.lst (.cons (.tup (.cons (.var 1) (.cons (.var 3) .nil))) .nil))) .nil)) .nil))
def Bf_law_possible : FDef Fn := ⟨3, 5,
  (.cons (.ife (.cmp .in_ (.var 1) (.comp f_law_possible_s1 (.tup [4, 3]) (.seq (.var 0)) [4, 3])) (.cons (.ret (.compIf f_law_possible_s3 (.tup [4, 3]) (.seq (.var 0)) f_law_possible_s2 [4, 3])) .nil) .nil) (.cons (.ret (.compIf f_law_possible_s3 (.one 3) (.range2 (.bin .sub (.var 2) (.int 60)) (.bin .add (.var 2) (.int 61))) f_law_possible_s4 [3])) .nil))⟩
def f_without_divisor_s1 : ME Fn := (.cmp .eq (.call .f_common (.cons (.var 1) (.cons (.var 0) .nil))) (.int 1))
def f_without_divisor_s2 : ME Fn := (.var 1)
def Bf_without_divisor : FDef Fn := ⟨1, 2,
  (.cons (.ret (.bcall .len (.cons (.compIf f_without_divisor_s2 (.one 1) (.range2 (.int 1) (.bin .add (.var 0) (.int 1))) f_without_divisor_s1 [1]) .nil))) .nil)⟩
def f_count_rows_s1 : ME Fn := (.bin .mul (.bin .add (.bin .sub (.var 0) (.var 1)) (.int 1)) (.call .f_without_divisor (.cons (.var 1) .nil)))
def Bf_count_rows : FDef Fn := ⟨1, 2,
  (.cons (.ife (.not (.call .f_is_int (.cons (.var 0) (.cons (.int 0) (.cons (.gint "MOST_COUNT" 100) .nil))))) (.cons (.raise 3) .nil) .nil) (.cons (.ret (.bin .add (.int 1) (.bcall .sum (.cons (.comp f_count_rows_s1 (.one 1) (.range2 (.int 1) (.bin .add (.var 0) (.int 1))) [1]) .nil)))) .nil))⟩
def f_behind_s1 : MB Fn := (.cons (.app 2 (.bin .add (.ixO 2 (.neg (.int 1))) (.var 3))) .nil)
def Bf_behind : FDef Fn := ⟨2, 4,
  (.cons (.setO 2 (.lst (.cons (.var 0) .nil))) (.cons (.for_ (.one 3) (.seq (.var 1)) f_behind_s1) (.frz 2 (.cons (.ret (.var 2)) .nil))))⟩
def f_longer_s1 : MB Fn := (.cons (.par [11, 12] (.cons (.bin .sub (.bcall .len (.cons (.var 0) .nil)) (.var 9)) (.cons (.bin .sub (.ix (.var 6) (.neg (.int 1))) (.var 10)) .nil))) (.cons (.set 7 (.ite (.call .f_less (.cons (.var 7) (.cons (.tup (.cons (.bin .sub (.var 12) (.int 1)) (.cons (.var 11) .nil))) .nil))) (.tup (.cons (.bin .sub (.var 12) (.int 1)) (.cons (.var 11) .nil))) (.var 7))) (.cons (.set 8 (.ite (.call .f_less (.cons (.tup (.cons (.bin .add (.var 12) (.int 1)) (.cons (.var 11) .nil))) (.cons (.var 8) .nil))) (.tup (.cons (.bin .add (.var 12) (.int 1)) (.cons (.var 11) .nil))) (.var 8))) .nil)))
def f_longer_s2 : MB Fn := (.cons (.set 6 (.bin .add (.var 0) (.lst (.cons (.bin .add (.ix (.var 0) (.neg (.int 1))) (.var 5)) .nil)))) (.cons (.par [7, 8] (.cons (.var 1) (.cons (.var 2) .nil))) (.cons (.for_ (.tup [9, 10]) (.enum (.var 0)) f_longer_s1) (.cons (.ife (.call .f_less (.cons (.var 7) (.cons (.var 8) .nil))) (.cons (.extO 4 (.call .f_longer (.cons (.var 6) (.cons (.var 7) (.cons (.var 8) (.cons (.var 3) .nil)))))) .nil) .nil) .nil))))
def Bf_longer : FDef Fn := ⟨4, 13,
  (.cons (.ife (.cmp .eq (.bcall .len (.cons (.var 0) .nil)) (.bin .add (.var 3) (.int 1))) (.cons (.ret (.lst (.cons (.var 0) .nil))) .nil) .nil) (.cons (.setO 4 (.lst .nil)) (.cons (.for_ (.one 5) (.seq (.tup (.cons (.int 0) (.cons (.int 1) .nil)))) f_longer_s2) (.frz 4 (.cons (.ret (.var 4)) .nil)))))⟩
def f_all_rows_s1 : ME Fn := (.bin .sub (.ix (.var 2) (.bin .add (.var 3) (.int 1))) (.ix (.var 2) (.var 3)))
def f_all_rows_s2 : ME Fn := (.bcall .tuple (.cons (.comp f_all_rows_s1 (.one 3) (.range1 (.var 0)) [3]) .nil))
def Bf_all_rows : FDef Fn := ⟨1, 4,
  (.cons (.set 1 (.call .f_longer (.cons (.lst (.cons (.int 0) .nil)) (.cons (.tup (.cons (.neg (.int 1)) (.cons (.int 1) .nil))) (.cons (.tup (.cons (.int 2) (.cons (.int 1) .nil))) (.cons (.var 0) .nil)))))) (.cons (.ret (.comp f_all_rows_s2 (.one 2) (.seq (.var 1)) [2])) .nil))⟩
def Bf_check_length : FDef Fn := ⟨1, 1,
  (.cons (.ife (.not (.call .f_is_int (.cons (.var 0) (.cons (.int 0) (.cons (.gint "MOST_STEPS" 10) .nil))))) (.cons (.raise 3) .nil) .nil) .nil)⟩
def Bf_step_rows : FDef Fn := ⟨1, 1,
  (.cons (.expr (.call .f_check_length (.cons (.var 0) .nil))) (.cons (.ret (.call .f_all_rows (.cons (.var 0) .nil))) .nil))⟩
def f_check_steps_s1 : ME Fn := (.call .f_is_int (.cons (.var 1) (.cons (.int 0) (.cons (.int 1) .nil))))
def Bf_check_steps : FDef Fn := ⟨1, 2,
  (.cons (.ife (.or (.not (.isi (.var 0) .tuple)) (.or (.cmp .gt (.bcall .len (.cons (.var 0) .nil)) (.gint "MOST_STEPS" 10)) (.or1 (.not (.bcall .all (.cons (.comp f_check_steps_s1 (.one 1) (.seq (.var 0)) [1]) .nil)))))) (.cons (.raise 1) .nil) .nil) (.cons (.ife (.not (.call .f_straight (.cons (.call .f_as_points (.cons (.call .f_behind (.cons (.int 0) (.cons (.var 0) .nil))) .nil)) .nil))) (.cons (.raise 1) .nil) .nil) .nil))⟩
def Bf_rank_of : FDef Fn := ⟨1, 1,
  (.cons (.expr (.call .f_check_steps (.cons (.var 0) .nil))) (.cons (.ret (.index (.call .f_all_rows (.cons (.bcall .len (.cons (.var 0) .nil)) .nil)) (.var 0))) .nil))⟩
def Bf_steps_at : FDef Fn := ⟨2, 2,
  (.cons (.expr (.call .f_check_length (.cons (.var 0) .nil))) (.cons (.ife (.not (.call .f_is_int (.cons (.var 1) (.cons (.int 0) (.cons (.bin .sub (.call .f_count_rows (.cons (.var 0) .nil)) (.int 1)) .nil))))) (.cons (.raise 3) .nil) .nil) (.cons (.ret (.ix (.call .f_all_rows (.cons (.var 0) .nil)) (.var 1))) .nil)))⟩
def Bf_is_piece : FDef Fn := ⟨3, 3,
  (.cons (.ret (.call .f_straight (.cons (.call .f_as_points (.cons (.sl (.var 0) (.some (.var 1)) (.some (.var 2))) .nil)) .nil))) .nil)⟩
def f_longest_s1 : ME Fn := (.and (.cmp .lt (.var 2) (.bcall .len (.cons (.var 0) .nil))) (.and1 (.call .f_is_piece (.cons (.var 0) (.cons (.var 1) (.cons (.bin .add (.var 2) (.int 1)) .nil))))))
def f_longest_s2 : MB Fn := (.cons (.aug 2 .add (.int 1)) .nil)
def Bf_longest : FDef Fn := ⟨2, 3,
  (.cons (.set 2 (.bin .add (.var 1) (.int 1))) (.cons (.while_ f_longest_s1 f_longest_s2) (.cons (.ret (.bin .sub (.var 2) (.var 1))) .nil)))⟩
def Bf_longest_piece : FDef Fn := ⟨2, 2,
  (.cons (.expr (.call .f_check_row (.cons (.var 0) .nil))) (.cons (.ife (.not (.call .f_is_int (.cons (.var 1) (.cons (.int 0) (.cons (.bin .sub (.bcall .len (.cons (.var 0) .nil)) (.int 1)) .nil))))) (.cons (.raise 3) .nil) .nil) (.cons (.ret (.call .f_longest (.cons (.var 0) (.cons (.var 1) .nil)))) .nil)))⟩
def f_pieces_s1 : ME Fn := (.cmp .lt (.var 2) (.bcall .len (.cons (.var 0) .nil)))
def f_pieces_s2 : MB Fn := (.cons (.app 1 (.call .f_longest (.cons (.var 0) (.cons (.var 2) .nil)))) (.cons (.aug 2 .add (.ixO 1 (.neg (.int 1)))) .nil))
def Bf_pieces : FDef Fn := ⟨1, 3,
  (.cons (.expr (.call .f_check_row (.cons (.var 0) .nil))) (.cons (.setO 1 (.lst .nil)) (.cons (.set 2 (.int 0)) (.cons (.while_ f_pieces_s1 f_pieces_s2) (.frz 1 (.cons (.ret (.var 1)) .nil))))))⟩
def f_is_parting_s1 : ME Fn := (.call .f_is_int (.cons (.var 3) (.cons (.int 1) (.cons (.bcall .len (.cons (.var 0) .nil)) .nil))))
def f_is_parting_s2 : MB Fn := (.cons (.ife (.not (.call .f_is_piece (.cons (.var 0) (.cons (.var 2) (.cons (.bin .add (.var 2) (.var 3)) .nil))))) (.cons (.ret (.bl false)) .nil) .nil) (.cons (.aug 2 .add (.var 3)) .nil))
def Bf_is_parting : FDef Fn := ⟨2, 4,
  (.cons (.expr (.call .f_check_row (.cons (.var 0) .nil))) (.cons (.ife (.or (.not (.isi (.var 1) .list)) (.or1 (.not (.bcall .all (.cons (.comp f_is_parting_s1 (.one 3) (.seq (.var 1)) [3]) .nil))))) (.cons (.raise 3) .nil) .nil) (.cons (.ife (.cmp .ne (.bcall .sum (.cons (.var 1) .nil)) (.bcall .len (.cons (.var 0) .nil))) (.cons (.ret (.bl false)) .nil) .nil) (.cons (.set 2 (.int 0)) (.cons (.for_ (.one 3) (.seq (.var 1)) f_is_parting_s2) (.cons (.ret (.bl true)) .nil))))))⟩
def f_count_partings_s1 : MB Fn := (.cons (.ife (.call .f_is_piece (.cons (.var 0) (.cons (.var 5) (.cons (.var 6) .nil)))) (.cons .wild .nil) .nil) .nil)
def f_count_partings_s2 : MB Fn := (.cons (.for_ (.one 6) (.range2 (.bin .add (.var 5) (.int 1)) (.bin .add (.bcall .len (.cons (.var 0) .nil)) (.int 1))) f_count_partings_s1) .nil)
def f_count_partings_s3 : MB Fn := (.cons .wild (.cons (.for_ (.one 5) (.seq (.var 2)) f_count_partings_s2) (.cons (.set 2 (.var 4)) .nil)))
def Bf_count_partings : FDef Fn := ⟨2, 7,
  (.cons (.expr (.call .f_check_row (.cons (.var 0) .nil))) (.cons (.ife (.not (.call .f_is_int (.cons (.var 1) (.cons (.int 1) (.cons (.bcall .len (.cons (.var 0) .nil)) .nil))))) (.cons (.raise 3) .nil) .nil) (.cons .wild (.cons (.for_ (.one 3) (.range1 (.var 1)) f_count_partings_s3) (.cons .wild .nil)))))⟩
def f_corners_s1 : ME Fn := (.cmp .lt (.var 2) (.bcall .len (.cons (.var 0) .nil)))
def f_corners_s2 : MB Fn := (.cons (.aug 2 .add (.call .f_longest (.cons (.var 0) (.cons (.var 2) .nil)))) (.cons (.app 1 (.var 2)) .nil))
def f_corners_s3 : ME Fn := (.and (.cmp .gt (.var 5) (.int 0)) (.and1 (.call .f_is_piece (.cons (.var 0) (.cons (.bin .sub (.var 5) (.int 1)) (.cons (.var 4) .nil))))))
def f_corners_s4 : MB Fn := (.cons (.aug 5 .sub (.int 1)) .nil)
def f_corners_s5 : ME Fn := (.cmp .gt (.var 4) (.int 0))
def f_corners_s6 : MB Fn := (.cons (.app 3 (.var 4)) (.cons (.set 5 (.bin .sub (.var 4) (.int 1))) (.cons (.while_ f_corners_s3 f_corners_s4) (.cons (.set 4 (.var 5)) .nil))))
def f_corners_s7 : ME Fn := (.tup (.cons (.var 5) (.cons (.var 6) .nil)))
def Bf_corners : FDef Fn := ⟨1, 7,
  (.cons (.expr (.call .f_check_row (.cons (.var 0) .nil))) (.cons (.setO 1 (.lst .nil)) (.cons (.set 2 (.int 0)) (.cons (.while_ f_corners_s1 f_corners_s2) (.cons (.setO 3 (.lst .nil)) (.cons (.set 4 (.bcall .len (.cons (.var 0) .nil))) (.cons (.while_ f_corners_s5 f_corners_s6) (.frz 3 (.frz 1 (.cons (.ret (.comp f_corners_s7 (.tup [5, 6]) (.zip (.sl (.slS (.var 3) .non (.neg (.int 1))) .non (.some (.neg (.int 1)))) (.sl (.var 1) .non (.some (.neg (.int 1))))) [5, 6])) .nil))))))))))⟩
def f_law_ok_s1 : ME Fn := (.tup (.cons (.var 3) (.cons (.ix (.var 0) (.var 3)) .nil)))
def Bf_law_ok : FDef Fn := ⟨3, 4,
  (.cons (.ret (.call .f_law_fits (.cons (.comp f_law_ok_s1 (.one 3) (.range2 (.var 1) (.var 2)) [3]) .nil))) .nil)⟩
def f_law_lists_s1 : ME Fn := (.bin .add (.lst (.cons (.bin .sub (.var 3) (.var 1)) .nil)) (.var 4))
def f_law_lists_s2 : MB Fn := (.cons (.ife (.call .f_law_ok (.cons (.var 0) (.cons (.var 1) (.cons (.var 3) .nil)))) (.cons (.set 2 (.bin .add (.var 2) (.comp f_law_lists_s1 (.one 4) (.seq (.call .f_law_lists (.cons (.var 0) (.cons (.var 3) .nil)))) [4]))) .nil) .nil) .nil)
def Bf_law_lists : FDef Fn := ⟨2, 5,
  (.cons (.ife (.cmp .eq (.var 1) (.bcall .len (.cons (.var 0) .nil))) (.cons (.ret (.lst (.cons (.lst .nil) .nil))) .nil) .nil) (.cons (.set 2 (.lst .nil)) (.cons (.for_ (.one 3) (.range2 (.bin .add (.var 1) (.int 1)) (.bin .add (.bcall .len (.cons (.var 0) .nil)) (.int 1))) f_law_lists_s2) (.cons (.ret (.var 2)) .nil))))⟩
def f_choices_of_s1 : ME Fn := (.bin .add (.tup (.cons (.var 4) .nil)) (.var 5))
def f_choices_of_s2 : MB Fn := (.cons (.extO 3 (.comp f_choices_of_s1 (.one 5) (.seq (.call .f_choices_of (.cons (.var 0) (.cons (.bin .sub (.var 1) (.int 1)) (.cons (.bin .add (.var 4) (.int 1)) .nil))))) [5])) .nil)
def Bf_choices_of : FDef Fn := ⟨3, 6,
  (.cons (.ife (.cmp .eq (.var 1) (.int 0)) (.cons (.ret (.lst (.cons (.tup .nil) .nil))) .nil) .nil) (.cons (.setO 3 (.lst .nil)) (.cons (.for_ (.one 4) (.range2 (.var 2) (.var 0)) f_choices_of_s2) (.frz 3 (.cons (.ret (.var 3)) .nil)))))⟩
def f_without_s1 : ME Fn := (.cmp .nin (.var 2) (.var 1))
def f_without_s2 : ME Fn := (.var 3)
def Bf_without : FDef Fn := ⟨2, 4,
  (.cons (.ret (.compIf f_without_s2 (.tup [2, 3]) (.enum (.var 0)) f_without_s1 [2, 3])) .nil)⟩
def f_good_groups_s1 : MB Fn := (.cons (.set 4 (.call .f_without (.cons (.var 0) (.cons (.var 3) .nil)))) (.cons (.ife (.or (.cmp .eq (.var 4) (.lst .nil)) (.or1 (.call .f_straight (.cons (.var 4) .nil)))) (.cons (.app 2 (.var 3)) .nil) .nil) .nil))
def Bf_good_groups : FDef Fn := ⟨2, 5,
  (.cons (.setO 2 (.lst .nil)) (.cons (.for_ (.one 3) (.seq (.call .f_choices_of (.cons (.bcall .len (.cons (.var 0) .nil)) (.cons (.var 1) (.cons (.int 0) .nil))))) f_good_groups_s1) (.frz 2 (.cons (.ret (.var 2)) .nil))))⟩
def Bf_check_few : FDef Fn := ⟨1, 1,
  (.cons (.expr (.call .f_check_points (.cons (.var 0) .nil))) (.cons (.ife (.cmp .gt (.bcall .len (.cons (.var 0) .nil)) (.gint "MOST_SEARCH" 10)) (.cons (.raise 3) .nil) .nil) .nil))⟩
def f_fewest_s1 : ME Fn := (.cmp .eq (.call .f_good_groups (.cons (.var 0) (.cons (.var 1) .nil))) (.lst .nil))
def f_fewest_s2 : MB Fn := (.cons (.aug 1 .add (.int 1)) .nil)
def Bf_fewest : FDef Fn := ⟨1, 2,
  (.cons (.set 1 (.int 0)) (.cons (.while_ f_fewest_s1 f_fewest_s2) (.cons (.ret (.call .f_good_groups (.cons (.var 0) (.cons (.var 1) .nil)))) .nil)))⟩
def Bf_fewest_wrong : FDef Fn := ⟨1, 1,
  (.cons (.expr (.call .f_check_few (.cons (.var 0) .nil))) (.cons (.ret (.ix (.call .f_fewest (.cons (.var 0) .nil)) (.int 0))) .nil))⟩
def Bf_count_wrong : FDef Fn := ⟨1, 2,
  (.cons (.expr (.call .f_check_few (.cons (.var 0) .nil))) (.cons (.set 1 (.call .f_fewest (.cons (.var 0) .nil))) (.cons (.ret (.tup (.cons (.bcall .len (.cons (.ix (.var 1) (.int 0)) .nil)) (.cons (.bcall .len (.cons (.var 1) .nil)) .nil)))) .nil)))⟩
def f_surely_wrong_s1 : ME Fn := (.cmp .in_ (.var 2) (.var 3))
def f_surely_wrong_s2 : ME Fn := (.bcall .all (.cons (.comp f_surely_wrong_s1 (.one 3) (.seq (.var 1)) [3]) .nil))
def f_surely_wrong_s3 : ME Fn := (.var 2)
def Bf_surely_wrong : FDef Fn := ⟨1, 4,
  (.cons (.expr (.call .f_check_few (.cons (.var 0) .nil))) (.cons (.set 1 (.call .f_fewest (.cons (.var 0) .nil))) (.cons (.ret (.compIf f_surely_wrong_s3 (.one 2) (.range1 (.bcall .len (.cons (.var 0) .nil))) f_surely_wrong_s2 [2])) .nil)))⟩
def f_is_enough_s1 : ME Fn := (.call .f_is_int (.cons (.var 3) (.cons (.int 0) (.cons (.bin .sub (.bcall .len (.cons (.var 0) .nil)) (.int 1)) .nil))))
def Bf_is_enough : FDef Fn := ⟨2, 4,
  (.cons (.expr (.call .f_check_points (.cons (.var 0) .nil))) (.cons (.ife (.or (.not (.isi (.var 1) .list)) (.or1 (.not (.bcall .all (.cons (.comp f_is_enough_s1 (.one 3) (.seq (.var 1)) [3]) .nil))))) (.cons (.raise 3) .nil) .nil) (.cons (.set 2 (.call .f_without (.cons (.var 0) (.cons (.var 1) .nil)))) (.cons (.ret (.or (.cmp .eq (.var 2) (.lst .nil)) (.or1 (.call .f_straight (.cons (.var 2) .nil))))) .nil))))⟩
def Bf_checked : FDef Fn := ⟨1, 1,
  (.cons (.ife (.not (.call .f_are_points (.cons (.var 0) .nil))) (.cons (.raise 0) .nil) .nil) (.cons (.ret (.var 0)) .nil))⟩
def f_moved_s1 : ME Fn := (.tup (.cons (.bin .add (.var 3) (.var 1)) (.cons (.bin .add (.var 4) (.var 2)) .nil)))
def Bf_moved : FDef Fn := ⟨3, 5,
  (.cons (.expr (.call .f_check_points (.cons (.var 0) .nil))) (.cons (.ife (.or (.not (.call .f_is_int (.cons (.var 1) (.cons (.neg (.gint "MOST" 1000)) (.cons (.gint "MOST" 1000) .nil))))) (.or1 (.not (.call .f_is_int (.cons (.var 2) (.cons (.neg (.gint "MOST" 1000)) (.cons (.gint "MOST" 1000) .nil))))))) (.cons (.raise 3) .nil) .nil) (.cons (.ret (.call .f_checked (.cons (.comp f_moved_s1 (.tup [3, 4]) (.seq (.var 0)) [3, 4]) .nil))) .nil)))⟩
def f_sheared_s1 : ME Fn := (.tup (.cons (.var 2) (.cons (.bin .add (.var 3) (.bin .mul (.var 1) (.var 2))) .nil)))
def Bf_sheared : FDef Fn := ⟨2, 4,
  (.cons (.expr (.call .f_check_points (.cons (.var 0) .nil))) (.cons (.ife (.not (.call .f_is_int (.cons (.var 1) (.cons (.neg (.gint "MOST" 1000)) (.cons (.gint "MOST" 1000) .nil))))) (.cons (.raise 3) .nil) .nil) (.cons (.ret (.call .f_checked (.cons (.comp f_sheared_s1 (.tup [2, 3]) (.seq (.var 0)) [2, 3]) .nil))) .nil)))⟩
def f_turned_over_s1 : ME Fn := (.tup (.cons (.var 1) (.cons (.neg (.var 2)) .nil)))
def Bf_turned_over : FDef Fn := ⟨1, 3,
  (.cons (.expr (.call .f_check_points (.cons (.var 0) .nil))) (.cons (.ret (.comp f_turned_over_s1 (.tup [1, 2]) (.seq (.var 0)) [1, 2])) .nil))⟩
def f_backward_s1 : ME Fn := (.tup (.cons (.neg (.var 1)) (.cons (.var 2) .nil)))
def Bf_backward : FDef Fn := ⟨1, 3,
  (.cons (.expr (.call .f_check_points (.cons (.var 0) .nil))) (.cons (.ret (.comp f_backward_s1 (.tup [1, 2]) (.seq (.slS (.var 0) .non (.neg (.int 1)))) [1, 2])) .nil))⟩
def f_every_s1 : ME Fn := (.tup (.cons (.var 3) (.cons (.ix (.var 4) (.int 1)) .nil)))
def Bf_every : FDef Fn := ⟨3, 5,
  (.cons (.expr (.call .f_check_points (.cons (.var 0) .nil))) (.cons (.ife (.or (.not (.call .f_is_int (.cons (.var 1) (.cons (.int 1) (.cons (.bcall .len (.cons (.var 0) .nil)) .nil))))) (.or1 (.not (.call .f_is_int (.cons (.var 2) (.cons (.int 0) (.cons (.bin .sub (.bcall .len (.cons (.var 0) .nil)) (.int 1)) .nil))))))) (.cons (.raise 3) .nil) .nil) (.cons (.ret (.comp f_every_s1 (.tup [3, 4]) (.enum (.slS (.var 0) (.some (.var 2)) (.var 1))) [3, 4])) .nil)))⟩
def m_add_s1 : ME Fn := (.var 3)
def Bm_add : FDef Fn := ⟨2, 5,
  (.cons (.ife (.or (.not (.call .f_is_point (.cons (.var 1) .nil))) (.or (.cmp .in_ (.ix (.var 1) (.int 0)) (.comp m_add_s1 (.tup [3, 4]) (.seq (.srow 0)) [3, 4])) (.or1 (.cmp .eq (.bcall .len (.cons (.srow 0) .nil)) (.int 20))))) (.cons (.raise 0) .nil) .nil) (.cons (.set 2 (.bcall .sorted (.cons (.bin .add (.srow 0) (.lst (.cons (.var 1) .nil))) .nil))) (.cons (.ife (.not (.call .f_straight (.cons (.var 2) .nil))) (.cons (.raise 5) .nil) .nil) (.cons (.appPast 0) (.cons (.setRow 0 (.var 2)) (.cons (.ret (.bcall .len (.cons (.srow 0) .nil))) .nil))))))⟩
def m_fits_s1 : ME Fn := (.var 2)
def Bm_fits : FDef Fn := ⟨2, 4,
  (.cons (.ife (.not (.call .f_is_point (.cons (.var 1) .nil))) (.cons (.raise 0) .nil) .nil) (.cons (.ife (.cmp .in_ (.ix (.var 1) (.int 0)) (.comp m_fits_s1 (.tup [2, 3]) (.seq (.srow 0)) [2, 3])) (.cons (.ret (.cmp .in_ (.var 1) (.srow 0))) .nil) .nil) (.cons (.ret (.and (.cmp .lt (.bcall .len (.cons (.srow 0) .nil)) (.int 20)) (.and1 (.call .f_straight (.cons (.bcall .sorted (.cons (.bin .add (.srow 0) (.lst (.cons (.var 1) .nil))) .nil)) .nil))))) .nil)))⟩
def Bm_fits_k17 : FDef Fn := ⟨2, 2,
  (.cons (.expr (.call .f_wall (.cons (.int 0) .nil))) .nil)⟩
def m_drop_s1 : ME Fn := (.and (.cmp .eq (.ix (.var 3) (.int 0)) (.var 1)) (.and (.isi (.var 1) .int) (.and1 (.not (.isi (.var 1) .bool)))))
def m_drop_s2 : ME Fn := (.var 3)
def m_drop_s3 : ME Fn := (.cmp .nin (.var 3) (.var 2))
def Bm_drop : FDef Fn := ⟨2, 4,
  (.cons (.set 2 (.compIf m_drop_s2 (.one 3) (.seq (.srow 0)) m_drop_s1 [3])) (.cons (.ife (.cmp .eq (.var 2) (.lst .nil)) (.cons (.raise 6) .nil) .nil) (.cons (.appPast 0) (.cons (.setRow 0 (.compIf m_drop_s2 (.one 3) (.seq (.srow 0)) m_drop_s3 [3])) (.cons (.ret (.ix (.ix (.var 2) (.int 0)) (.int 1))) .nil)))))⟩
def Bm_drop_k17 : FDef Fn := ⟨2, 2,
  (.cons (.expr (.call .f_wall (.cons (.int 1) .nil))) .nil)⟩
def Bm_points : FDef Fn := ⟨1, 1,
  (.cons (.ret (.bcall .list (.cons (.srow 0) .nil))) .nil)⟩
def Bm_slopes : FDef Fn := ⟨1, 1,
  (.cons (.ret (.call .f_bounds (.cons (.srow 0) .nil))) .nil)⟩
def Bm_line : FDef Fn := ⟨1, 1,
  (.cons (.ife (.cmp .eq (.srow 0) (.lst .nil)) (.cons (.raise 6) .nil) .nil) (.cons (.ret (.call .f_leanest (.cons (.srow 0) .nil))) .nil))⟩
def Bm_undo : FDef Fn := ⟨1, 1,
  (.cons (.ife (.noPast 0) (.cons (.raise 6) .nil) .nil) (.cons (.popPast 0) .nil))⟩
def Bm_undo_k17 : FDef Fn := ⟨1, 1,
  (.cons (.expr (.call .f_wall (.cons (.int 2) .nil))) .nil)⟩
def Bm___len__ : FDef Fn := ⟨1, 1,
  (.cons (.ret (.bcall .len (.cons (.srow 0) .nil))) .nil)⟩
def Bf_law_call : FDef Fn := ⟨3, 6,
  (.cons (.set 3 .non) (.cons (.set 4 .non) (.cons (.try_ (.cons (.ife (.cmp .eq (.var 1) (.int 0)) (.cons (.set 3 (.meth .m_add 0 (.cons (.var 2) .nil))) .nil) (.cons (.ife (.cmp .eq (.var 1) (.int 1)) (.cons (.set 3 (.meth .m_drop 0 (.cons (.var 2) .nil))) .nil) (.cons (.ife (.cmp .eq (.var 1) (.int 2)) (.cons (.set 3 (.meth0 .m_undo 0)) .nil) (.cons (.set 3 (.meth0 .m_line 0)) .nil)) .nil)) .nil)) .nil) 4 5) (.cons (.ret (.ite (.cmp .is_ (.var 4) .non) (.var 3) (.call .f_law_error (.cons (.var 4) .nil)))) .nil))))⟩
def f_parse_number_s1 : ME Fn := (.cmp .in_ (.var 2) (.gstr "DIGITS" "0123456789"))
def Bf_parse_number : FDef Fn := ⟨1, 3,
  (.cons (.set 1 (.ite (.cmp .eq (.sl (.var 0) .non (.some (.int 1))) (.str "-")) (.sl (.var 0) (.some (.int 1)) .non) (.var 0))) (.cons (.ife (.or (.not (.chain .le .le (.int 1) (.bcall .len (.cons (.var 1) .nil)) (.int 10))) (.or (.not (.bcall .all (.cons (.comp f_parse_number_s1 (.one 2) (.seq (.var 1)) [2]) .nil))) (.or1 (.cmp .ne (.bcall .str (.cons (.bcall .int (.cons (.var 0) .nil)) .nil)) (.var 0))))) (.cons (.raise 4) .nil) .nil) (.cons (.ret (.bcall .int (.cons (.var 0) .nil))) .nil)))⟩
def Bf_check_text : FDef Fn := ⟨1, 1,
  (.cons (.ife (.not (.isi (.var 0) .str)) (.cons (.raise 4) .nil) .nil) .nil)⟩
def f_format_points_s1 : ME Fn := (.fstr (.cons (.fmt (.var 1)) (.cons (.str ",") (.cons (.fmt (.var 2)) .nil))))
def Bf_format_points : FDef Fn := ⟨1, 3,
  (.cons (.expr (.call .f_check_points (.cons (.var 0) .nil))) (.cons (.ret (.join (.str " ") (.comp f_format_points_s1 (.tup [1, 2]) (.seq (.var 0)) [1, 2]))) .nil))⟩
def f_parse_points_s1 : MB Fn := (.cons (.set 3 (.split (.var 2) (.str ","))) (.cons (.ife (.cmp .ne (.bcall .len (.cons (.var 3) .nil)) (.int 2)) (.cons (.raise 4) .nil) .nil) (.cons (.app 1 (.tup (.cons (.call .f_parse_number (.cons (.ix (.var 3) (.int 0)) .nil)) (.cons (.call .f_parse_number (.cons (.ix (.var 3) (.int 1)) .nil)) .nil)))) .nil)))
def Bf_parse_points : FDef Fn := ⟨1, 4,
  (.cons (.expr (.call .f_check_text (.cons (.var 0) .nil))) (.cons (.setO 1 (.lst .nil)) (.cons (.for_ (.one 2) (.seq (.split (.var 0) (.str " "))) f_parse_points_s1) (.frz 1 (.cons (.ife (.not (.call .f_are_points (.cons (.var 1) .nil))) (.cons (.raise 4) .nil) .nil) (.cons (.ret (.var 1)) .nil))))))⟩
def f_format_row_s1 : ME Fn := (.bcall .str (.cons (.var 1) .nil))
def Bf_format_row : FDef Fn := ⟨1, 2,
  (.cons (.expr (.call .f_check_row (.cons (.var 0) .nil))) (.cons (.ret (.join (.str " ") (.comp f_format_row_s1 (.one 1) (.seq (.var 0)) [1]))) .nil))⟩
def f_parse_row_s1 : ME Fn := (.call .f_parse_number (.cons (.var 2) .nil))
def Bf_parse_row : FDef Fn := ⟨1, 3,
  (.cons (.expr (.call .f_check_text (.cons (.var 0) .nil))) (.cons (.set 1 (.comp f_parse_row_s1 (.one 2) (.seq (.split (.var 0) (.str " "))) [2])) (.cons (.ife (.not (.call .f_is_row (.cons (.var 1) .nil))) (.cons (.raise 4) .nil) .nil) (.cons (.ret (.var 1)) .nil))))⟩
def Bf_format_line : FDef Fn := ⟨1, 2,
  (.cons (.expr (.call .f_check_line (.cons (.var 0) .nil))) (.cons (.set 1 (.ite (.cmp .ge (.ix (.var 0) (.int 2)) (.int 0)) (.str "+") (.str "-"))) (.cons (.ret (.fstr (.cons (.str "(") (.cons (.fmt (.ix (.var 0) (.int 0))) (.cons (.str " x ") (.cons (.fmt (.var 1)) (.cons (.str " ") (.cons (.fmt (.bcall .abs (.cons (.ix (.var 0) (.int 2)) .nil))) (.cons (.str ") / ") (.cons (.fmt (.ix (.var 0) (.int 1))) .nil)))))))))) .nil)))⟩
def f_drawn_s1 : ME Fn := (.ite (.cmp .eq (.var 3) (.var 2)) (.str "#") (.str "."))
def f_drawn_s2 : MB Fn := (.cons (.app 1 (.join (.str "") (.comp f_drawn_s1 (.one 3) (.seq (.var 0)) [3]))) .nil)
def Bf_drawn : FDef Fn := ⟨1, 4,
  (.cons (.expr (.call .f_check_row (.cons (.var 0) .nil))) (.cons (.ife (.cmp .gt (.bin .sub (.bcall .max (.cons (.var 0) .nil)) (.bcall .min (.cons (.var 0) .nil))) (.int 60)) (.cons (.raise 4) .nil) .nil) (.cons (.setO 1 (.lst .nil)) (.cons (.for_ (.one 2) (.range3 (.bcall .max (.cons (.var 0) .nil)) (.bin .sub (.bcall .min (.cons (.var 0) .nil)) (.int 1)) (.neg (.int 1))) f_drawn_s2) (.frz 1 (.cons (.ret (.var 1)) .nil))))))⟩
def f_law_written_s1 : ME Fn := (.bin .add (.bin .add (.bcall .str (.cons (.var 3) .nil)) (.str ",")) (.bcall .str (.cons (.var 4) .nil)))
def f_law_written_s2 : ME Fn := (.bcall .str (.cons (.var 2) .nil))
def Bf_law_written : FDef Fn := ⟨2, 5,
  (.cons (.ife (.cmp .eq (.var 0) (.int 0)) (.cons (.ret (.join (.str " ") (.comp f_law_written_s1 (.tup [3, 4]) (.seq (.var 1)) [3, 4]))) .nil) .nil) (.cons (.ret (.join (.str " ") (.comp f_law_written_s2 (.one 2) (.seq (.var 1)) [2]))) .nil))⟩
def Bf_law_parsed : FDef Fn := ⟨2, 5,
  (.cons (.set 2 .non) (.cons (.set 3 .non) (.cons (.try_ (.cons (.set 2 (.ite (.cmp .eq (.var 0) (.int 0)) (.call .f_parse_points (.cons (.var 1) .nil)) (.call .f_parse_row (.cons (.var 1) .nil)))) .nil) 3 4) (.cons (.ret (.ite (.cmp .is_ (.var 3) .non) (.var 2) (.call .f_law_error (.cons (.var 3) .nil)))) .nil))))⟩
def f_law_rejected_s1 : ME Fn := (.call .f_law_parsed (.cons (.int 0) (.cons (.var 1) .nil)))
def f_law_rejected_s2 : ME Fn := (.call .f_law_parsed (.cons (.int 1) (.cons (.var 1) .nil)))
def Bf_law_rejected : FDef Fn := ⟨0, 2,
  (.cons (.set 0 (.lst (.cons .non (.cons (.int 5) (.cons (.str "") (.cons (.str " ") (.cons (.str "1") (.cons (.str "1,") (.cons (.str ",1") (.cons (.str "1,2,3") (.cons (.str "1,2 ") (.cons (.str " 1,2") (.cons (.str "1,2  3,4") (.cons (.str "1, 2") (.cons (.str "01,2") (.cons (.str "+1,2") (.cons (.str "1,-0") (.cons (.str "1,--2") (.cons (.str "a,1") (.cons (.str "1,2 1,3") (.cons (.str "2,1 1,1") (.cons (.str "1001,0") (.cons (.str "0,-1001") (.cons (.str "1.0,2") .nil)))))))))))))))))))))))) (.cons (.ife (.or (.cmp .ne (.comp f_law_rejected_s1 (.one 1) (.seq (.var 0)) [1]) (.bin .mul (.lst (.cons (.str "text") .nil)) (.int 22))) (.or1 (.cmp .ne (.call .f_law_parsed (.cons (.int 0) (.cons (.str "-1000,1000 0,-3") .nil))) (.lst (.cons (.tup (.cons (.bin .sub (.int 0) (.int 1000)) (.cons (.int 1000) .nil))) (.cons (.tup (.cons (.int 0) (.cons (.bin .sub (.int 0) (.int 3)) .nil))) .nil)))))) (.cons (.ret (.bl false)) .nil) .nil) (.cons (.set 0 (.lst (.cons .non (.cons (.int 5) (.cons (.str "") (.cons (.str " ") (.cons (.str "1 ") (.cons (.str " 1") (.cons (.str "1  2") (.cons (.str "01") (.cons (.str "+1") (.cons (.str "-0") (.cons (.str "--1") (.cons (.str "a") (.cons (.str "1,2") (.cons (.str "1001") (.cons (.str "-1001") (.cons (.str "1.0") (.cons (.join (.str " ") (.bin .mul (.lst (.cons (.str "0") .nil)) (.int 21))) .nil))))))))))))))))))) (.cons (.ret (.and (.cmp .eq (.comp f_law_rejected_s2 (.one 1) (.seq (.var 0)) [1]) (.bin .mul (.lst (.cons (.str "text") .nil)) (.int 17))) (.and1 (.cmp .eq (.call .f_law_parsed (.cons (.int 1) (.cons (.str "5 -5 0") .nil))) (.lst (.cons (.int 5) (.cons (.bin .sub (.int 0) (.int 5)) (.cons (.int 0) .nil)))))))) .nil))))⟩
def Bf_law_one : FDef Fn := ⟨2, 2,
  (.cons (.ife (.cmp .eq (.var 0) (.int 0)) (.cons (.ret (.call .f_is_straight (.cons (.var 1) .nil))) .nil) .nil) (.cons (.ife (.cmp .eq (.var 0) (.int 1)) (.cons (.ret (.call .f_slopes (.cons (.var 1) .nil))) .nil) .nil) (.cons (.ife (.cmp .eq (.var 0) (.int 2)) (.cons (.ret (.call .f_leanest_line (.cons (.var 1) .nil))) .nil) .nil) (.cons (.ife (.cmp .eq (.var 0) (.int 3)) (.cons (.ret (.call .f_clash (.cons (.var 1) .nil))) .nil) .nil) (.cons (.ife (.cmp .eq (.var 0) (.int 4)) (.cons (.ret (.call .f_all_clashes (.cons (.var 1) .nil))) .nil) .nil) (.cons (.ife (.cmp .eq (.var 0) (.int 5)) (.cons (.ret (.call .f_fewest_wrong (.cons (.var 1) .nil))) .nil) .nil) (.cons (.ife (.cmp .eq (.var 0) (.int 6)) (.cons (.ret (.call .f_count_wrong (.cons (.var 1) .nil))) .nil) .nil) (.cons (.ife (.cmp .eq (.var 0) (.int 7)) (.cons (.ret (.call .f_surely_wrong (.cons (.var 1) .nil))) .nil) .nil) (.cons (.ife (.cmp .eq (.var 0) (.int 8)) (.cons (.ret (.call .f_turned_over (.cons (.var 1) .nil))) .nil) .nil) (.cons (.ife (.cmp .eq (.var 0) (.int 9)) (.cons (.ret (.call .f_backward (.cons (.var 1) .nil))) .nil) .nil) (.cons (.ret (.call .f_format_points (.cons (.var 1) .nil))) .nil)))))))))))⟩
def Bf_law_two : FDef Fn := ⟨3, 3,
  (.cons (.ife (.cmp .eq (.var 0) (.int 0)) (.cons (.ret (.call .f_offsets_for (.cons (.var 1) (.cons (.var 2) .nil)))) .nil) .nil) (.cons (.ife (.cmp .eq (.var 0) (.int 1)) (.cons (.ret (.call .f_lines_with (.cons (.var 1) (.cons (.var 2) .nil)))) .nil) .nil) (.cons (.ife (.cmp .eq (.var 0) (.int 2)) (.cons (.ret (.call .f_clashes_at (.cons (.var 1) (.cons (.var 2) .nil)))) .nil) .nil) (.cons (.ife (.cmp .eq (.var 0) (.int 3)) (.cons (.ret (.call .f_heights_at (.cons (.var 1) (.cons (.var 2) .nil)))) .nil) .nil) (.cons (.ife (.cmp .eq (.var 0) (.int 4)) (.cons (.ret (.call .f_certain_heights (.cons (.var 1) (.cons (.var 2) (.cons (.int 0) .nil))))) .nil) .nil) (.cons (.ife (.cmp .eq (.var 0) (.int 5)) (.cons (.ret (.call .f_is_enough (.cons (.var 1) (.cons (.var 2) .nil)))) .nil) .nil) (.cons (.ife (.cmp .eq (.var 0) (.int 6)) (.cons (.ret (.call .f_moved (.cons (.var 1) (.cons (.var 2) (.cons (.int 0) .nil))))) .nil) .nil) (.cons (.ife (.cmp .eq (.var 0) (.int 7)) (.cons (.ret (.call .f_sheared (.cons (.var 1) (.cons (.var 2) .nil)))) .nil) .nil) (.cons (.ret (.call .f_every (.cons (.var 1) (.cons (.var 2) (.cons (.int 0) .nil))))) .nil)))))))))⟩
def Bf_law_line_call : FDef Fn := ⟨3, 3,
  (.cons (.ife (.cmp .eq (.var 0) (.int 0)) (.cons (.ret (.call .f_height_at (.cons (.var 1) (.cons (.var 2) .nil)))) .nil) .nil) (.cons (.ret (.ite (.cmp .eq (.var 0) (.int 1)) (.call .f_explains (.cons (.var 1) (.cons (.var 2) .nil))) (.call .f_format_line (.cons (.var 1) .nil)))) .nil))⟩
def Bf_law_asked : FDef Fn := ⟨4, 6,
  (.cons (.set 4 .non) (.cons (.try_ (.cons (.ife (.cmp .eq (.var 0) (.int 1)) (.cons (.expr (.call .f_law_one (.cons (.var 1) (.cons (.var 2) .nil)))) .nil) (.cons (.ife (.cmp .eq (.var 0) (.int 2)) (.cons (.expr (.call .f_law_two (.cons (.var 1) (.cons (.var 2) (.cons (.var 3) .nil))))) .nil) (.cons (.expr (.call .f_law_line_call (.cons (.var 1) (.cons (.var 2) (.cons (.var 3) .nil))))) .nil)) .nil)) .nil) 4 5) (.cons (.ret (.ite (.cmp .is_ (.var 4) .non) (.str "done") (.call .f_law_error (.cons (.var 4) .nil)))) .nil)))⟩
def Bf_law_asked_k16 : FDef Fn := ⟨4, 6,
  (.cons (.set 4 .non) (.cons (.try_ (.cons (.ife (.cmp .eq (.var 0) (.int 1)) (.cons (.expr (.call .f_law_row_call (.cons (.var 1) (.cons (.var 2) .nil)))) .nil) (.cons (.ife (.cmp .eq (.var 0) (.int 2)) (.cons (.expr (.call .f_law_more (.cons (.var 1) (.cons (.var 2) (.cons (.var 3) .nil))))) .nil) (.cons (.expr (.call .f_law_strip_call (.cons (.var 1) (.cons (.var 2) (.cons (.var 3) .nil))))) .nil)) .nil)) .nil) 4 5) (.cons (.ret (.ite (.cmp .is_ (.var 4) .non) (.str "done") (.call .f_law_error (.cons (.var 4) .nil)))) .nil)))⟩
def f_law_numbers_s1 : MB Fn := (.cons (.ife (.cmp .ne (.call .f_law_asked (.cons (.int 2) (.cons (.int 0) (.cons (.var 0) (.cons (.var 2) .nil))))) (.str "number")) (.cons (.ret (.bl false)) .nil) .nil) .nil)
def f_law_numbers_s2 : ME Fn := (.call .f_law_asked (.cons (.int 2) (.cons (.var 5) (.cons (.var 0) (.cons (.var 2) .nil)))))
def f_law_numbers_s3 : MB Fn := (.cons (.ife (.cmp .ne (.comp f_law_numbers_s2 (.one 2) (.seq (.var 6)) [2]) (.bin .mul (.lst (.cons (.str "number") .nil)) (.bcall .len (.cons (.var 6) .nil)))) (.cons (.ret (.bl false)) .nil) .nil) .nil)
def f_law_numbers_s4 : ME Fn := (.call .f_law_asked (.cons (.int 2) (.cons (.var 7) (.cons (.var 0) (.cons (.var 8) .nil)))))
def f_law_numbers_s5 : ME Fn := (.call .f_law_asked (.cons (.int 2) (.cons (.var 7) (.cons (.var 1) (.cons (.ite (.cmp .lt (.var 7) (.int 4)) (.int 1) (.int 0)) .nil)))))
def f_law_numbers_s6 : ME Fn := (.call .f_law_asked (.cons (.int 1) (.cons (.var 7) (.cons (.var 1) (.cons (.int 0) .nil)))))
def f_law_numbers_s7 : ME Fn := (.call .f_law_asked (.cons (.int 1) (.cons (.var 7) (.cons (.var 3) (.cons (.int 0) .nil)))))
def f_law_numbers_s8 : ME Fn := (.call .f_law_asked (.cons (.int 2) (.cons (.var 7) (.cons (.var 3) (.cons (.ite (.cmp .lt (.var 7) (.int 4)) (.int 1) (.int 0)) .nil)))))
def f_law_numbers_s9 : ME Fn := (.tup (.cons (.var 7) (.cons (.int 0) .nil)))
def f_law_numbers_s10 : ME Fn := (.call .f_law_asked (.cons (.int 1) (.cons (.var 7) (.cons (.sl (.var 4) (.some (.int 1)) .non) (.cons (.int 0) .nil)))))
def f_law_numbers_s11 : ME Fn := (.call .f_law_asked (.cons (.int 1) (.cons (.var 7) (.cons (.var 4) (.cons (.int 0) .nil)))))
def f_law_numbers_s12 : ME Fn := (.call .f_law_asked (.cons (.int 2) (.cons (.int 7) (.cons (.lst (.cons (.tup (.cons (.int 1) (.cons (.int 1) .nil))) (.cons (.tup (.cons (.int 2) (.cons (.int 0) .nil))) .nil))) (.cons (.var 2) .nil)))))
def f_law_numbers_s13 : ME Fn := (.call .f_law_asked (.cons (.int 2) (.cons (.int 6) (.cons (.var 0) (.cons (.var 2) .nil)))))
def Bf_law_numbers : FDef Fn := ⟨2, 9,
  (.cons (.for_ (.one 2) (.seq (.lst (.cons .non (.cons (.int 5) (.cons (.tup (.cons (.int 1) (.cons (.int 0) .nil))) (.cons (.tup (.cons (.int 2) (.cons (.int 4) .nil))) (.cons (.tup (.cons (.int 1) .nil)) (.cons (.lst (.cons (.int 1) (.cons (.int 2) .nil))) (.cons (.tup (.cons (.int 1) (.cons (.bin .sub (.int 0) (.int 2)) .nil))) (.cons (.tup (.cons (.bl true) (.cons (.int 1) .nil))) (.cons (.tup (.cons (.int 1) (.cons .non .nil))) (.cons (.tup (.cons (.int 1000000001) (.cons (.int 1) .nil))) .nil)))))))))))) f_law_numbers_s1) (.cons (.for_ (.tup [5, 6]) (.seq (.lst (.cons (.tup (.cons (.int 1) (.cons (.lst (.cons .non (.cons (.int 0) (.cons (.int 101) (.cons (.bl true) .nil))))) .nil))) (.cons (.tup (.cons (.int 2) (.cons (.lst (.cons .non (.cons (.int 3) (.cons (.bin .sub (.int 0) (.int 1)) (.cons (.bl true) .nil))))) .nil))) (.cons (.tup (.cons (.int 3) (.cons (.lst (.cons .non (.cons (.int 1001) (.cons (.bl true) (.cons (.str "1") .nil))))) .nil))) (.cons (.tup (.cons (.int 4) (.cons (.lst (.cons .non (.cons (.int 1) (.cons (.bin .sub (.int 0) (.int 1001)) (.cons (.bin .sub (.int 0) (.int 41)) (.cons (.bl true) .nil)))))) .nil))) (.cons (.tup (.cons (.int 5) (.cons (.lst (.cons .non (.cons (.tup (.cons (.int 0) .nil)) (.cons (.lst (.cons (.int 3) .nil)) (.cons (.lst (.cons (.bl true) .nil)) (.cons (.lst (.cons .non .nil)) .nil)))))) .nil))) (.cons (.tup (.cons (.int 6) (.cons (.lst (.cons .non (.cons (.int 1001) (.cons (.bl true) .nil)))) .nil))) (.cons (.tup (.cons (.int 7) (.cons (.lst (.cons .non (.cons (.int 1001) (.cons (.bl true) .nil)))) .nil))) (.cons (.tup (.cons (.int 8) (.cons (.lst (.cons .non (.cons (.int 0) (.cons (.int 4) (.cons (.bl true) .nil))))) .nil))) .nil)))))))))) f_law_numbers_s3) (.cons (.ife (.cmp .ne (.comp f_law_numbers_s4 (.tup [7, 8]) (.seq (.tup (.cons (.tup (.cons (.int 1) (.cons (.int 100) .nil))) (.cons (.tup (.cons (.int 4) (.cons (.bin .sub (.int 0) (.int 40)) .nil))) (.cons (.tup (.cons (.int 8) (.cons (.int 3) .nil))) .nil))))) [7, 8]) (.bin .mul (.lst (.cons (.str "done") .nil)) (.int 3))) (.cons (.ret (.bl false)) .nil) .nil) (.cons (.ife (.or (.cmp .ne (.comp f_law_numbers_s6 (.one 7) (.seq (.tup (.cons (.int 1) (.cons (.int 2) .nil)))) [7]) (.bin .mul (.lst (.cons (.str "bent") .nil)) (.int 2))) (.or1 (.cmp .ne (.comp f_law_numbers_s5 (.one 7) (.seq (.tup (.cons (.int 1) (.cons (.int 3) (.cons (.int 4) .nil))))) [7]) (.bin .mul (.lst (.cons (.str "bent") .nil)) (.int 3))))) (.cons (.ret (.bl false)) .nil) .nil) (.cons (.ife (.or (.cmp .ne (.call .f_law_asked (.cons (.int 2) (.cons (.int 0) (.cons (.var 1) (.cons (.tup (.cons (.int 0) (.cons (.int 1) .nil))) .nil))))) (.str "none")) (.or1 (.cmp .ne (.call .f_law_asked (.cons (.int 2) (.cons (.int 0) (.cons (.var 0) (.cons (.tup (.cons (.int 5) (.cons (.int 1) .nil))) .nil))))) (.str "none")))) (.cons (.ret (.bl false)) .nil) .nil) (.cons (.set 3 (.lst (.cons (.tup (.cons (.int 0) (.cons (.int 0) .nil))) .nil))) (.cons (.ife (.or (.cmp .ne (.comp f_law_numbers_s8 (.one 7) (.seq (.tup (.cons (.int 1) (.cons (.int 3) (.cons (.int 4) .nil))))) [7]) (.bin .mul (.lst (.cons (.str "none") .nil)) (.int 3))) (.or1 (.cmp .ne (.comp f_law_numbers_s7 (.one 7) (.range1 (.int 11)) [7]) (.bin .mul (.lst (.cons (.str "done") .nil)) (.int 11))))) (.cons (.ret (.bl false)) .nil) .nil) (.cons (.set 4 (.comp f_law_numbers_s9 (.one 7) (.range1 (.int 11)) [7])) (.cons (.ife (.or (.cmp .ne (.comp f_law_numbers_s11 (.one 7) (.seq (.tup (.cons (.int 5) (.cons (.int 6) (.cons (.int 7) .nil))))) [7]) (.bin .mul (.lst (.cons (.str "number") .nil)) (.int 3))) (.or1 (.cmp .ne (.comp f_law_numbers_s10 (.one 7) (.seq (.tup (.cons (.int 5) (.cons (.int 6) (.cons (.int 7) .nil))))) [7]) (.bin .mul (.lst (.cons (.str "done") .nil)) (.int 3))))) (.cons (.ret (.bl false)) .nil) .nil) (.cons (.ret (.and (.cmp .eq (.comp f_law_numbers_s13 (.one 2) (.seq (.tup (.cons (.int 999) (.cons (.int 998) .nil)))) [2]) (.lst (.cons (.str "points") (.cons (.str "done") .nil)))) (.and1 (.cmp .eq (.comp f_law_numbers_s12 (.one 2) (.seq (.tup (.cons (.int 1000) (.cons (.int 500) .nil)))) [2]) (.lst (.cons (.str "points") (.cons (.str "done") .nil))))))) .nil))))))))))⟩
def Bf_law_row_call : FDef Fn := ⟨2, 2,
  (.cons (.ife (.cmp .eq (.var 0) (.int 0)) (.cons (.ret (.call .f_points_of (.cons (.var 1) .nil))) .nil) .nil) (.cons (.ife (.cmp .eq (.var 0) (.int 1)) (.cons (.ret (.call .f_steps_of (.cons (.var 1) .nil))) .nil) .nil) (.cons (.ife (.cmp .eq (.var 0) (.int 2)) (.cons (.ret (.call .f_is_straight_row (.cons (.var 1) .nil))) .nil) .nil) (.cons (.ife (.cmp .eq (.var 0) (.int 3)) (.cons (.ret (.call .f_uneven (.cons (.var 1) .nil))) .nil) .nil) (.cons (.ife (.cmp .eq (.var 0) (.int 4)) (.cons (.ret (.call .f_next_heights (.cons (.var 1) .nil))) .nil) .nil) (.cons (.ife (.cmp .eq (.var 0) (.int 5)) (.cons (.ret (.call .f_pieces (.cons (.var 1) .nil))) .nil) .nil) (.cons (.ife (.cmp .eq (.var 0) (.int 6)) (.cons (.ret (.call .f_corners (.cons (.var 1) .nil))) .nil) .nil) (.cons (.ret (.ite (.cmp .eq (.var 0) (.int 7)) (.call .f_format_row (.cons (.var 1) .nil)) (.call .f_drawn (.cons (.var 1) .nil)))) .nil))))))))⟩
def Bf_law_more : FDef Fn := ⟨3, 3,
  (.cons (.ife (.cmp .eq (.var 0) (.int 0)) (.cons (.ret (.call .f_window_sums (.cons (.var 1) (.cons (.var 2) .nil)))) .nil) .nil) (.cons (.ife (.cmp .eq (.var 0) (.int 1)) (.cons (.ret (.call .f_longest_piece (.cons (.var 1) (.cons (.var 2) .nil)))) .nil) .nil) (.cons (.ife (.cmp .eq (.var 0) (.int 2)) (.cons (.ret (.call .f_is_parting (.cons (.var 1) (.cons (.var 2) .nil)))) .nil) .nil) (.cons (.ife (.cmp .eq (.var 0) (.int 3)) (.cons (.ret (.call .f_count_partings (.cons (.var 1) (.cons (.var 2) .nil)))) .nil) .nil) (.cons (.ife (.cmp .eq (.var 0) (.int 4)) (.cons (.ret (.call .f_simplest (.cons (.var 1) (.cons (.var 2) .nil)))) .nil) .nil) (.cons (.ife (.cmp .eq (.var 0) (.int 5)) (.cons (.ret (.call .f_row_of (.cons (.var 1) (.cons (.var 2) .nil)))) .nil) .nil) (.cons (.ife (.cmp .eq (.var 0) (.int 6)) (.cons (.ret (.call .f_steps_at (.cons (.var 1) (.cons (.var 2) .nil)))) .nil) .nil) (.cons (.ife (.cmp .eq (.var 0) (.int 7)) (.cons (.ret (.call .f_count_rows (.cons (.var 1) .nil))) .nil) .nil) (.cons (.ret (.ite (.cmp .eq (.var 0) (.int 8)) (.call .f_step_rows (.cons (.var 1) .nil)) (.call .f_rank_of (.cons (.var 1) .nil)))) .nil)))))))))⟩
def Bf_law_strip_call : FDef Fn := ⟨3, 3,
  (.cons (.ife (.cmp .eq (.var 0) (.int 0)) (.cons (.ret (.meth .m_add 1 (.cons (.var 2) .nil))) .nil) .nil) (.cons (.ife (.cmp .eq (.var 0) (.int 1)) (.cons (.ret (.meth .m_fits 1 (.cons (.var 2) .nil))) .nil) .nil) (.cons (.ife (.cmp .eq (.var 0) (.int 2)) (.cons (.ret (.meth .m_drop 1 (.cons (.var 2) .nil))) .nil) .nil) (.cons (.ret (.ite (.cmp .eq (.var 0) (.int 3)) (.meth0 .m_undo 1) (.meth0 .m_line 1))) .nil))))⟩
def f_law_strip_s1 : ME Fn := (.call .f_law_asked_k16 (.cons (.int 3) (.cons (.var 3) (.cons (.var 0) (.cons (.var 1) .nil)))))
def f_law_strip_s2 : MB Fn := (.cons (.ife (.cmp .ne (.comp f_law_strip_s1 (.one 3) (.seq (.tup (.cons (.int 0) (.cons (.int 1) .nil)))) [3]) (.bin .mul (.lst (.cons (.str "points") .nil)) (.int 2))) (.cons (.ret (.bl false)) .nil) .nil) .nil)
def f_law_strip_s3 : ME Fn := (.call .f_law_asked_k16 (.cons (.int 3) (.cons (.var 3) (.cons (.var 0) (.cons (.int 0) .nil)))))
def f_law_strip_s4 : MB Fn := (.cons (.expr (.meth .m_add 0 (.cons (.tup (.cons (.var 2) (.cons (.int 0) .nil))) .nil))) .nil)
def f_law_strip_s5 : ME Fn := (.call .f_law_asked_k16 (.cons (.int 3) (.cons (.int 2) (.cons (.var 0) (.cons (.var 1) .nil)))))
def Bf_law_strip : FDef Fn := ⟨0, 4,
  (.cons (.set 0 (.mkS .f_Strip)) (.cons (.for_ (.one 1) (.seq (.lst (.cons .non (.cons (.int 5) (.cons (.tup (.cons (.int 1) .nil)) (.cons (.lst (.cons (.int 1) (.cons (.int 2) .nil))) (.cons (.tup (.cons (.int 1) (.cons .non .nil))) (.cons (.tup (.cons (.int 1001) (.cons (.int 0) .nil))) (.cons (.tup (.cons (.bl true) (.cons (.int 0) .nil))) .nil))))))))) f_law_strip_s2) (.cons (.ife (.or (.cmp .ne (.comp f_law_strip_s3 (.one 3) (.seq (.tup (.cons (.int 2) (.cons (.int 3) (.cons (.int 4) .nil))))) [3]) (.bin .mul (.lst (.cons (.str "none") .nil)) (.int 3))) (.or (.cmp .ne (.lenS 0) (.int 0)) (.or1 (.cmp .ne (.meth0 .m_points 0) (.lst .nil))))) (.cons (.ret (.bl false)) .nil) .nil) (.cons (.for_ (.one 2) (.range1 (.int 3)) f_law_strip_s4) (.cons (.ife (.or (.cmp .ne (.call .f_law_asked_k16 (.cons (.int 3) (.cons (.int 0) (.cons (.var 0) (.cons (.tup (.cons (.int 1) (.cons (.int 0) .nil))) .nil))))) (.str "points")) (.or (.cmp .ne (.call .f_law_asked_k16 (.cons (.int 3) (.cons (.int 0) (.cons (.var 0) (.cons (.tup (.cons (.int 3) (.cons (.int 2) .nil))) .nil))))) (.str "bent")) (.or1 (.cmp .ne (.comp f_law_strip_s5 (.one 1) (.seq (.tup (.cons .non (.cons (.int 5) (.cons (.str "1") (.cons (.bl true) .nil)))))) [1]) (.bin .mul (.lst (.cons (.str "none") .nil)) (.int 4)))))) (.cons (.ret (.bl false)) .nil) .nil) (.cons (.ptsApp 0 (.tup (.cons (.int 9) (.cons (.int 9) .nil)))) (.cons (.for_ (.one 2) (.range2 (.int 3) (.int 20)) f_law_strip_s4) (.cons (.ret (.and (.cmp .eq (.call .f_law_asked_k16 (.cons (.int 3) (.cons (.int 0) (.cons (.var 0) (.cons (.tup (.cons (.int 20) (.cons (.int 0) .nil))) .nil))))) (.str "points")) (.and (.cmp .is_ (.meth .m_fits 0 (.cons (.tup (.cons (.int 20) (.cons (.int 0) .nil))) .nil)) (.bl false)) (.and (.cmp .eq (.lenS 0) (.int 20)) (.and1 (.cmp .eq (.meth0 .m_line 0) (.tup (.cons (.int 0) (.cons (.int 1) (.cons (.int 0) .nil)))))))))) .nil))))))))⟩
def f_law_counts_s1 : ME Fn := (.call .f_law_asked_k16 (.cons (.int 2) (.cons (.int 8) (.cons (.var 1) (.cons (.int 0) .nil)))))
def f_law_counts_s2 : ME Fn := (.call .f_law_asked_k16 (.cons (.int 2) (.cons (.int 6) (.cons (.var 1) (.cons (.int 0) .nil)))))
def f_law_counts_s3 : ME Fn := (.call .f_law_asked_k16 (.cons (.int 2) (.cons (.int 9) (.cons (.var 1) (.cons (.int 0) .nil)))))
def f_law_counts_s4 : ME Fn := (.call .f_law_asked_k16 (.cons (.int 2) (.cons (.int 6) (.cons (.int 4) (.cons (.var 1) .nil)))))
def Bf_law_counts : FDef Fn := ⟨1, 2,
  (.cons (.ife (.or (.cmp .ne (.comp f_law_counts_s2 (.one 1) (.seq (.tup (.cons (.int 11) (.cons (.bin .sub (.int 0) (.int 1)) (.cons (.bl true) .nil))))) [1]) (.bin .mul (.lst (.cons (.str "number") .nil)) (.int 3))) (.or1 (.cmp .ne (.comp f_law_counts_s1 (.one 1) (.seq (.tup (.cons (.int 11) (.cons (.bin .sub (.int 0) (.int 1)) (.cons (.bl true) .nil))))) [1]) (.bin .mul (.lst (.cons (.str "number") .nil)) (.int 3))))) (.cons (.ret (.bl false)) .nil) .nil) (.cons (.ife (.or (.cmp .ne (.comp f_law_counts_s4 (.one 1) (.seq (.tup (.cons .non (.cons (.int 14) (.cons (.bin .sub (.int 0) (.int 1)) (.cons (.bl true) (.cons (.int 13) .nil))))))) [1]) (.bin .add (.bin .mul (.lst (.cons (.str "number") .nil)) (.int 4)) (.lst (.cons (.str "done") .nil)))) (.or1 (.cmp .ne (.comp f_law_counts_s3 (.one 1) (.seq (.tup (.cons .non (.cons (.lst (.cons (.int 0) .nil)) (.cons (.tup (.cons (.int 2) .nil)) (.cons (.tup (.cons (.int 0) (.cons (.int 0) (.cons (.int 1) (.cons (.int 1) .nil))))) (.cons (.bin .mul (.tup (.cons (.int 0) .nil)) (.int 11)) .nil))))))) [1]) (.bin .mul (.lst (.cons (.str "row") .nil)) (.int 5))))) (.cons (.ret (.bl false)) .nil) .nil) (.cons (.ife (.or (.cmp .ne (.call .f_row_of (.cons (.int 1000) (.cons (.lst (.cons (.bin .sub (.int 0) (.int 2000)) .nil)) .nil))) (.lst (.cons (.int 1000) (.cons (.bin .sub (.int 0) (.int 1000)) .nil)))) (.or1 (.cmp .ne (.call .f_row_of (.cons (.bin .sub (.int 0) (.int 1000)) (.cons (.lst (.cons (.int 2000) .nil)) .nil))) (.lst (.cons (.bin .sub (.int 0) (.int 1000)) (.cons (.int 1000) .nil)))))) (.cons (.ret (.bl false)) .nil) .nil) (.cons (.ret (.and (.call0 .f_law_strip) (.and (.cmp .eq (.call .f_law_asked_k16 (.cons (.int 2) (.cons (.int 7) (.cons (.int 100) (.cons (.int 0) .nil))))) (.str "done")) (.and1 (.cmp .lt (.call .f_law_draw (.cons (.var 0) (.cons (.int 2) .nil))) (.int 2)))))) .nil))))⟩
def f_wall_s1 : ME Fn := (.bl true)
def f_wall_s2 : MB Fn := (.cons .pass .nil)
def Bf_wall : FDef Fn := ⟨1, 1,
  (.cons (.while_ f_wall_s1 f_wall_s2) .nil)⟩
def Bf_law_first : FDef Fn := ⟨1, 1,
  (.cons (.ife (.or (.cmp .isn (.call .f_are_points (.cons (.lst (.cons (.tup (.cons (.int 1) (.cons (.int 0) .nil))) (.cons (.tup (.cons (.int 0) (.cons (.int 0) .nil))) .nil))) .nil)) (.bl false)) (.or (.cmp .ne (.call .f_simplest (.cons (.tup (.cons (.int 1) (.cons (.int 3) .nil))) (.cons (.tup (.cons (.int 1) (.cons (.int 2) .nil))) .nil))) (.tup (.cons (.int 2) (.cons (.int 5) .nil)))) (.or1 (.cmp .ne (.call .f_simplest (.cons (.tup (.cons (.bin .sub (.int 0) (.int 5)) (.cons (.int 2) .nil))) (.cons (.tup (.cons (.int 7) (.cons (.int 1) .nil))) .nil))) (.tup (.cons (.int 0) (.cons (.int 1) .nil))))))) (.cons (.ret (.bl false)) .nil) .nil) (.cons (.ife (.or (.cmp .ne (.call .f_slopes (.cons (.var 0) .nil)) (.tup (.cons (.tup (.cons (.int 0) (.cons (.int 1) .nil))) (.cons (.tup (.cons (.int 1) (.cons (.int 1) .nil))) .nil)))) (.or (.cmp .isn (.call .f_explains (.cons (.tup (.cons (.int 1) (.cons (.int 2) (.cons (.int 0) .nil)))) (.cons (.var 0) .nil))) (.bl true)) (.or1 (.cmp .ne (.call .f_offsets_for (.cons (.var 0) (.cons (.tup (.cons (.int 2) (.cons (.int 3) .nil))) .nil))) (.tup (.cons (.int 0) (.cons (.int 0) .nil))))))) (.cons (.ret (.bl false)) .nil) .nil) (.cons (.ife (.or (.cmp .ne (.call .f_leanest_line (.cons (.var 0) .nil)) (.tup (.cons (.int 1) (.cons (.int 2) (.cons (.int 0) .nil))))) (.or1 (.cmp .ne (.call .f_lines_with (.cons (.var 0) (.cons (.int 3) .nil))) (.lst (.cons (.tup (.cons (.int 1) (.cons (.int 3) (.cons (.int 1) .nil)))) (.cons (.tup (.cons (.int 2) (.cons (.int 3) (.cons (.int 0) .nil)))) .nil)))))) (.cons (.ret (.bl false)) .nil) .nil) (.cons (.ife (.or (.cmp .ne (.call .f_clash (.cons (.lst (.cons (.tup (.cons (.int 0) (.cons (.int 0) .nil))) (.cons (.tup (.cons (.int 1) (.cons (.int 0) .nil))) (.cons (.tup (.cons (.int 2) (.cons (.int 2) .nil))) .nil)))) .nil)) (.tup (.cons (.tup (.cons (.int 0) (.cons (.int 0) .nil))) (.cons (.tup (.cons (.int 1) (.cons (.int 0) .nil))) (.cons (.tup (.cons (.int 2) (.cons (.int 2) .nil))) .nil))))) (.or1 (.cmp .ne (.call .f_row_of (.cons (.int 0) (.cons (.lst (.cons (.int 0) (.cons (.int 1) .nil))) .nil))) (.lst (.cons (.int 0) (.cons (.int 0) (.cons (.int 1) .nil))))))) (.cons (.ret (.bl false)) .nil) .nil) (.cons (.ret (.and (.cmp .eq (.call .f_uneven (.cons (.lst (.cons (.int 0) (.cons (.int 0) (.cons (.int 2) .nil)))) .nil)) (.tup (.cons (.int 1) (.cons (.int 0) (.cons (.int 1) .nil))))) (.and1 (.cmp .eq (.call .f_next_heights (.cons (.lst (.cons (.int 0) (.cons (.int 0) (.cons (.int 1) .nil)))) .nil)) (.lst (.cons (.int 1) (.cons (.int 2) .nil))))))) .nil)))))⟩
def Bf_law_second : FDef Fn := ⟨1, 1,
  (.cons (.ife (.or (.cmp .ne (.call .f_certain_heights (.cons (.var 0) (.cons (.int 0) (.cons (.int 3) .nil)))) (.lst (.cons (.int 0) (.cons (.int 0) (.cons (.int 1) (.cons .non .nil)))))) (.or (.cmp .ne (.call .f_count_rows (.cons (.int 4) .nil)) (.int 14)) (.or1 (.cmp .ne (.call .f_steps_at (.cons (.int 2) (.cons (.int 1) .nil))) (.tup (.cons (.int 0) (.cons (.int 1) .nil))))))) (.cons (.ret (.bl false)) .nil) .nil) (.cons (.ife (.or (.cmp .ne (.call .f_pieces (.cons (.lst (.cons (.int 0) (.cons (.int 0) (.cons (.int 2) (.cons (.int 2) .nil))))) .nil)) (.lst (.cons (.int 2) (.cons (.int 2) .nil)))) (.or (.cmp .ne (.call .f_corners (.cons (.lst (.cons (.int 0) (.cons (.int 0) (.cons (.int 2) (.cons (.int 2) .nil))))) .nil)) (.lst (.cons (.tup (.cons (.int 2) (.cons (.int 2) .nil))) .nil))) (.or1 (.cmp .ne (.call .f_fewest_wrong (.cons (.lst (.cons (.tup (.cons (.int 0) (.cons (.int 0) .nil))) (.cons (.tup (.cons (.int 1) (.cons (.int 5) .nil))) (.cons (.tup (.cons (.int 2) (.cons (.int 0) .nil))) .nil)))) .nil)) (.tup (.cons (.int 0) .nil)))))) (.cons (.ret (.bl false)) .nil) .nil) (.cons (.ife (.or (.cmp .ne (.call .f_every (.cons (.var 0) (.cons (.int 2) (.cons (.int 0) .nil)))) (.lst (.cons (.tup (.cons (.int 0) (.cons (.int 0) .nil))) (.cons (.tup (.cons (.int 1) (.cons (.int 1) .nil))) .nil)))) (.or1 (.cmp .ne (.call .f_format_points (.cons (.var 0) .nil)) (.str "0,0 1,0 2,1")))) (.cons (.ret (.bl false)) .nil) .nil) (.cons (.ret (.and (.cmp .eq (.call .f_format_line (.cons (.tup (.cons (.int 1) (.cons (.int 2) (.cons (.int 0) .nil)))) .nil)) (.str "(1 x + 0) / 2")) (.and (.cmp .eq (.call .f_format_line (.cons (.tup (.cons (.bin .sub (.int 0) (.int 3)) (.cons (.int 1) (.cons (.bin .sub (.int 0) (.int 4)) .nil)))) .nil)) (.str "(-3 x - 4) / 1")) (.and1 (.cmp .eq (.call .f_drawn (.cons (.lst (.cons (.int 0) (.cons (.int 1) .nil))) .nil)) (.lst (.cons (.str ".#") (.cons (.str "#.") .nil)))))))) .nil))))⟩
def TB : Fn → Option (FDef Fn)
  | .f_is_int => some Bf_is_int
  | .f_is_point => some Bf_is_point
  | .f_are_points => some Bf_are_points
  | .f_check_points => some Bf_check_points
  | .f_common => some Bf_common
  | .f_lowest => some Bf_lowest
  | .f_less => some Bf_less
  | .f_bounds => some Bf_bounds
  | .f_straight => some Bf_straight
  | .f_is_straight => some Bf_is_straight
  | .f_check_straight => some Bf_check_straight
  | .f_slopes => some Bf_slopes
  | .f_is_line => some Bf_is_line
  | .f_check_line => some Bf_check_line
  | .f_explains => some Bf_explains
  | .f_law_start => none
  | .f_law_draw => none
  | .f_law_pick => some Bf_law_pick
  | .f_law_error => some Bf_law_error
  | .f_law_true => some Bf_law_true
  | .f_law_common => some Bf_law_common
  | .f_law_low => some Bf_law_low
  | .f_law_line => some Bf_law_line
  | .f_law_height => some Bf_law_height
  | .f_law_xs => some Bf_law_xs
  | .f_law_points => some Bf_law_points
  | .f_law_bounds => some Bf_law_bounds
  | .f_law_told => some Bf_law_told
  | .f_law_told_k02 => some Bf_law_told_k02
  | .f_law_told_k03 => some Bf_law_told_k03
  | .f_law_told_k07 => some Bf_law_told_k07
  | .f_law_k01 => some Bf_law_k01
  | .f_law_k02 => some Bf_law_k02
  | .f_law_k03 => some Bf_law_k03
  | .f_law_k04 => some Bf_law_k04
  | .f_law_k05 => some Bf_law_k05
  | .f_law_k06 => some Bf_law_k06
  | .f_law_k07 => some Bf_law_k07
  | .f_law_k08 => some Bf_law_k08
  | .f_law_k09 => some Bf_law_k09
  | .f_law_k10 => some Bf_law_k10
  | .f_law_k11 => some Bf_law_k11
  | .f_law_k12 => some Bf_law_k12
  | .f_law_k13 => some Bf_law_k13
  | .f_law_k14 => some Bf_law_k14
  | .f_law_k15 => some Bf_law_k15
  | .f_law_k16 => some Bf_law_k16
  | .f_law_k17 => some Bf_law_k17
  | .f_law_k18 => some Bf_law_k18
  | .f_law_k19 => some Bf_law_k19
  | .f_law_k20 => some Bf_law_k20
  | .f_law_k21 => some Bf_law_k21
  | .f_is_fraction => some Bf_is_fraction
  | .f_check_fraction => some Bf_check_fraction
  | .f_simplest_in => some Bf_simplest_in
  | .f_height_at => some Bf_height_at
  | .f_offsets => some Bf_offsets
  | .f_offsets_for => some Bf_offsets_for
  | .f_leanest => some Bf_leanest
  | .f_leanest_line => some Bf_leanest_line
  | .f_law_fits => some Bf_law_fits
  | .f_lines_with => some Bf_lines_with
  | .f_law_lines => some Bf_law_lines
  | .f_simplest => some Bf_simplest
  | .f_triples => some Bf_triples
  | .f_clash => some Bf_clash
  | .f_all_clashes => some Bf_all_clashes
  | .f_clashes_at => some Bf_clashes_at
  | .f_law_groups => some Bf_law_groups
  | .f_is_row => some Bf_is_row
  | .f_check_row => some Bf_check_row
  | .f_as_points => some Bf_as_points
  | .f_points_of => some Bf_points_of
  | .f_is_straight_row => some Bf_is_straight_row
  | .f_differences => some Bf_differences
  | .f_steps_of => some Bf_steps_of
  | .f_row_of => some Bf_row_of
  | .f_window_sums => some Bf_window_sums
  | .f_uneven => some Bf_uneven
  | .f_law_row => some Bf_law_row
  | .f_with_point => some Bf_with_point
  | .f_possible => some Bf_possible
  | .f_check_two => some Bf_check_two
  | .f_heights_at => some Bf_heights_at
  | .f_next_heights => some Bf_next_heights
  | .f_certain_heights => some Bf_certain_heights
  | .f_law_possible => some Bf_law_possible
  | .f_without_divisor => some Bf_without_divisor
  | .f_count_rows => some Bf_count_rows
  | .f_behind => some Bf_behind
  | .f_longer => some Bf_longer
  | .f_all_rows => some Bf_all_rows
  | .f_check_length => some Bf_check_length
  | .f_step_rows => some Bf_step_rows
  | .f_check_steps => some Bf_check_steps
  | .f_rank_of => some Bf_rank_of
  | .f_steps_at => some Bf_steps_at
  | .f_is_piece => some Bf_is_piece
  | .f_longest => some Bf_longest
  | .f_longest_piece => some Bf_longest_piece
  | .f_pieces => some Bf_pieces
  | .f_is_parting => some Bf_is_parting
  | .f_count_partings => some Bf_count_partings
  | .f_corners => some Bf_corners
  | .f_law_ok => some Bf_law_ok
  | .f_law_lists => some Bf_law_lists
  | .f_choices_of => some Bf_choices_of
  | .f_without => some Bf_without
  | .f_good_groups => some Bf_good_groups
  | .f_check_few => some Bf_check_few
  | .f_fewest => some Bf_fewest
  | .f_fewest_wrong => some Bf_fewest_wrong
  | .f_count_wrong => some Bf_count_wrong
  | .f_surely_wrong => some Bf_surely_wrong
  | .f_is_enough => some Bf_is_enough
  | .f_checked => some Bf_checked
  | .f_moved => some Bf_moved
  | .f_sheared => some Bf_sheared
  | .f_turned_over => some Bf_turned_over
  | .f_backward => some Bf_backward
  | .f_every => some Bf_every
  | .f_Strip => none
  | .m___init__ => none
  | .m_add => some Bm_add
  | .m_fits => some Bm_fits
  | .m_fits_k17 => some Bm_fits_k17
  | .m_drop => some Bm_drop
  | .m_drop_k17 => some Bm_drop_k17
  | .m_points => some Bm_points
  | .m_slopes => some Bm_slopes
  | .m_line => some Bm_line
  | .m_undo => some Bm_undo
  | .m_undo_k17 => some Bm_undo_k17
  | .m___len__ => some Bm___len__
  | .f_law_call => some Bf_law_call
  | .f_parse_number => some Bf_parse_number
  | .f_check_text => some Bf_check_text
  | .f_format_points => some Bf_format_points
  | .f_parse_points => some Bf_parse_points
  | .f_format_row => some Bf_format_row
  | .f_parse_row => some Bf_parse_row
  | .f_format_line => some Bf_format_line
  | .f_drawn => some Bf_drawn
  | .f_law_written => some Bf_law_written
  | .f_law_parsed => some Bf_law_parsed
  | .f_law_rejected => some Bf_law_rejected
  | .f_law_one => some Bf_law_one
  | .f_law_two => some Bf_law_two
  | .f_law_line_call => some Bf_law_line_call
  | .f_law_asked => some Bf_law_asked
  | .f_law_asked_k16 => some Bf_law_asked_k16
  | .f_law_numbers => some Bf_law_numbers
  | .f_law_row_call => some Bf_law_row_call
  | .f_law_more => some Bf_law_more
  | .f_law_strip_call => some Bf_law_strip_call
  | .f_law_strip => some Bf_law_strip
  | .f_law_counts => some Bf_law_counts
  | .f_wall => some Bf_wall
  | .f_law_first => some Bf_law_first
  | .f_law_second => some Bf_law_second
def SPC : Fn → List D → W → Res D
  | .f_law_start => startG
  | .f_law_draw => drawG
  | .f_Strip => mkG
  | _ => fun _ _ => .stk
def run (n : Nat) : Fn → List D → W → Res D := callN TB SPC n
end Px

end

section
namespace Px
open PySem Ev
theorem rok {α β : Type} (a : α) (w : W) (f : α → W → Res β) : (Res.ok a w).bind f = f a w := rfl
theorem rokO {α : Type} (a : α) (w : W) (ρ : Ev.Env) (f : α → W → Out) : (Res.ok a w).toO ρ f = f a w := rfl
theorem rexO {α : Type} (c : Nat) (w : W) (ρ : Ev.Env) (f : α → W → Out) : (Res.exc c w : Res α).toO ρ f = .exc c ρ w := rfl
theorem rex {α β : Type} (c : Nat) (w : W) (f : α → W → Res β) : (Res.exc c w : Res α).bind f = .exc c w := rfl
theorem onx (ρ : Ev.Env) (w : W) (f : Ev.Env → W → Out) : (Out.next ρ w).bind f = f ρ w := rfl
theorem ort (d : D) (w : W) (f : Ev.Env → W → Out) : (Out.ret d w).bind f = .ret d w := rfl
theorem oex (c : Nat) (ρ : Ev.Env) (w : W) (f : Ev.Env → W → Out) : (Out.exc c ρ w).bind f = .exc c ρ w := rfl
theorem lifs {α : Type} (a : α) (w : W) : lif (some a) w = .ok a w := rfl
theorem tstb (b : Bool) (w : W) : tst (.ok (.bl b) w) = .ok b w := rfl
theorem tstbP (b : Bool) (w : W) : tst (.ok (.p (.bool b)) w) = .ok b w := rfl
theorem gv0 (d : D) (ρ : Ev.Env) : getV (.val d :: ρ) 0 = some d := rfl
theorem gvS (s : Slot) (ρ : Ev.Env) (i : Nat) : getV (s :: ρ) (i + 1) = getV ρ i := by
  unfold getV; rfl
theorem go0 (d : List PyData) (ρ : Ev.Env) : getO (.own d :: ρ) 0 = some d := rfl
theorem goS (s : Slot) (ρ : Ev.Env) (i : Nat) : getO (s :: ρ) (i + 1) = getO ρ i := by
  unfold getO; rfl
theorem sv0 (s : Slot) (ρ : Ev.Env) (d : D) : setV (s :: ρ) 0 d = .val d :: ρ := rfl
theorem svS (s : Slot) (ρ : Ev.Env) (i : Nat) (d : D) : setV (s :: ρ) (i + 1) d = s :: setV ρ i d := rfl
theorem run_def (n : Nat) (f : Fn) (d : FDef Fn) (h : TB f = some d) (ds : List D) (w : W) : run (n + 1) f ds w = runD (run n) d ds w := by
  unfold run callN
  rw [h]
def finR : Out → Res D
  | .next _ w1 => .ok .non w1
  | .ret x w1 => .ok x w1
  | .exc c _ w1 => .exc c w1
  | _ => .stk
theorem finN (ρ : Ev.Env) (w : W) : finR (.next ρ w) = .ok .non w := rfl
theorem finT (d : D) (w : W) : finR (.ret d w) = .ok d w := rfl
theorem finX (c : Nat) (ρ : Ev.Env) (w : W) : finR (.exc c ρ w) = .exc c w := rfl
theorem runD_eq {φ : Fn → List D → W → Res D} (d : FDef Fn) (ds : List D) (w : W) (ρ : Ev.Env) (b : MB Fn) (h : ds.length = d.np ∧ d.np ≤ d.nn) (h2 : ds.map Slot.val ++ List.replicate (d.nn - ds.length) .un = ρ) (h3 : d.body = b) : runD φ d ds w = finR (evB φ ρ b w) := by
  unfold runD
  rw [if_pos h, h2, h3]
  rfl
/-! ### the syntax, one step; loops stay closed -/
section
variable {φ : Fn → List D → W → Res D} {ρ : Ev.Env} {w : W}
def fE (φ : Fn → List D → W → Res D) (e : ME Fn) : Ev.Env → W → Res D := fun ρ w => evE φ ρ e w
def fB (φ : Fn → List D → W → Res D) (b : MB Fn) : Ev.Env → W → Out := fun ρ w => evB φ ρ b w
def fC (φ : Fn → List D → W → Res D) (e : ME Fn) : Ev.Env → W → Res (Option PyData) := fun ρ w => plainR (evE φ ρ e w)
def fCI (φ : Fn → List D → W → Res D) (e c : ME Fn) : Ev.Env → W → Res (Option PyData) := fun ρ w => (tst (evE φ ρ c w)).bind fun b w' => if b = true then plainR (evE φ ρ e w') else .ok none w'
theorem e_var (i : Nat) : evE φ ρ (.var i) w = lif (getV ρ i) w := by unfold evE; rfl
theorem e_non : evE φ ρ .non w = .ok .non w := by unfold evE; rfl
theorem e_bl (b : Bool) : evE φ ρ (.bl b) w = .ok (.bl b) w := by unfold evE; rfl
theorem e_int (i : Int) : evE φ ρ (.int i) w = .ok (.int i) w := by unfold evE; rfl
theorem e_str (x : Str) : evE φ ρ (.str x) w = .ok (.str x) w := by unfold evE; rfl
theorem e_gint (x : Str) (i : Int) : evE φ ρ (.gint x i) w = .ok (.int i) w := by unfold evE; rfl
theorem e_bin (op : BO) (a b : ME Fn) : evE φ ρ (.bin op a b) w = (evE φ ρ a w).bind fun x w1 => (evE φ ρ b w1).bind fun y w2 => lif (binV op x y) w2 := by rw [evE] <;> rfl
theorem e_neg (a : ME Fn) : evE φ ρ (.neg a) w = (evE φ ρ a w).bind fun x w1 => lif (negV x) w1 := by rw [evE] <;> rfl
theorem e_not (a : ME Fn) : evE φ ρ (.not a) w = (evE φ ρ a w).bind fun x w1 => lif (notV x) w1 := by rw [evE] <;> rfl
theorem e_cmp (op : CO) (a b : ME Fn) : evE φ ρ (.cmp op a b) w = (evE φ ρ a w).bind fun x w1 => (evE φ ρ b w1).bind fun y w2 => lif (cmpV op x y) w2 := by rw [evE] <;> rfl
theorem e_chain (op op' : CO) (a b c : ME Fn) : evE φ ρ (.chain op op' a b c) w = (evE φ ρ a w).bind fun x w1 => (evE φ ρ b w1).bind fun y w2 => (lif ((cmpV op x y).bind toB) w2).bind fun t w3 => if t = true then (evE φ ρ c w3).bind fun z w4 => lif (cmpV op' y z) w4 else .ok (.bl false) w3 := by
  rw [evE]
  congr; funext x w1; congr; funext y w2; congr; funext t w3; cases t <;> rfl
theorem e_and (a b : ME Fn) : evE φ ρ (.and a b) w = (tst (evE φ ρ a w)).bind fun t w1 => if t = true then evE φ ρ b w1 else .ok (.bl false) w1 := by
  rw [evE]
  congr; funext t w1; cases t <;> rfl
theorem e_or (a b : ME Fn) : evE φ ρ (.or a b) w = (tst (evE φ ρ a w)).bind fun t w1 => if t = true then .ok (.bl true) w1 else evE φ ρ b w1 := by
  rw [evE]
  congr; funext t w1; cases t <;> rfl
theorem e_and1 (a : ME Fn) : evE φ ρ (.and1 a) w = evE φ ρ a w := by rw [evE] <;> rfl
theorem e_or1 (a : ME Fn) : evE φ ρ (.or1 a) w = evE φ ρ a w := by rw [evE] <;> rfl
theorem e_ite (c a b : ME Fn) : evE φ ρ (.ite c a b) w = (tst (evE φ ρ c w)).bind fun t w1 => if t = true then evE φ ρ a w1 else evE φ ρ b w1 := by
  rw [evE]
  congr; funext t w1; cases t <;> rfl
theorem e_call (f : Fn) (es : MEs Fn) : evE φ ρ (.call f es) w = (evEs φ ρ es w).bind fun ds w1 => φ f ds w1 := by rw [evE] <;> rfl
theorem e_call0 (f : Fn) : evE φ ρ (.call0 f) w = φ f [] w := by rw [evE] <;> rfl
theorem e_mkS (f : Fn) : evE φ ρ (.mkS f) w = φ f [] w := by rw [evE] <;> rfl
theorem e_meth (f : Fn) (i : Nat) (es : MEs Fn) : evE φ ρ (.meth f i es) w = match getV ρ i with
      | some .stp => (evEs φ ρ es w).bind fun ds w1 => φ f (.stp :: ds) w1
      | _ => .stk := by rw [evE] <;> rfl
theorem e_meth0 (f : Fn) (i : Nat) : evE φ ρ (.meth0 f i) w = match getV ρ i with
      | some .stp => φ f [.stp] w
      | _ => .stk := by rw [evE] <;> rfl
theorem e_srow (i : Nat) : evE φ ρ (.srow i) w = match getV ρ i, w.sp with
      | some .stp, some (row, _) => .ok (.p row) w
      | _, _ => .stk := by rw [evE] <;> rfl
theorem e_noPast (i : Nat) : evE φ ρ (.noPast i) w = match getV ρ i, w.sp with
      | some .stp, some (_, past) => lif ((cmpD .eq (.list past) (.list [])).map D.bl) w
      | _, _ => .stk := by rw [evE] <;> rfl
theorem e_lenS (i : Nat) : evE φ ρ (.lenS i) w = match getV ρ i, w.sp with
      | some .stp, some (.list xs, _) => if sizeOk xs.length = true then .ok (.int xs.length) w else .stk
      | _, _ => .stk := by rw [evE] <;> rfl
theorem e_neO (i : Nat) : evE φ ρ (.neO i) w = match getO ρ i with
      | some xs => lif ((cmpD .ne (.list xs) (.list [])).map D.bl) w
      | none => .stk := by rw [evE] <;> rfl
theorem s_setRow (i : Nat) (e : ME Fn) : evS φ ρ (.setRow i e) w = (evE φ ρ e w).toO ρ fun d w1 => match d, getV ρ i, w1.sp with
      | .p (.list xs), some .stp, some (_, past) => .next ρ ⟨w1.dr, some (.list xs, past), w1.scr⟩
      | _, _, _ => .stk := by rw [evS] <;> rfl
theorem s_appPast (i : Nat) : evS φ ρ (.appPast i) w = match getV ρ i, w.sp with
      | some .stp, some (row, past) => if sizeOk past.length = true then .next ρ ⟨w.dr, some (row, past ++ [row]), w.scr⟩ else .stk
      | _, _ => .stk := by rw [evS] <;> rfl
theorem s_popPast (i : Nat) : evS φ ρ (.popPast i) w = match getV ρ i, w.sp with
      | some .stp, some (_, past) => (match past[past.length - 1]? with
        | some (.list r) => .next ρ ⟨w.dr, some (.list r, past.dropLast), w.scr⟩
        | _ => .stk)
      | _, _ => .stk := by rw [evS] <;> rfl
theorem s_popO (j i : Nat) : evS φ ρ (.popO j i) w = match getO ρ i, getV ρ j with
      | some xs, some d => if shp (.list xs) = true ∧ shp (.list []) = true then (match xs[xs.length - 1]? with
        | some r => .next (setV (ρ.set i (.own xs.dropLast)) j (.p r)) w
        | none => .next (setV ρ j d) w) else .stk
      | _, _ => .stk := by rw [evS] <;> rfl
theorem s_par3O (f : Fn) (i j k : Nat) : evS φ ρ (.par3O f i j k) w = (φ f [] w).toO ρ fun d w1 => .next ((setV (setV ρ i d) j (.lst [])).set k (.own [])) w1 := by rw [evS] <;> rfl
theorem e_sset (a : ME Fn) : evE φ ρ (.sset a) w = (evE φ ρ a w).bind fun x w1 => lif (ssetV x) w1 := by rw [evE] <;> rfl
theorem e_fmt (a : ME Fn) : evE φ ρ (.fmt a) w = (evE φ ρ a w).bind fun x w1 => lif (fmtV x) w1 := by rw [evE] <;> rfl
theorem e_fstr (es : MEs Fn) : evE φ ρ (.fstr es) w = (evEs φ ρ es w).bind fun ds w1 => lif (fstrV ds) w1 := by rw [evE] <;> rfl
theorem e_join (a b : ME Fn) : evE φ ρ (.join a b) w = (evE φ ρ a w).bind fun x w1 => match x with
      | .p (.str _) => (evE φ ρ b w1).bind fun y w2 => lif (joinV x y) w2
      | _ => .stk := by rw [evE] <;> rfl
theorem e_split (a b : ME Fn) : evE φ ρ (.split a b) w = (evE φ ρ a w).bind fun x w1 => match x with
      | .p (.str _) => (evE φ ρ b w1).bind fun y w2 => lif (splitV x y) w2
      | _ => .stk := by rw [evE] <;> rfl
theorem e_bcall (b : BF) (es : MEs Fn) : evE φ ρ (.bcall b es) w = (evEs φ ρ es w).bind fun ds w1 => lif (bV b ds) w1 := by rw [evE] <;> rfl
theorem e_isi (a : ME Fn) (t : TyN) : evE φ ρ (.isi a t) w = (evE φ ρ a w).bind fun x w1 => lif ((isiV x t).map D.bl) w1 := by rw [evE] <;> rfl
theorem e_ix (a b : ME Fn) : evE φ ρ (.ix a b) w = (evE φ ρ a w).bind fun x w1 => (evE φ ρ b w1).bind fun y w2 => lif (ixV x y) w2 := by rw [evE] <;> rfl
theorem e_sl (a : ME Fn) (lo hi : MO Fn) : evE φ ρ (.sl a lo hi) w = (evE φ ρ a w).bind fun x w1 => (evO φ ρ lo w1).bind fun l w2 => (evO φ ρ hi w2).bind fun h w3 => match x with
      | .p d => lif ((slD d l h).map D.p) w3
      | _ => .stk := by rw [evE] <;> rfl
theorem e_tup (es : MEs Fn) : evE φ ρ (.tup es) w = (evEs φ ρ es w).bind fun ds w1 => lif ((plains ds).map D.tup) w1 := by rw [evE] <;> rfl
theorem e_lst (es : MEs Fn) : evE φ ρ (.lst es) w = (evEs φ ρ es w).bind fun ds w1 => lif ((plains ds).map D.lst) w1 := by rw [evE] <;> rfl
theorem e_comp (elt : ME Fn) (t : MT) (it : MI Fn) (vs : List Nat) : evE φ ρ (.comp elt t it vs) w = (evI φ ρ it w).bind fun xs w1 => if sizeOk xs.length = true then (compGo (fC φ elt) (wipeE (noOwn ρ) vs) t xs w1).bind fun ys w2 => .ok (.lst ys) w2 else .stk := by rw [evE]; rfl
theorem e_compIf (elt : ME Fn) (t : MT) (it : MI Fn) (c : ME Fn) (vs : List Nat) : evE φ ρ (.compIf elt t it c vs) w = (evI φ ρ it w).bind fun xs w1 => if sizeOk xs.length = true then (compGo (fCI φ elt c) (wipeE (noOwn ρ) vs) t xs w1).bind fun ys w2 => .ok (.lst ys) w2 else .stk := by
  rw [evE]
  congr; funext xs w1; congr; funext ρ' w'; unfold fCI; congr; funext b w''; cases b <;> rfl
theorem e_lenO (i : Nat) : evE φ ρ (.lenO i) w = lif ((getO ρ i).map fun l => .int l.length) w := by rw [evE] <;> rfl
theorem e_ixO (i : Nat) (b : ME Fn) : evE φ ρ (.ixO i b) w = match getO ρ i with
      | some l => (evE φ ρ b w).bind fun y w1 => match y with
        | .p (.int k) => lif ((L2.atI l k).map D.p) w1
        | _ => .stk
      | none => .stk := by rw [evE] <;> rfl
theorem e_ninO (a : ME Fn) (i : Nat) : evE φ ρ (.ninO a i) w = (evE φ ρ a w).bind fun x w1 => match getO ρ i, x with
      | some l, .p d => lif ((cmpD .nin d (.list l)).map D.bl) w1
      | _, _ => .stk := by rw [evE] <;> rfl
theorem es_nil : evEs φ ρ .nil w = .ok [] w := by rw [evEs] <;> rfl
theorem es_cons (e : ME Fn) (es : MEs Fn) : evEs φ ρ (.cons e es) w = (evE φ ρ e w).bind fun x w1 => (evEs φ ρ es w1).bind fun xs w2 => .ok (x :: xs) w2 := by rw [evEs] <;> rfl
theorem i_seq (e : ME Fn) : evI φ ρ (.seq e) w = (evE φ ρ e w).bind fun x w1 => lif (seqV x) w1 := by rw [evI] <;> rfl
theorem i_r1 (a : ME Fn) : evI φ ρ (.range1 a) w = (evE φ ρ a w).bind fun x w1 => lif (rngD1 x) w1 := by rw [evI] <;> rfl
theorem i_r2 (a b : ME Fn) : evI φ ρ (.range2 a b) w = (evE φ ρ a w).bind fun x w1 => (evE φ ρ b w1).bind fun y w2 => lif (rngD2 x y) w2 := by rw [evI] <;> rfl
theorem i_r3 (a b c : ME Fn) : evI φ ρ (.range3 a b c) w = (evE φ ρ a w).bind fun x w1 => (evE φ ρ b w1).bind fun y w2 => (evE φ ρ c w2).bind fun z w3 => lif (rngD3 x y z) w3 := by rw [evI] <;> rfl
theorem i_enum (e : ME Fn) : evI φ ρ (.enum e) w = (evE φ ρ e w).bind fun x w1 => lif (enumD x) w1 := by rw [evI] <;> rfl
theorem i_zip (a b : ME Fn) : evI φ ρ (.zip a b) w = (evE φ ρ a w).bind fun x w1 => (evE φ ρ b w1).bind fun y w2 => lif (zipD x y) w2 := by rw [evI] <;> rfl
theorem o_non : evO φ ρ .non w = .ok none w := by rw [evO] <;> rfl
theorem o_some (e : ME Fn) : evO φ ρ (.some e) w = (evE φ ρ e w).bind fun x w1 => match x with
      | .p (.int i) => .ok (some i) w1
      | _ => .stk := by rw [evO] <;> rfl
theorem s_set (i : Nat) (e : ME Fn) : evS φ ρ (.set i e) w = (evE φ ρ e w).toO ρ fun d w1 => .next (setV ρ i d) w1 := by rw [evS] <;> rfl
theorem s_setO (i : Nat) (e : ME Fn) : evS φ ρ (.setO i e) w = (evE φ ρ e w).toO ρ fun d w1 => match d with
      | .p (.list xs) => .next (ρ.set i (.own xs)) w1
      | _ => .stk := by rw [evS] <;> rfl
theorem s_parO (i : Nat) (es : MEs Fn) (j : Nat) (k : Int) : evS φ ρ (.parO i es j k) w = (evE φ ρ (.lst es) w).toO ρ fun d w1 => match d with
      | .p (.list xs) => .next (setV (ρ.set i (.own xs)) j (.int k)) w1
      | _ => .stk := by rw [evS] <;> rfl
theorem s_par (is : List Nat) (es : MEs Fn) : evS φ ρ (.par is es) w = (evEs φ ρ es w).toO ρ fun ds w1 => nxtO (setDs ρ is ds) w1 := by rw [evS] <;> rfl
theorem s_unp (is : List Nat) (e : ME Fn) : evS φ ρ (.unp is e) w = (evE φ ρ e w).toO ρ fun d w1 => match d with
      | .p (.tuple ds) => nxtO (setVs ρ is ds) w1
      | _ => .stk := by rw [evS] <;> rfl
theorem s_aug (i : Nat) (op : BO) (e : ME Fn) : evS φ ρ (.aug i op e) w = match getV ρ i with
      | some (.p (.int x)) => (evE φ ρ e w).toO ρ fun d w1 => match d with
        | .p (.int y) => (match binD op (.int x) (.int y) with
          | some z => .next (setV ρ i (.p z)) w1
          | none => .stk)
        | _ => .stk
      | _ => .stk := by rw [evS] <;> rfl
theorem s_extO (i : Nat) (e : ME Fn) : evS φ ρ (.extO i e) w = match getO ρ i with
      | some xs => (evE φ ρ e w).toO ρ fun d w1 => match d with
        | .p (.list ys) => if sizeOk (xs.length + ys.length) = true then .next (ρ.set i (.own (xs ++ ys))) w1 else .stk
        | _ => .stk
      | none => .stk := by rw [evS] <;> rfl
theorem s_app (i : Nat) (e : ME Fn) : evS φ ρ (.app i e) w = match getO ρ i with
      | some xs => (evE φ ρ e w).toO ρ fun d w1 => match d with
        | .p y => if sizeOk xs.length = true then .next (ρ.set i (.own (xs ++ [y]))) w1 else .stk
        | _ => .stk
      | none => .stk := by rw [evS] <;> rfl
theorem s_stO (i : Nat) (j e : ME Fn) : evS φ ρ (.stO i j e) w = match getO ρ i with
      | some xs => (evE φ ρ e w).toO ρ fun d w1 => (evE φ ρ j w1).toO ρ fun k w2 => match d, k with
        | .p y, .p (.int k) => (match L2.ixN xs.length k with
          | some n => .next (ρ.set i (.own (xs.set n y))) w2
          | none => .stk)
        | _, _ => .stk
      | none => .stk := by rw [evS] <;> rfl
theorem s_ife (c : ME Fn) (a b : MB Fn) : evS φ ρ (.ife c a b) w = (tst (evE φ ρ c w)).toO ρ fun t w1 => if t = true then evB φ ρ a w1 else evB φ ρ b w1 := by
  rw [evS]
  congr; funext t w1; cases t <;> rfl
theorem s_for (t : MT) (it : MI Fn) (b : MB Fn) : evS φ ρ (.for_ t it b) w = (evI φ ρ it w).toO ρ fun xs w1 => forGo (fB φ b) t xs ρ w1 := by rw [evS]; rfl
theorem s_while (c : ME Fn) (b : MB Fn) : evS φ ρ (.while_ c b) w = whileGo (fE φ c) (fB φ b) whileMost ρ w := by rw [evS]; rfl
theorem s_ret (e : ME Fn) : evS φ ρ (.ret e) w = (evE φ ρ e w).toO ρ fun d w1 => .ret d w1 := by rw [evS] <;> rfl
theorem s_retN : evS φ ρ .retN w = .ret .non w := by rw [evS] <;> rfl
theorem s_expr (e : ME Fn) : evS φ ρ (.expr e) w = (evE φ ρ e w).toO ρ fun _ w1 => .next ρ w1 := by rw [evS] <;> rfl
theorem s_raise (c : Nat) : evS φ ρ (.raise c) w = .exc c ρ w := by rw [evS] <;> rfl
theorem e_lenum (a : ME Fn) : evE φ ρ (.lenum a) w = (evE φ ρ a w).bind fun x w1 => lif (lenumV x) w1 := by rw [evE] <;> rfl
theorem e_lrng (a b : ME Fn) : evE φ ρ (.lrng a b) w = (evE φ ρ a w).bind fun x w1 => (evE φ ρ b w1).bind fun y w2 => lif (lrngV x y) w2 := by rw [evE] <;> rfl
theorem e_slS (a : ME Fn) (lo : MO Fn) (st : ME Fn) : evE φ ρ (.slS a lo st) w = (evE φ ρ a w).bind fun x w1 => (evO φ ρ lo w1).bind fun l w2 => (evE φ ρ st w2).bind fun h w3 => match x, h with
      | .p d, .p (.int k) => lif ((slSD d l k).map D.p) w3
      | _, _ => .stk := by rw [evE] <;> rfl
theorem e_index (a b : ME Fn) : evE φ ρ (.index a b) w = (evE φ ρ a w).bind fun x w1 => match x with
      | .p (.list xs) => (evE φ ρ b w1).bind fun y w2 => lif (idxV (.lst xs) y) w2
      | _ => .stk := by rw [evE] <;> rfl
theorem e_count (a b : ME Fn) : evE φ ρ (.count a b) w = (evE φ ρ a w).bind fun x w1 => match x with
      | .p (.list xs) => (evE φ ρ b w1).bind fun y w2 => lif (cntV (.lst xs) y) w2
      | _ => .stk := by rw [evE] <;> rfl
theorem s_try (b : MB Fn) (i j : Nat) : evS φ ρ (.try_ b i j) w = match evB φ ρ b w with
      | .exc c ρ' w' => if c ≤ 6 ∧ j < ρ'.length then .next ((setV ρ' i (.exc c)).set j .un) w' else .stk
      | o => o := by rw [evS] <;> rfl
theorem s_pass : evS φ ρ .pass w = .next ρ w := by rw [evS] <;> rfl
theorem b_nil : evB φ ρ .nil w = .next ρ w := by rw [evB] <;> rfl
theorem b_cons (s : MS Fn) (b : MB Fn) : evB φ ρ (.cons s b) w = (evS φ ρ s w).bind fun ρ1 w1 => evB φ ρ1 b w1 := by rw [evB] <;> rfl
theorem b_frz (i : Nat) (b : MB Fn) : evB φ ρ (.frz i b) w = match getO ρ i with
      | some xs => evB φ (setV ρ i (.lst xs)) b w
      | none => .stk := by rw [evB] <;> rfl
end
/-! ### ints -/
theorem lt_i (i j : Int) : cmpV .lt (.int i) (.int j) = some (.bl (decide (i < j))) := rfl
theorem le_i (i j : Int) : cmpV .le (.int i) (.int j) = some (.bl (decide (i ≤ j))) := rfl
theorem gt_i (i j : Int) : cmpV .gt (.int i) (.int j) = some (.bl (decide (j < i))) := rfl
theorem ge_i (i j : Int) : cmpV .ge (.int i) (.int j) = some (.bl (decide (j ≤ i))) := rfl
theorem add_i (i j : Int) : binV .add (.int i) (.int j) = some (.int (i + j)) := rfl
theorem sub_i (i j : Int) : binV .sub (.int i) (.int j) = some (.int (i - j)) := rfl
theorem mul_i {i j : Int} (h : -(2 ^ 64) < i ∧ i < 2 ^ 64) : binV .mul (.int i) (.int j) = some (.int (i * j)) := by
  show Option.map D.p (if mulB i j = true then some (.int (i * j)) else none) = _
  rw [if_pos (show mulB i j = true from decide_eq_true (.inl h))]
  rfl
theorem mul_j {i j : Int} (h : -(2 ^ 64) < j ∧ j < 2 ^ 64) : binV .mul (.int i) (.int j) = some (.int (i * j)) := by
  show Option.map D.p (if mulB i j = true then some (.int (i * j)) else none) = _
  rw [if_pos (show mulB i j = true from decide_eq_true (.inr h))]
  rfl
theorem fdiv_i {i j : Int} (h : 0 < j ∧ j < 1073741824) : binV .fdiv (.int i) (.int j) = some (.int (i / j)) := by
  show Option.map D.p (if 0 < j ∧ j < 1073741824 then some (.int (i / j)) else none) = _
  rw [if_pos h]
  rfl
theorem mod_i {i j : Int} (h : 0 < j) : binV .mod (.int i) (.int j) = some (.int (i % j)) := by
  show Option.map D.p (if 0 < j then some (.int (i % j)) else none) = _
  rw [if_pos h]
  rfl
theorem neg_i (i : Int) : negV (.int i) = some (.int (-i)) := rfl
theorem not_b (b : Bool) : notV (.bl b) = some (.bl (!b)) := rfl
theorem isN_p (d : PyData) : cmpV .is_ (.p d) .non = some (.bl (D.isN (.p d))) := by cases d <;> rfl
theorem isnN_p (d : PyData) : cmpV .isn (.p d) .non = some (.bl (!D.isN (.p d))) := by cases d <;> rfl
theorem isB (a b : Bool) : cmpV .is_ (.bl a) (.bl b) = some (.bl (decide (a = b))) := rfl
theorem isnB (a b : Bool) : cmpV .isn (.bl a) (.bl b) = some (.bl (!decide (a = b))) := rfl
theorem t0 (a b : PyData) : ixV (.tup [a, b]) (.int 0) = some (.p a) := rfl
theorem t1 (a b : PyData) : ixV (.tup [a, b]) (.int 1) = some (.p b) := rfl
theorem u0 (a b c : PyData) : ixV (.tup [a, b, c]) (.int 0) = some (.p a) := rfl
theorem u1 (a b c : PyData) : ixV (.tup [a, b, c]) (.int 1) = some (.p b) := rfl
theorem u2 (a b c : PyData) : ixV (.tup [a, b, c]) (.int 2) = some (.p c) := rfl
theorem pl_nil : plains [] = some [] := rfl
theorem pl_cons (d : PyData) (r : List D) : plains (.p d :: r) = (plains r).map fun l => d :: l := rfl
theorem seq_l (xs : List PyData) : seqV (.lst xs) = some xs := rfl
theorem seq_t (xs : List PyData) : seqV (.tup xs) = some xs := rfl
theorem len_l (xs : List PyData) : bV .len [.lst xs] = some (.int xs.length) := rfl
theorem len_t (xs : List PyData) : bV .len [.tup xs] = some (.int xs.length) := rfl
theorem list_l (xs : List PyData) : bV .list [.lst xs] = some (.lst xs) := rfl
theorem list_t (xs : List PyData) : bV .list [.tup xs] = some (.lst xs) := rfl
theorem abs_i (i : Int) : bV .abs [.int i] = some (.int (i.natAbs : Int)) := by
  show some (D.int (if i < 0 then -i else i)) = _
  congr 2
  split <;> omega
theorem enum_l (xs : List PyData) : enumD (.lst xs) = some (enumL 0 xs) := rfl
theorem sds0 (ρ : Ev.Env) : setDs ρ [] [] = some ρ := rfl
theorem sdsC (ρ : Ev.Env) (i : Nat) (is : List Nat) (d : D) (ds : List D) : setDs ρ (i :: is) (d :: ds) = setDs (setV ρ i d) is ds := rfl
theorem svs0 (ρ : Ev.Env) : setVs ρ [] [] = some ρ := rfl
theorem svsC (ρ : Ev.Env) (i : Nat) (is : List Nat) (d : PyData) (ds : List PyData) : setVs ρ (i :: is) (d :: ds) = setVs (setV ρ i (.p d)) is ds := rfl
theorem nx_s (ρ : Ev.Env) (w : W) : nxtO (some ρ) w = .next ρ w := rfl
theorem plainR_ok (d : PyData) (w : W) : plainR (.ok (.p d) w) = .ok (some d) w := rfl
theorem toB_b (b : Bool) : toB (.bl b) = some b := rfl
theorem set0 (s t : Slot) (ρ : Ev.Env) : List.set (s :: ρ) 0 t = t :: ρ := rfl
theorem setS (s t : Slot) (ρ : Ev.Env) (i : Nat) : List.set (s :: ρ) (i + 1) t = s :: List.set ρ i t := rfl
theorem no_nil : noOwn [] = [] := rfl
def noS : Slot → Slot
  | .own _ => .un
  | s => s
theorem no_c (s : Slot) (ρ : Ev.Env) : noOwn (s :: ρ) = noS s :: noOwn ρ := by cases s <;> rfl
theorem no_v (d : D) : noS (.val d) = .val d := rfl
theorem no_o (d : List PyData) : noS (.own d) = .un := rfl
theorem no_u : noS .un = .un := rfl
theorem wp_nil (ρ : Ev.Env) : wipeE ρ [] = ρ := rfl
theorem wp_cons (ρ : Ev.Env) (i : Nat) (is : List Nat) : wipeE ρ (i :: is) = (wipeE ρ is).set i .un := rfl
theorem tg1 (ρ : Ev.Env) (i : Nat) (d : PyData) : tgt ρ (.one i) d = some (setV ρ i (.p d)) := by cases d <;> rfl
theorem tgT (ρ : Ev.Env) (is : List Nat) (ds : List PyData) : tgt ρ (.tup is) (.tuple ds) = setVs ρ is ds := rfl
theorem tyi (i : Int) : isiV (.int i) .int = some true := rfl
theorem tyib (i : Int) : isiV (.int i) .bool = some false := rfl
theorem tyil (i : Int) : isiV (.int i) .list = some false := rfl
theorem tyit (i : Int) : isiV (.int i) .tuple = some false := rfl
theorem tytt (xs : List PyData) : isiV (.tup xs) .tuple = some true := rfl
theorem tytl (xs : List PyData) : isiV (.tup xs) .list = some false := rfl
theorem tyll (xs : List PyData) : isiV (.lst xs) .list = some true := rfl
theorem tylt (xs : List PyData) : isiV (.lst xs) .tuple = some false := rfl
theorem tybb (b : Bool) : isiV (.bl b) .bool = some true := rfl
theorem ix_p0 (p : Int × Int) : ixV (.p (ofPair p)) (.int 0) = some (.int p.1) := rfl
theorem ix_p1 (p : Int × Int) : ixV (.p (ofPair p)) (.int 1) = some (.int p.2) := rfl
theorem isN_none : D.isN (.p .none) = true := rfl
theorem isN_pair (p : Int × Int) : D.isN (.p (ofPair p)) = false := rfl
theorem isN_int (i : Int) : D.isN (.int i) = false := rfl
theorem isN_tup (xs : List PyData) : D.isN (.tup xs) = false := rfl
theorem isN_lst (xs : List PyData) : D.isN (.lst xs) = false := rfl
theorem tup_pair (i j : Int) : D.tup [.int i, .int j] = .p (ofPair (i, j)) := rfl
theorem typ (p : Int × Int) : isiV (.p (ofPair p)) .tuple = some true := rfl
theorem len_p (p : Int × Int) : bV .len [.p (ofPair p)] = some (.int 2) := rfl
local macro_rules | `(tactic| walk_at "ev") => `(tactic| simp -implicitDefEqProofs only [e_var, e_non, e_call0, e_mkS, e_meth, e_meth0, e_srow, e_noPast, e_lenS, e_neO, s_setRow, s_appPast, s_popPast, s_popO, s_par3O, e_sset, e_fmt, e_fstr, e_join, e_split, e_bl, e_int, e_str, e_gint, e_bin, e_neg, e_not, e_cmp, e_chain, e_and, e_or, e_and1, e_or1, e_ite, e_call, e_bcall, e_isi, e_ix, e_sl, e_tup, e_lst, e_comp, e_compIf, e_lenO, e_ixO, e_ninO, e_index, e_count, e_lenum, e_lrng, e_slS, es_nil, es_cons, i_seq, i_r1, i_r2, i_r3, i_enum, i_zip, o_non, o_some, s_set, s_setO, s_parO, s_par, s_unp, s_aug, s_extO, s_app, s_stO, s_ife, s_for, s_while, s_ret, s_retN, s_expr, s_raise, s_pass, b_nil, b_cons, b_frz, lt_i, le_i, gt_i, ge_i, add_i, sub_i, neg_i, not_b, isN_p, isnN_p, isB, isnB, ix_p0, ix_p1, isN_none, isN_pair, isN_int, isN_tup, isN_lst, tup_pair, typ, len_p, u0, u1, u2, pl_nil, pl_cons, seq_l, seq_t, len_l, len_t, list_l, list_t, abs_i, enum_l, sds0, sdsC, svs0, svsC, nx_s, plainR_ok, toB_b, set0, setS, no_nil, no_c, no_v, no_o, no_u, wp_nil, wp_cons, tg1, tgT, tyi, tyib, tyil, tyit, tytt, tytl, tyll, tylt, tybb, rok, rokO, rex, rexO, finN, finT, finX, onx, ort, oex, lifs, tstb, tstbP, gv0, gvS, go0, goS, sv0, svS, Nat.reduceAdd, Option.map_some, Option.bind_some, Bool.not_true, Bool.not_false, if_true, if_false, Bool.false_eq_true, ↓reduceIte, reduceCtorEq, List.length_cons, List.length_nil, Option.map_none, decide_true, decide_false, Bool.true_and, Bool.false_and])
/-! ### loops -/
theorem comp_map {α : Type} {step : Ev.Env → W → Res (Option PyData)} {ρ : Ev.Env} {t : MT} {w : W} (g f : α → PyData) : ∀ (l : List α), (∀ a ∈ l, ∃ ρ', tgt ρ t (g a) = some ρ' ∧ step ρ' w = .ok (some (f a)) w) → compGo step ρ t (l.map g) w = .ok (l.map f) w
  | [], _ => rfl
  | a :: l, h => by
    obtain ⟨ρ', h1, h2⟩ := h a List.mem_cons_self
    have ih := comp_map (step := step) (ρ := ρ) (t := t) (w := w) g f l fun b hb => h b (List.mem_cons_of_mem _ hb)
    rw [List.map_cons, compGo, h1]
    dsimp only
    rw [h2]
    dsimp only
    rw [ih]
    rfl
theorem comp_filter {α : Type} {step : Ev.Env → W → Res (Option PyData)} {ρ : Ev.Env} {t : MT} {w : W} (g f : α → PyData) (p : α → Bool) : ∀ (l : List α), (∀ a ∈ l, ∃ ρ', tgt ρ t (g a) = some ρ' ∧ step ρ' w = .ok (if p a = true then some (f a) else none) w) → compGo step ρ t (l.map g) w = .ok ((l.filter p).map f) w
  | [], _ => rfl
  | a :: l, h => by
    obtain ⟨ρ', h1, h2⟩ := h a List.mem_cons_self
    have ih := comp_filter (step := step) (ρ := ρ) (t := t) (w := w) g f p l fun b hb => h b (List.mem_cons_of_mem _ hb)
    rw [List.map_cons, compGo, h1]
    dsimp only
    rw [h2]
    cases hp : p a with
    | true =>
      rw [if_pos rfl, List.filter_cons_of_pos hp]
      dsimp only
      rw [ih]
      rfl
    | false =>
      rw [if_neg Bool.false_ne_true, List.filter_cons_of_neg (by rw [hp]; exact Bool.false_ne_true)]
      dsimp only
      exact ih
/-- a for that goes on to its end -/
theorem for_inv {α : Type} {body : Ev.Env → W → Out} {t : MT} (g : α → PyData) (I : List α → Ev.Env → W → Prop) : ∀ (l done : List α) (ρ : Ev.Env) (w : W), I done ρ w →
    (∀ d a r ρ w, l = d ++ a :: r → I (done ++ d) ρ w → ∃ ρ1 ρ2 w2, tgt ρ t (g a) = some ρ1 ∧ body ρ1 w = .next ρ2 w2 ∧ I (done ++ d ++ [a]) ρ2 w2) →
    ∃ ρ' w', forGo body t (l.map g) ρ w = .next ρ' w' ∧ I (done ++ l) ρ' w'
  | [], done, ρ, w, h, _ => ⟨ρ, w, rfl, by rw [List.append_nil]; exact h⟩
  | a :: l, done, ρ, w, h, k => by
    obtain ⟨ρ1, ρ2, w2, h1, h2, h3⟩ := k [] a l ρ w rfl (by rw [List.append_nil]; exact h)
    rw [List.append_nil] at h3
    obtain ⟨ρ', w', e, q⟩ := for_inv g I l (done ++ [a]) ρ2 w2 h3 fun d b r ρ w hl hI => by
      have := k (a :: d) b r ρ w (by rw [hl]; rfl) (by rw [List.append_assoc] at hI; exact hI)
      rw [List.append_assoc done [a] d]
      exact this
    refine ⟨ρ', w', ?_, by rw [List.append_assoc] at q; exact q⟩
    rw [List.map_cons, forGo, h1]
    dsimp only
    rw [h2]
    dsimp only
    exact e
/-- .. or is left by what P tells -/
theorem for_inv2 {α : Type} {body : Ev.Env → W → Out} {t : MT} (g : α → PyData) (I : List α → Ev.Env → W → Prop) (P : List α → α → Out → Prop) (hP : ∀ d a o, P d a o → (∃ x w, o = .ret x w) ∨ ∃ c ρ w, o = .exc c ρ w) : ∀ (l done : List α) (ρ : Ev.Env) (w : W), I done ρ w →
    (∀ d a r ρ w, l = d ++ a :: r → I (done ++ d) ρ w → ∃ ρ1, tgt ρ t (g a) = some ρ1 ∧ ((∃ ρ2 w2, body ρ1 w = .next ρ2 w2 ∧ I (done ++ d ++ [a]) ρ2 w2) ∨ P (done ++ d) a (body ρ1 w))) →
    (∃ ρ' w', forGo body t (l.map g) ρ w = .next ρ' w' ∧ I (done ++ l) ρ' w') ∨ ∃ d a r, l = d ++ a :: r ∧ P (done ++ d) a (forGo body t (l.map g) ρ w)
  | [], done, ρ, w, h, _ => .inl ⟨ρ, w, rfl, by rw [List.append_nil]; exact h⟩
  | a :: l, done, ρ, w, h, k => by
    obtain ⟨ρ1, h1, h2⟩ := k [] a l ρ w rfl (by rw [List.append_nil]; exact h)
    rcases h2 with ⟨ρ2, w2, h2, h3⟩ | h2
    · rw [List.append_nil] at h3
      have step : forGo body t ((a :: l).map g) ρ w = forGo body t (l.map g) ρ2 w2 := by
        rw [List.map_cons, forGo, h1]
        dsimp only
        rw [h2]
      rw [step]
      have ih := for_inv2 (body := body) (t := t) g I P hP l (done ++ [a]) ρ2 w2 h3 fun d b r ρ w hl hI => by
        have := k (a :: d) b r ρ w (by rw [hl]; rfl) (by rw [List.append_assoc] at hI; exact hI)
        rw [List.append_assoc done [a] d]
        exact this
      rcases ih with ⟨ρ', w', e, q⟩ | ⟨d, b, r, e, q⟩
      · exact .inl ⟨ρ', w', e, by rw [List.append_assoc] at q; exact q⟩
      · exact .inr ⟨a :: d, b, r, by rw [e]; rfl, by rw [List.append_assoc] at q; exact q⟩
    · rw [List.append_nil] at h2
      refine .inr ⟨[], a, l, rfl, ?_⟩
      rw [List.append_nil]
      have step : forGo body t ((a :: l).map g) ρ w = body ρ1 w := by
        rw [List.map_cons, forGo, h1]
        dsimp only
        rcases hP _ _ _ h2 with ⟨x, w', e⟩ | ⟨c, ρ', w', e⟩
        · rw [e]
        · rw [e]
      rw [step]
      exact h2
theorem while_inv {test : Ev.Env → W → Res D} {body : Ev.Env → W → Out} (I : Ev.Env → W → Prop) (μ : Ev.Env → W → Nat) (F : Ev.Env → W → Prop)
    (h : ∀ ρ w, I ρ w → (∃ w1, test ρ w = .ok (.bl false) w1 ∧ F ρ w1) ∨ ∃ w1 ρ2 w2, test ρ w = .ok (.bl true) w1 ∧ body ρ w1 = .next ρ2 w2 ∧ I ρ2 w2 ∧ μ ρ2 w2 < μ ρ w) :
    ∀ (n : Nat) (ρ : Ev.Env) (w : W), I ρ w → μ ρ w < n → ∃ ρ' w', whileGo test body n ρ w = .next ρ' w' ∧ F ρ' w'
  | 0, ρ, w, _, hn => by omega
  | n + 1, ρ, w, hI, hn => by
    rcases h ρ w hI with ⟨w1, h1, h2⟩ | ⟨w1, ρ2, w2, h1, h2, h3, h4⟩
    · refine ⟨ρ, w1, ?_, h2⟩
      rw [whileGo, h1]
      rfl
    · obtain ⟨ρ', w', e, q⟩ := while_inv I μ F h n ρ2 w2 h3 (by omega)
      refine ⟨ρ', w', ?_, q⟩
      rw [whileGo, h1]
      simp only [tstb, rokO]
      rw [h2]
      exact e
theorem run_is_int (n : Nat) (i lo hi : Int) (w : W) : run (n + 1) .f_is_int [.int i, .int lo, .int hi] w = .ok (.bl (decide (lo ≤ i) && decide (i ≤ hi))) w := by
  (rw [run_def _ _ Bf_is_int rfl, runD_eq Bf_is_int _ _ _ _ ⟨rfl, by decide⟩ rfl rfl]; unfold Bf_is_int; simp only [List.map_cons, List.map_nil, List.length_cons, List.length_nil, List.replicate, List.cons_append, List.nil_append, Nat.reduceAdd, Nat.reduceSub])
  walk_at "ev"
  cases decide (lo ≤ i) <;> cases decide (i ≤ hi) <;> rfl
end Px

end

section
/-! Lib1: data without bools; fractions. -/
namespace Px
open PySem Ev
local macro_rules | `(tactic| walk_at "ev") => `(tactic| simp -implicitDefEqProofs only [e_var, e_non, e_call0, e_mkS, e_meth, e_meth0, e_srow, e_noPast, e_lenS, e_neO, s_setRow, s_appPast, s_popPast, s_popO, s_par3O, e_sset, e_fmt, e_fstr, e_join, e_split, e_bl, e_int, e_str, e_gint, e_bin, e_neg, e_not, e_cmp, e_chain, e_and, e_or, e_and1, e_or1, e_ite, e_call, e_bcall, e_isi, e_ix, e_sl, e_tup, e_lst, e_comp, e_compIf, e_lenO, e_ixO, e_ninO, e_index, e_count, e_lenum, e_lrng, e_slS, es_nil, es_cons, i_seq, i_r1, i_r2, i_r3, i_enum, i_zip, o_non, o_some, s_set, s_setO, s_parO, s_par, s_unp, s_aug, s_extO, s_app, s_stO, s_ife, s_for, s_while, s_ret, s_retN, s_expr, s_raise, s_pass, b_nil, b_cons, b_frz, lt_i, le_i, gt_i, ge_i, add_i, sub_i, neg_i, not_b, isN_p, isnN_p, isB, isnB, ix_p0, ix_p1, isN_none, isN_pair, isN_int, isN_tup, isN_lst, tup_pair, typ, len_p, u0, u1, u2, pl_nil, pl_cons, seq_l, seq_t, len_l, len_t, list_l, list_t, abs_i, enum_l, sds0, sdsC, svs0, svsC, nx_s, plainR_ok, toB_b, set0, setS, no_nil, no_c, no_v, no_o, no_u, wp_nil, wp_cons, tg1, tgT, tyi, tyib, tyil, tyit, tytt, tytl, tyll, tylt, tybb, rok, rokO, rex, rexO, finN, finT, finX, onx, ort, oex, lifs, tstb, tstbP, gv0, gvS, go0, goS, sv0, svS, Nat.reduceAdd, Option.map_some, Option.bind_some, Bool.not_true, Bool.not_false, if_true, if_false, Bool.false_eq_true, ↓reduceIte, reduceCtorEq, List.length_cons, List.length_nil, Option.map_none, decide_true, decide_false, Bool.true_and, Bool.false_and])
mutual
/-- none, ints, lists and tuples of such -/
def nb : PyData → Bool
  | .none => true
  | .int _ => true
  | .str x => PyData.strOk x
  | .list xs => nbs xs
  | .tuple xs => nbs xs
  | _ => false
def nbs : List PyData → Bool
  | [] => true
  | x :: r => nb x && nbs r
end
mutual
theorem nb_lay : ∀ d : PyData, nb d = true → d.canLay0 = true
  | .none, _ => by unfold PyData.canLay0; rfl
  | .int _, _ => by unfold PyData.canLay0; rfl
  | .bool _, h => by unfold nb at h; cases h
  | .str x, h => by unfold nb at h; unfold PyData.canLay0; exact h
  | .dict _, h => by unfold nb at h; cases h
  | .list xs, h => by unfold nb at h; unfold PyData.canLay0; exact nbs_lay xs h
  | .tuple xs, h => by unfold nb at h; unfold PyData.canLay0; exact nbs_lay xs h
theorem nbs_lay : ∀ ds : List PyData, nbs ds = true → PyData.canLayAll0 ds = true
  | [], _ => by unfold PyData.canLayAll0; rfl
  | x :: r, h => by
    unfold nbs at h
    rw [Bool.and_eq_true] at h
    unfold PyData.canLayAll0
    rw [nb_lay x h.1, nbs_lay r h.2]
    rfl
end
mutual
theorem nb_eqv : ∀ d e : PyData, nb d = true → nb e = true → (PyData.eqv d e = true ↔ d = e)
  | .none, e, _, he => by
    cases e <;> first | (unfold nb at he; cases he; done) | simp [PyData.eqv]
  | .int i, e, _, he => by
    cases e <;> first | (unfold nb at he; cases he; done) | simp [PyData.eqv]
  | .bool _, _, h, _ => by unfold nb at h; cases h
  | .str x, e, _, he => by
    cases e <;> first | (unfold nb at he; cases he; done) | simp [PyData.eqv]
  | .dict _, _, h, _ => by unfold nb at h; cases h
  | .list xs, e, h, he => by
    cases e with
    | list ys =>
      unfold nb at h he
      have := nbs_eqv xs ys h he
      simp [PyData.eqv, this]
    | none => simp [PyData.eqv]
    | int _ => simp [PyData.eqv]
    | str _ => simp [PyData.eqv]
    | tuple _ => simp [PyData.eqv]
    | _ => unfold nb at he; cases he
  | .tuple xs, e, h, he => by
    cases e with
    | tuple ys =>
      unfold nb at h he
      have := nbs_eqv xs ys h he
      simp [PyData.eqv, this]
    | none => simp [PyData.eqv]
    | int _ => simp [PyData.eqv]
    | str _ => simp [PyData.eqv]
    | list _ => simp [PyData.eqv]
    | _ => unfold nb at he; cases he
theorem nbs_eqv : ∀ ds es : List PyData, nbs ds = true → nbs es = true → (PyData.eqvAll ds es = true ↔ ds = es)
  | [], [], _, _ => by simp [PyData.eqvAll]
  | [], _ :: _, _, _ => by simp [PyData.eqvAll]
  | _ :: _, [], _, _ => by simp [PyData.eqvAll]
  | x :: xs, y :: ys, h, he => by
    unfold nbs at h he
    rw [Bool.and_eq_true] at h he
    have h1 := nb_eqv x y h.1 he.1
    have h2 := nbs_eqv xs ys h.2 he.2
    simp only [PyData.eqvAll, Bool.and_eq_true, h1, h2, List.cons.injEq]
end
/-- such data of no great depth -/
def PL (n : Nat) (d : PyData) : Prop := nb d = true ∧ d.depth ≤ n
theorem PL.int (n : Nat) (i : Int) : PL n (.int i) := ⟨by unfold nb; rfl, by simp [PyData.depth]⟩
theorem PL.none (n : Nat) : PL n .none := ⟨by unfold nb; rfl, by simp [PyData.depth]⟩
theorem PL.all {n : Nat} : ∀ {ds : List PyData}, (∀ d ∈ ds, PL n d) → nbs ds = true ∧ PyData.depthAll ds ≤ n
  | [], _ => ⟨by unfold nbs; rfl, by simp [PyData.depthAll]⟩
  | x :: r, h => by
    obtain ⟨h1, h2⟩ := PL.all fun d hd => h d (List.mem_cons_of_mem _ hd)
    obtain ⟨h3, h4⟩ := h x List.mem_cons_self
    refine ⟨by unfold nbs; rw [h3, h1]; rfl, ?_⟩
    simp only [PyData.depthAll]
    omega
theorem PL.tup {n : Nat} {ds : List PyData} (h : ∀ d ∈ ds, PL n d) : PL (n + 1) (.tuple ds) := by
  obtain ⟨h1, h2⟩ := PL.all h
  exact ⟨by unfold nb; exact h1, by simp only [PyData.depth]; omega⟩
theorem PL.lst {n : Nat} {ds : List PyData} (h : ∀ d ∈ ds, PL n d) : PL (n + 1) (.list ds) := by
  obtain ⟨h1, h2⟩ := PL.all h
  exact ⟨by unfold nb; exact h1, by simp only [PyData.depth]; omega⟩
theorem PL.up {n m : Nat} {d : PyData} (h : PL n d) (hm : n ≤ m) : PL m d := ⟨h.1, Nat.le_trans h.2 hm⟩
theorem PL.shp {n : Nat} {d : PyData} (h : PL n d) (hn : n ≤ 64) : Ev.shp d = true := by
  unfold Ev.shp SeqAt.shaped
  rw [nb_lay d h.1, decide_eq_true (Nat.le_trans h.2 hn)]
  rfl
theorem PL.pair (q : Int × Int) : PL 1 (ofPair q) := PL.tup (n := 0) fun d hd => by
  simp only [List.mem_cons, List.not_mem_nil, or_false] at hd
  rcases hd with rfl | rfl <;> exact PL.int _ _
theorem cv_eq (d e : PyData) : cmpV .eq (.p d) (.p e) = (cmpD .eq d e).map D.bl := by cases e <;> rfl
theorem cv_ne (d e : PyData) : cmpV .ne (.p d) (.p e) = (cmpD .ne d e).map D.bl := by cases e <;> rfl
theorem cv_in (d e : PyData) : cmpV .in_ (.p d) (.p e) = (cmpD .in_ d e).map D.bl := by cases e <;> rfl
theorem cv_nin (d e : PyData) : cmpV .nin (.p d) (.p e) = (cmpD .nin d e).map D.bl := by cases e <;> rfl
section
variable {n m : Nat} {d e : PyData} (hd : PL n d) (he : PL m e) (hn : n ≤ 64) (hm : m ≤ 64)
include hd he hn hm
theorem eq_b {b : Bool} (h : b = true ↔ d = e) : cmpV .eq (.p d) (.p e) = some (.bl b) := by
  have h2 : PyData.eqv d e = b := by
    have := nb_eqv d e hd.1 he.1
    rw [Bool.eq_iff_iff, this, h]
  rw [cv_eq]
  simp only [cmpD]
  rw [if_pos ⟨hd.shp hn, he.shp hm⟩, h2]
  rfl
theorem ne_b {b : Bool} (h : b = true ↔ d = e) : cmpV .ne (.p d) (.p e) = some (.bl !b) := by
  have h2 : PyData.eqv d e = b := by
    have := nb_eqv d e hd.1 he.1
    rw [Bool.eq_iff_iff, this, h]
  rw [cv_ne]
  simp only [cmpD]
  rw [if_pos ⟨hd.shp hn, he.shp hm⟩, h2]
  rfl
end
theorem eq_i (i j : Int) : cmpV .eq (.int i) (.int j) = some (.bl (decide (i = j))) := eq_b (PL.int 0 i) (PL.int 0 j) (by decide) (by decide) (by simp)
theorem ne_i (i j : Int) : cmpV .ne (.int i) (.int j) = some (.bl (!decide (i = j))) := ne_b (PL.int 0 i) (PL.int 0 j) (by decide) (by decide) (by simp)
theorem in_b {n m : Nat} {d : PyData} {xs : List PyData} (hd : PL n d) (hx : ∀ x ∈ xs, PL m x) (hn : n ≤ 64) (hm : m ≤ 63) {b : Bool} (h : b = true ↔ d ∈ xs) :
    cmpV .in_ (.p d) (.lst xs) = some (.bl b) ∧ cmpV .nin (.p d) (.lst xs) = some (.bl !b) ∧ cmpV .in_ (.p d) (.tup xs) = some (.bl b) ∧ cmpV .nin (.p d) (.tup xs) = some (.bl !b) := by
  have h2 : (xs.any fun z => PyData.eqv z d) = b := by
    rw [Bool.eq_iff_iff, List.any_eq_true, h]
    constructor
    · rintro ⟨x, h1, h2⟩
      rw [← (nb_eqv x d (hx x h1).1 hd.1).mp h2]
      exact h1
    · intro h1
      exact ⟨d, h1, (nb_eqv d d hd.1 hd.1).mpr rfl⟩
  have s1 := hd.shp hn
  have s2 := (PL.lst hx).shp (by omega)
  have s3 := (PL.tup hx).shp (by omega)
  rw [cv_in, cv_nin, cv_in, cv_nin]
  simp only [cmpD]
  rw [if_pos ⟨s1, s2⟩, if_pos ⟨s1, s3⟩, if_pos ⟨s1, s2⟩, if_pos ⟨s1, s3⟩, h2]
  exact ⟨rfl, rfl, rfl, rfl⟩

/-! ### fractions -/
theorem run_common (n : Nat) (a b : Int) (w : W) (hb : b.natAbs < 1000000) : run (n + 1) .f_common [.int a, .int b] w = .ok (.int (Int.gcd a b : Int)) w := by
  (rw [run_def _ _ Bf_common rfl, runD_eq Bf_common _ _ _ _ ⟨rfl, by decide⟩ rfl rfl]; unfold Bf_common; simp only [List.map_cons, List.map_nil, List.length_cons, List.length_nil, List.replicate, List.cons_append, List.nil_append, Nat.reduceAdd, Nat.reduceSub])
  walk_at "ev"
  obtain ⟨ρ', w', e, h1, y, h2⟩ := while_inv (test := fE (run n) f_common_s1) (body := fB (run n) f_common_s2)
    (fun ρ w1 => w1 = w ∧ ∃ x y : Nat, ρ = [.val (.int x), .val (.int y)] ∧ Nat.gcd x y = Int.gcd a b) (fun ρ _ => match ρ with | [_, .val (.p (.int y))] => y.toNat | _ => 0) (fun ρ w1 => w1 = w ∧ ∃ y, ρ = [.val (.int (Int.gcd a b : Int)), y])
    (fun ρ w1 ⟨hw, x, y, hr, hg⟩ => by
      subst hw hr
      by_cases hy : y = 0
      · subst hy
        refine .inl ⟨w1, ?_, rfl, .val (.int 0), ?_⟩
        · unfold fE f_common_s1
          walk_at "ev"
          rw [ne_i]
          rfl
        · rw [← hg]; simp
      · refine .inr ⟨w1, [.val (.int (y : Int)), .val (.int ((x % y : Nat) : Int))], w1, ?_, ?_, ⟨rfl, y, x % y, rfl, ?_⟩, ?_⟩
        · unfold fE f_common_s1
          walk_at "ev"
          rw [ne_i]
          simp [hy, lifs]
        · unfold fB f_common_s2
          walk_at "ev"
          rw [mod_i (by omega)]
          walk_at "ev"
          rfl
        · rw [← hg, Nat.gcd_comm x y, Nat.gcd_rec y x, Nat.gcd_comm]
        · show (((x % y : Nat) : Int)).toNat < ((y : Nat) : Int).toNat
          have := Nat.mod_lt x (Nat.pos_of_ne_zero hy)
          omega)
    whileMost [.val (.int (a.natAbs : Int)), .val (.int (b.natAbs : Int))] w ⟨rfl, a.natAbs, b.natAbs, rfl, rfl⟩ (by show ((b.natAbs : Nat) : Int).toNat < whileMost; unfold whileMost; omega)
  subst h1 h2
  rw [e]
  walk_at "ev"
theorem run_lowest (n : Nat) (a b : Int) (w : W) (hb : 0 < b ∧ b < 1000000) : run (n + 2) .f_lowest [.int a, .int b] w = .ok (.p (ofPair (a / (Int.gcd a b : Int), b / (Int.gcd a b : Int)))) w := by
  (rw [run_def _ _ Bf_lowest rfl, runD_eq Bf_lowest _ _ _ _ ⟨rfl, by decide⟩ rfl rfl]; unfold Bf_lowest; simp only [List.map_cons, List.map_nil, List.length_cons, List.length_nil, List.replicate, List.cons_append, List.nil_append, Nat.reduceAdd, Nat.reduceSub])
  walk_at "ev"
  rw [run_common n a b w (by omega)]
  have h0 : 0 < Int.gcd a b := Int.gcd_pos_of_ne_zero_right _ (by omega)
  have h1 : Int.gcd a b ≤ b.natAbs := Nat.le_of_dvd (by omega) (Int.gcd_dvd_natAbs_right a b)
  walk_at "ev"
  rw [fdiv_i ⟨by omega, by omega⟩, fdiv_i ⟨by omega, by omega⟩]
  walk_at "ev"
theorem run_less (n : Nat) (p q : Int × Int) (w : W) (h1 : -(2 ^ 64) < p.1 ∧ p.1 < 2 ^ 64) (h2 : -(2 ^ 64) < q.1 ∧ q.1 < 2 ^ 64) : run (n + 1) .f_less [.p (ofPair p), .p (ofPair q)] w = .ok (.bl (decide (p.1 * q.2 < q.1 * p.2))) w := by
  (rw [run_def _ _ Bf_less rfl, runD_eq Bf_less _ _ _ _ ⟨rfl, by decide⟩ rfl rfl]; unfold Bf_less; simp only [List.map_cons, List.map_nil, List.length_cons, List.length_nil, List.replicate, List.cons_append, List.nil_append, Nat.reduceAdd, Nat.reduceSub])
  walk_at "ev"
  rw [mul_i h1, mul_i h2]
  walk_at "ev"
end Px

end

section
/-! Lib2: points, bounds of slopes. -/
namespace Px
open PySem Ev
local macro_rules | `(tactic| walk_at "ev") => `(tactic| simp -implicitDefEqProofs only [e_var, e_non, e_call0, e_mkS, e_meth, e_meth0, e_srow, e_noPast, e_lenS, e_neO, s_setRow, s_appPast, s_popPast, s_popO, s_par3O, e_sset, e_fmt, e_fstr, e_join, e_split, e_bl, e_int, e_str, e_gint, e_bin, e_neg, e_not, e_cmp, e_chain, e_and, e_or, e_and1, e_or1, e_ite, e_call, e_bcall, e_isi, e_ix, e_sl, e_tup, e_lst, e_comp, e_compIf, e_lenO, e_ixO, e_ninO, e_index, e_count, e_lenum, e_lrng, e_slS, es_nil, es_cons, i_seq, i_r1, i_r2, i_r3, i_enum, i_zip, o_non, o_some, s_set, s_setO, s_parO, s_par, s_unp, s_aug, s_extO, s_app, s_stO, s_ife, s_for, s_while, s_ret, s_retN, s_expr, s_raise, s_pass, b_nil, b_cons, b_frz, lt_i, le_i, gt_i, ge_i, add_i, sub_i, neg_i, not_b, isN_p, isnN_p, isB, isnB, ix_p0, ix_p1, isN_none, isN_pair, isN_int, isN_tup, isN_lst, tup_pair, typ, len_p, u0, u1, u2, pl_nil, pl_cons, seq_l, seq_t, len_l, len_t, list_l, list_t, abs_i, enum_l, sds0, sdsC, svs0, svsC, nx_s, plainR_ok, toB_b, set0, setS, no_nil, no_c, no_v, no_o, no_u, wp_nil, wp_cons, tg1, tgT, tyi, tyib, tyil, tyit, tytt, tytl, tyll, tylt, tybb, rok, rokO, rex, rexO, finN, finT, finX, onx, ort, oex, lifs, tstb, tstbP, gv0, gvS, go0, goS, sv0, svS, Nat.reduceAdd, Option.map_some, Option.bind_some, Bool.not_true, Bool.not_false, if_true, if_false, Bool.false_eq_true, ↓reduceIte, reduceCtorEq, List.length_cons, List.length_nil, Option.map_none, decide_true, decide_false, Bool.true_and, Bool.false_and])
abbrev Pt : Type := Int × Int
/-- good points -/
structure Pts (P : List Pt) : Prop where
  one : 1 ≤ P.length
  most : P.length ≤ 20
  bnd : ∀ p ∈ P, (-1000 ≤ p.1 ∧ p.1 ≤ 1000) ∧ (-1000 ≤ p.2 ∧ p.2 ≤ 1000)
  inc : P.Pairwise fun p q => p.1 < q.1
/-- points in wider bounds -/
structure PtsG (P : List Pt) : Prop where
  most : P.length ≤ 1000
  bnd : ∀ p ∈ P, (-1000 ≤ p.1 ∧ p.1 ≤ 1000) ∧ (-100000000 ≤ p.2 ∧ p.2 ≤ 100000000)
  inc : P.Pairwise fun p q => p.1 < q.1
theorem Pts.g {P : List Pt} (h : Pts P) : PtsG P := ⟨by have := h.most; omega, fun p hp => by have := h.bnd p hp; omega, h.inc⟩
abbrev pD (P : List Pt) : D := .lst (P.map ofPair)

/-! ### lists of numbers, places -/
theorem rngL_eq (lo : Int) : ∀ n, rngL lo n = (List.range n).map fun k => .int (lo + (k : Nat))
  | 0 => rfl
  | n + 1 => by
    rw [rngL, rngL_eq (lo + 1) n, List.range_succ_eq_map, List.map_cons, List.map_map]
    congr 1
    · simp
    · apply List.map_congr_left
      intro k _
      simp only [Function.comp]
      congr 1
      push_cast
      omega
theorem atI_nat {α : Type} (l : List α) (k : Nat) (h : k < l.length) : L2.atI l (k : Int) = some l[k] := by
  unfold L2.atI L2.ixN
  rw [if_pos (by omega), if_pos (by omega)]
  simp [h]
theorem ix_l {α : Type} (g : α → PyData) (l : List α) (k : Nat) (h : k < l.length) : ixV (.lst (l.map g)) (.int (k : Int)) = some (.p (g l[k])) := by
  show Option.map D.p (L2.atI (l.map g) (k : Int)) = _
  rw [atI_nat _ _ (by rw [List.length_map]; exact h)]
  simp
theorem ix_i {α : Type} (g : α → PyData) (l : List α) (i : Int) (h : 0 ≤ i ∧ i.toNat < l.length) : ixV (.lst (l.map g)) (.int i) = some (.p (g (l[i.toNat]'h.2))) := by
  obtain ⟨k, rfl⟩ : ∃ k : Nat, i = k := ⟨i.toNat, by omega⟩
  exact ix_l g l k h.2
theorem boolsOf_map {α : Type} (f : α → Bool) : ∀ l : List α, boolsOf (l.map fun a => .bool (f a)) = some (l.map f)
  | [] => rfl
  | a :: l => by
    rw [List.map_cons, boolsOf, boolsOf_map f l]
    rfl
theorem all_b {α : Type} (f : α → Bool) (l : List α) : bV .all [.lst (l.map fun a => .bool (f a))] = some (.bl (l.all f)) := by
  show Option.map D.p ((boolsOf (l.map fun a => .bool (f a))).map fun l => .bool (l.all id)) = _
  rw [boolsOf_map]
  simp [List.all_map]
theorem sizeOk_le {n : Nat} (h : n ≤ 16000000) : sizeOk n = true := decide_eq_true h
theorem rng1_n (n : Nat) (h : n ≤ 16000000) : rngD1 (.int (n : Int)) = some ((List.range n).map fun k => .int ((k : Nat) : Int)) := by
  show (if bigB (n : Int) = true then some (rngL 0 (n : Int).toNat) else none) = _
  rw [if_pos (show bigB (n : Int) = true from decide_eq_true (by omega)), Int.toNat_natCast, rngL_eq]
  simp

theorem run_is_point (n : Nat) (p : Pt) (w : W) (h : (-1000 ≤ p.1 ∧ p.1 ≤ 1000) ∧ (-1000 ≤ p.2 ∧ p.2 ≤ 1000)) : run (n + 2) .f_is_point [.p (ofPair p)] w = .ok (.bl true) w := by
  obtain ⟨x, y⟩ := p
  obtain ⟨⟨h1, h2⟩, h3, h4⟩ := h
  (rw [run_def _ _ Bf_is_point rfl, runD_eq Bf_is_point _ _ _ _ ⟨rfl, by decide⟩ rfl rfl]; unfold Bf_is_point; simp only [List.map_cons, List.map_nil, List.length_cons, List.length_nil, List.replicate, List.cons_append, List.nil_append, Nat.reduceAdd, Nat.reduceSub])
  walk_at "ev"
  rw [eq_i]
  walk_at "ev"
  rw [show seqV (.p (ofPair (x, y))) = some [.int x, .int y] from rfl]
  walk_at "ev"
  rw [if_pos (by decide)]
  have := comp_map (step := fC (run (n + 1)) f_is_point_s1) (ρ := [.val (.p (ofPair (x, y))), .un]) (t := .one 1) (w := w) (fun i : Int => .int i) (fun _ => .bool true) [x, y] (fun a ha => by
    refine ⟨_, tg1 _ _ _, ?_⟩
    unfold fC f_is_point_s1
    walk_at "ev"
    rw [run_is_int]
    simp only [List.mem_cons, List.not_mem_nil, or_false] at ha
    have : (decide (-1000 ≤ a) && decide (a ≤ 1000)) = true := by
      rcases ha with rfl | rfl <;> simp <;> omega
    rw [this]
    rfl)
  simp only [List.map_cons, List.map_nil] at this
  rw [this]
  rfl
theorem run_are_points (n : Nat) {P : List Pt} (w : W) (h : Pts P) : run (n + 3) .f_are_points [pD P] w = .ok (.bl true) w := by
  have hl : P.length ≤ 16000000 := by have := h.most; omega
  (rw [run_def _ _ Bf_are_points rfl, runD_eq Bf_are_points _ _ _ _ ⟨rfl, by decide⟩ rfl rfl]; unfold Bf_are_points; simp only [List.map_cons, List.map_nil, List.length_cons, List.length_nil, List.replicate, List.cons_append, List.nil_append, Nat.reduceAdd, Nat.reduceSub])
  walk_at "ev"
  rw [show (decide ((1 : Int) ≤ ((P.map ofPair).length : Int))) = true from decide_eq_true (by rw [List.length_map]; have := h.one; omega),
    show (decide (((P.map ofPair).length : Int) ≤ 20)) = true from decide_eq_true (by rw [List.length_map]; have := h.most; omega)]
  walk_at "ev"
  rw [if_pos (sizeOk_le (by rw [List.length_map]; exact hl)),
    comp_map (step := fC (run (n + 2)) f_are_points_s1) (w := w) ofPair (fun _ => .bool true) P (fun p hp => by
      refine ⟨_, tg1 _ _ _, ?_⟩
      unfold fC f_are_points_s1
      walk_at "ev"
      rw [run_is_point n p w (h.bnd p hp)]
      walk_at "ev")]
  walk_at "ev"
  rw [show bV .all [.lst (P.map fun _ => .bool true)] = some (.bl (P.all fun _ => true)) from all_b (fun _ => true) P, show (P.all fun _ => true) = true from List.all_eq_true.mpr fun _ _ => rfl]
  walk_at "ev"
  have e1 : ((P.map ofPair).length : Int) - 1 = ((P.length - 1 : Nat) : Int) := by
    rw [List.length_map]
    have := h.one
    omega
  rw [e1, rng1_n _ (by omega)]
  walk_at "ev"
  rw [if_pos (sizeOk_le (by rw [List.length_map, List.length_range]; omega)),
    comp_map (step := fC (run (n + 2)) f_are_points_s2) (w := w) (fun k : Nat => .int (k : Int)) (fun _ => .bool true) (List.range (P.length - 1)) (fun k hk => by
      have hk := List.mem_range.mp hk
      refine ⟨_, tg1 _ _ _, ?_⟩
      unfold fC f_are_points_s2
      walk_at "ev"
      have e2 : ((k : Nat) : Int) + 1 = ((k + 1 : Nat) : Int) := by omega
      rw [ix_l ofPair P k (by omega), e2, ix_l ofPair P (k + 1) (by omega)]
      walk_at "ev"
      have := List.pairwise_iff_getElem.mp h.inc k (k + 1) (by omega) (by omega) (by omega)
      rw [decide_eq_true this])]
  walk_at "ev"
  rw [show bV .all [.lst ((List.range (P.length - 1)).map fun _ => .bool true)] = some (.bl ((List.range (P.length - 1)).all fun _ => true)) from all_b (fun _ => true) _, show ((List.range (P.length - 1)).all fun _ => true) = true from List.all_eq_true.mpr fun _ _ => rfl]
  walk_at "ev"
theorem run_check_points (n : Nat) {P : List Pt} (w : W) (h : Pts P) : run (n + 4) .f_check_points [pD P] w = .ok .non w := by
  (rw [run_def _ _ Bf_check_points rfl, runD_eq Bf_check_points _ _ _ _ ⟨rfl, by decide⟩ rfl rfl]; unfold Bf_check_points; simp only [List.map_cons, List.map_nil, List.length_cons, List.length_nil, List.replicate, List.cons_append, List.nil_append, Nat.reduceAdd, Nat.reduceSub])
  walk_at "ev"
  rw [run_are_points n w h]
  walk_at "ev"

/-! ### the greatest of some fractions, the least -/
/-- what lies between two points: (tall - 1, wide), (tall + 1, wide) -/
def FLo (A P : List Pt) (n d : Int) : Prop := ∃ p ∈ A, ∃ q ∈ P, p.1 < q.1 ∧ n = q.2 - p.2 - 1 ∧ d = q.1 - p.1
def FHi (A P : List Pt) (n d : Int) : Prop := ∃ p ∈ A, ∃ q ∈ P, p.1 < q.1 ∧ n = q.2 - p.2 + 1 ∧ d = q.1 - p.1
def Mx (F : Int → Int → Prop) (o : PyData) : Prop := (o = .none ∧ ∀ n d, ¬ F n d) ∨ ∃ a b, o = ofPair (a, b) ∧ 0 < b ∧ b ≤ 2000 ∧ -200000001 ≤ a ∧ a ≤ 200000001 ∧ (∃ n d, F n d ∧ a * d = n * b) ∧ ∀ n d, F n d → n * b ≤ a * d
def Mn (F : Int → Int → Prop) (o : PyData) : Prop := (o = .none ∧ ∀ n d, ¬ F n d) ∨ ∃ a b, o = ofPair (a, b) ∧ 0 < b ∧ b ≤ 2000 ∧ -200000001 ≤ a ∧ a ≤ 200000001 ∧ (∃ n d, F n d ∧ a * d = n * b) ∧ ∀ n d, F n d → a * d ≤ n * b
theorem frac_tr {a b n d x y : Int} (hb : 0 < b) (hd : 0 < d) (hy : 0 < y) (h1 : a * d ≤ n * b) (h2 : n * y ≤ x * d) : a * y ≤ x * b := by
  have h3 : a * d * y ≤ n * b * y := Int.mul_le_mul_of_nonneg_right h1 (Int.le_of_lt hy)
  have h4 : n * y * b ≤ x * d * b := Int.mul_le_mul_of_nonneg_right h2 (Int.le_of_lt hb)
  have h5 : d * (a * y) ≤ d * (x * b) := by
    have e1 : d * (a * y) = a * d * y := by rw [Int.mul_comm d, Int.mul_assoc, Int.mul_comm y d, ← Int.mul_assoc]
    have e2 : n * b * y = n * y * b := by rw [Int.mul_assoc, Int.mul_comm b y, ← Int.mul_assoc]
    have e3 : d * (x * b) = x * d * b := by rw [Int.mul_comm d, Int.mul_assoc, Int.mul_comm b d, ← Int.mul_assoc]
    rw [e1, e3]
    exact Int.le_trans h3 (e2 ▸ h4)
  exact Int.le_of_mul_le_mul_left h5 hd
/-- one more fraction: it is as good as (a', b') -/
theorem Mx.add {F : Int → Int → Prop} {o : PyData} {n d a' b' : Int} (h : Mx F o) (hF : ∀ n d, F n d → 0 < d) (hd : 0 < d) (hb : 0 < b' ∧ b' ≤ 2000) (ha : -200000001 ≤ a' ∧ a' ≤ 200000001) (e : a' * d = n * b')
    {F' : Int → Int → Prop} (hF' : ∀ x y, F' x y ↔ F x y ∨ (x = n ∧ y = d)) : ∃ o', Mx F' o' ∧ ((o = .none ∧ o' = ofPair (a', b')) ∨ ∃ a b, o = ofPair (a, b) ∧ 0 < b ∧ b ≤ 2000 ∧ -200000001 ≤ a ∧ a ≤ 200000001 ∧ o' = if a * b' < a' * b then ofPair (a', b') else o) := by
  rcases h with ⟨rfl, h⟩ | ⟨a, b, rfl, h1, h2, h3, h4, ⟨n1, d1, h5, h6⟩, h7⟩
  · refine ⟨_, .inr ⟨a', b', rfl, hb.1, hb.2, ha.1, ha.2, ⟨n, d, (hF' _ _).mpr (.inr ⟨rfl, rfl⟩), e⟩, fun x y q => ?_⟩, .inl ⟨rfl, rfl⟩⟩
    rcases (hF' _ _).mp q with q | ⟨rfl, rfl⟩
    · exact absurd q (h _ _)
    · rw [e]; exact Int.le_refl _
  · refine ⟨_, ?_, .inr ⟨a, b, rfl, h1, h2, h3, h4, rfl⟩⟩
    by_cases hc : a * b' < a' * b
    · rw [if_pos hc]
      refine .inr ⟨a', b', rfl, hb.1, hb.2, ha.1, ha.2, ⟨n, d, (hF' _ _).mpr (.inr ⟨rfl, rfl⟩), e⟩, fun x y q => ?_⟩
      rcases (hF' _ _).mp q with q | ⟨rfl, rfl⟩
      · exact frac_tr (hF _ _ q) h1 hb.1 (h7 _ _ q) (Int.le_of_lt hc)
      · rw [e]; exact Int.le_refl _
    · rw [if_neg hc]
      refine .inr ⟨a, b, rfl, h1, h2, h3, h4, ⟨n1, d1, (hF' _ _).mpr (.inl h5), h6⟩, fun x y q => ?_⟩
      rcases (hF' _ _).mp q with q | ⟨rfl, rfl⟩
      · exact h7 _ _ q
      · exact frac_tr hd hb.1 h1 (by rw [e]; exact Int.le_refl _) (Int.not_lt.mp hc)
theorem Mn.add {F : Int → Int → Prop} {o : PyData} {n d a' b' : Int} (h : Mn F o) (hF : ∀ n d, F n d → 0 < d) (hd : 0 < d) (hb : 0 < b' ∧ b' ≤ 2000) (ha : -200000001 ≤ a' ∧ a' ≤ 200000001) (e : a' * d = n * b')
    {F' : Int → Int → Prop} (hF' : ∀ x y, F' x y ↔ F x y ∨ (x = n ∧ y = d)) : ∃ o', Mn F' o' ∧ ((o = .none ∧ o' = ofPair (a', b')) ∨ ∃ a b, o = ofPair (a, b) ∧ 0 < b ∧ b ≤ 2000 ∧ -200000001 ≤ a ∧ a ≤ 200000001 ∧ o' = if a' * b < a * b' then ofPair (a', b') else o) := by
  rcases h with ⟨rfl, h⟩ | ⟨a, b, rfl, h1, h2, h3, h4, ⟨n1, d1, h5, h6⟩, h7⟩
  · refine ⟨_, .inr ⟨a', b', rfl, hb.1, hb.2, ha.1, ha.2, ⟨n, d, (hF' _ _).mpr (.inr ⟨rfl, rfl⟩), e⟩, fun x y q => ?_⟩, .inl ⟨rfl, rfl⟩⟩
    rcases (hF' _ _).mp q with q | ⟨rfl, rfl⟩
    · exact absurd q (h _ _)
    · rw [e]; exact Int.le_refl _
  · refine ⟨_, ?_, .inr ⟨a, b, rfl, h1, h2, h3, h4, rfl⟩⟩
    by_cases hc : a' * b < a * b'
    · rw [if_pos hc]
      refine .inr ⟨a', b', rfl, hb.1, hb.2, ha.1, ha.2, ⟨n, d, (hF' _ _).mpr (.inr ⟨rfl, rfl⟩), e⟩, fun x y q => ?_⟩
      rcases (hF' _ _).mp q with q | ⟨rfl, rfl⟩
      · exact frac_tr hb.1 h1 (hF _ _ q) (Int.le_of_lt hc) (h7 _ _ q)
      · rw [e]; exact Int.le_refl _
    · rw [if_neg hc]
      refine .inr ⟨a, b, rfl, h1, h2, h3, h4, ⟨n1, d1, (hF' _ _).mpr (.inl h5), h6⟩, fun x y q => ?_⟩
      rcases (hF' _ _).mp q with q | ⟨rfl, rfl⟩
      · exact h7 _ _ q
      · exact frac_tr h1 hb.1 hd (Int.not_lt.mp hc) (by rw [e]; exact Int.le_refl _)
end Px

end

section
/-! Lib3: bounds, straight. -/
namespace Px
open PySem Ev
local macro_rules | `(tactic| walk_at "ev") => `(tactic| simp -implicitDefEqProofs only [e_var, e_non, e_call0, e_mkS, e_meth, e_meth0, e_srow, e_noPast, e_lenS, e_neO, s_setRow, s_appPast, s_popPast, s_popO, s_par3O, e_sset, e_fmt, e_fstr, e_join, e_split, e_bl, e_int, e_str, e_gint, e_bin, e_neg, e_not, e_cmp, e_chain, e_and, e_or, e_and1, e_or1, e_ite, e_call, e_bcall, e_isi, e_ix, e_sl, e_tup, e_lst, e_comp, e_compIf, e_lenO, e_ixO, e_ninO, e_index, e_count, e_lenum, e_lrng, e_slS, es_nil, es_cons, i_seq, i_r1, i_r2, i_r3, i_enum, i_zip, o_non, o_some, s_set, s_setO, s_parO, s_par, s_unp, s_aug, s_extO, s_app, s_stO, s_ife, s_for, s_while, s_ret, s_retN, s_expr, s_raise, s_pass, b_nil, b_cons, b_frz, lt_i, le_i, gt_i, ge_i, add_i, sub_i, neg_i, not_b, isN_p, isnN_p, isB, isnB, ix_p0, ix_p1, isN_none, isN_pair, isN_int, isN_tup, isN_lst, tup_pair, typ, len_p, u0, u1, u2, pl_nil, pl_cons, seq_l, seq_t, len_l, len_t, list_l, list_t, abs_i, enum_l, sds0, sdsC, svs0, svsC, nx_s, plainR_ok, toB_b, set0, setS, no_nil, no_c, no_v, no_o, no_u, wp_nil, wp_cons, tg1, tgT, tyi, tyib, tyil, tyit, tytt, tytl, tyll, tylt, tybb, rok, rokO, rex, rexO, finN, finT, finX, onx, ort, oex, lifs, tstb, tstbP, gv0, gvS, go0, goS, sv0, svS, Nat.reduceAdd, Option.map_some, Option.bind_some, Bool.not_true, Bool.not_false, if_true, if_false, Bool.false_eq_true, ↓reduceIte, reduceCtorEq, List.length_cons, List.length_nil, Option.map_none, decide_true, decide_false, Bool.true_and, Bool.false_and])
theorem cutP_from (xs : List PyData) (k : Nat) : cutP xs (some (k : Int)) none = xs.drop k := by
  unfold cutP
  rw [HT.sIx_nat, HT.sIx_none]
  by_cases h : k ≤ xs.length
  · rw [Nat.min_eq_left h, List.take_of_length_le (by rw [List.length_drop]; omega)]
  · rw [Nat.min_eq_right (by omega), List.drop_of_length_le (Nat.le_refl _), List.drop_of_length_le (by omega), List.take_nil]
theorem enumL_eq (xs : List PyData) : ∀ n : Nat, enumL (n : Int) xs = (xs.zipIdx n).map fun q => .tuple [.int ((q.2 : Nat) : Int), q.1] := by
  induction xs with
  | nil => intro n; rfl
  | cons x r ih =>
    intro n
    rw [enumL, List.zipIdx_cons, List.map_cons]
    have := ih (n + 1)
    rw [show ((n + 1 : Nat) : Int) = (n : Int) + 1 by omega] at this
    rw [this]
theorem enum_pts (P : List Pt) : enumL 0 (P.map ofPair) = P.zipIdx.map fun q => .tuple [.int ((q.2 : Nat) : Int), ofPair q.1] := by
  have := enumL_eq (P.map ofPair) 0
  rw [show ((0 : Nat) : Int) = 0 from rfl] at this
  rw [this, List.zipIdx_map, List.map_map]
  rfl
theorem zip_split {α : Type} {P : List α} {d r : List (α × Nat)} {a : α} {i : Nat} (h : P.zipIdx = d ++ (a, i) :: r) : i = d.length ∧ P = d.map (·.1) ++ a :: r.map (·.1) := by
  constructor
  · have h1 : (P.zipIdx)[d.length]? = some (a, i) := by rw [h]; simp
    rw [List.getElem?_zipIdx] at h1
    obtain ⟨b, _, e⟩ := Option.map_eq_some_iff.mp h1
    have := congrArg Prod.snd e
    simp at this
    exact this.symm
  · have h1 := List.zipIdx_map_fst 0 P
    rw [h, List.map_append, List.map_cons] at h1
    exact h1.symm
/-- in lowest terms -/
def Lw (o : PyData) : Prop := ∀ a b, o = ofPair (a, b) → Int.gcd a b = 1
theorem ofPair_inj {p q : Pt} (h : ofPair p = ofPair q) : p = q := by
  obtain ⟨a, b⟩ := p
  obtain ⟨c, d⟩ := q
  simp [ofPair] at h
  simp [h]
theorem low_facts (n d : Int) (hd : 0 < d) (hm : d ≤ 2000) (h1 : -200000001 ≤ n) (h2 : n ≤ 200000001) :
    (0 < d / (Int.gcd n d : Int) ∧ d / (Int.gcd n d : Int) ≤ 2000) ∧ (-200000001 ≤ n / (Int.gcd n d : Int) ∧ n / (Int.gcd n d : Int) ≤ 200000001) ∧ n / (Int.gcd n d : Int) * d = n * (d / (Int.gcd n d : Int)) ∧ Lw (ofPair (n / (Int.gcd n d : Int), d / (Int.gcd n d : Int))) := by
  have h0 : 0 < Int.gcd n d := Int.gcd_pos_of_ne_zero_right _ (by omega)
  obtain ⟨x, hx⟩ := Int.gcd_dvd_left n d
  obtain ⟨y, hy⟩ := Int.gcd_dvd_right n d
  have hg : Int.gcd x y = 1 := by
    have e : Int.gcd n d = Int.gcd n d * Int.gcd x y := by
      have := Int.gcd_mul_left (Int.gcd n d : Int) x y
      rw [← hx, ← hy, Int.natAbs_natCast] at this
      exact this
    exact Nat.eq_of_mul_eq_mul_left h0 (by omega)
  generalize Int.gcd n d = g at *
  have hg0 : (0 : Int) < (g : Int) := by omega
  have e1 : n / (g : Int) = x := by rw [hx, Int.mul_ediv_cancel_left _ (by omega)]
  have e2 : d / (g : Int) = y := by rw [hy, Int.mul_ediv_cancel_left _ (by omega)]
  rw [e1, e2]
  have y0 : 0 < y := by
    rcases Int.lt_or_le 0 y with h | h
    · exact h
    · have := Int.mul_nonpos_of_nonneg_of_nonpos (Int.le_of_lt hg0) h
      omega
  have g1 : (1 : Int) ≤ (g : Int) := by omega
  have yd : y ≤ d := by
    have := Int.mul_le_mul_of_nonneg_right g1 (Int.le_of_lt y0)
    rw [Int.one_mul, ← hy] at this
    exact this
  have xa : x.natAbs ≤ n.natAbs := by
    rw [hx, Int.natAbs_mul]
    exact Nat.le_mul_of_pos_left _ (by omega)
  refine ⟨⟨y0, by omega⟩, ⟨by omega, by omega⟩, ?_, fun a b e => ?_⟩
  · rw [hx, hy]
    rw [Int.mul_assoc, Int.mul_comm x, Int.mul_comm x y]
    rw [Int.mul_assoc]
  · have := ofPair_inj e
    cases this
    exact hg
theorem Mx.iff {F G : Int → Int → Prop} {o : PyData} (h : Mx F o) (e : ∀ n d, F n d ↔ G n d) : Mx G o := by
  have : F = G := by funext n d; exact propext (e n d)
  rw [← this]; exact h
theorem Mn.iff {F G : Int → Int → Prop} {o : PyData} (h : Mn F o) (e : ∀ n d, F n d ↔ G n d) : Mn G o := by
  have : F = G := by funext n d; exact propext (e n d)
  rw [← this]; exact h
/-- one more pair -/
theorem bounds_in (n : Nat) {P : List Pt} (a : Pt) (A : List Pt) (r : List Pt) (hA : ∀ q, q ∈ P → a.1 < q.1 → q ∈ r) (hr : ∀ q ∈ r, q ∈ P ∧ a.1 < q.1) (ha : a ∈ P) (h : PtsG P) (w : W) (lo hi : PyData) (i : Int) (s5 s6 s7 s8 s9 : Slot)
    (q1 : Mx (FLo A P) lo) (q2 : Mn (FHi A P) hi) (q3 : Lw lo) (q4 : Lw hi) (hAP : ∀ p ∈ A, p ∈ P) :
    ∃ lo' hi' t5 t6 t7 t8 t9, forGo (fB (run (n + 2)) f_bounds_s1) (.one 5) (r.map ofPair) [.val (pD P), .val (.p lo), .val (.p hi), .val (.int i), .val (.p (ofPair a)), s5, s6, s7, s8, s9] w = .next [.val (pD P), .val (.p lo'), .val (.p hi'), .val (.int i), .val (.p (ofPair a)), t5, t6, t7, t8, t9] w ∧
      Mx (FLo (A ++ [a]) P) lo' ∧ Mn (FHi (A ++ [a]) P) hi' ∧ Lw lo' ∧ Lw hi' := by
  obtain ⟨ρ', w', e, hw, lo', hi', t5, t6, t7, t8, t9, hr', p1, p2, p3, p4⟩ := for_inv (body := fB (run (n + 2)) f_bounds_s1) (t := .one 5) ofPair
    (fun done ρ w1 => w1 = w ∧ ∃ lo hi s5 s6 s7 s8 s9, ρ = [.val (pD P), .val (.p lo), .val (.p hi), .val (.int i), .val (.p (ofPair a)), s5, s6, s7, s8, s9] ∧ Mx (fun n d => FLo A P n d ∨ FLo [a] done n d) lo ∧ Mn (fun n d => FHi A P n d ∨ FHi [a] done n d) hi ∧ Lw lo ∧ Lw hi)
    r [] _ w ⟨rfl, lo, hi, s5, s6, s7, s8, s9, rfl, by
      have : (fun n d => FLo A P n d ∨ FLo [a] [] n d) = FLo A P := by
        funext n d
        refine propext ⟨fun z => z.elim id fun ⟨_, _, q, hq, _⟩ => (nomatch hq), .inl⟩
      rw [this]; exact q1, by
      have : (fun n d => FHi A P n d ∨ FHi [a] [] n d) = FHi A P := by
        funext n d
        refine propext ⟨fun z => z.elim id fun ⟨_, _, q, hq, _⟩ => (nomatch hq), .inl⟩
      rw [this]; exact q2, q3, q4⟩
    (fun d b r' ρ w1 hl ⟨hw, lo, hi, s5, s6, s7, s8, s9, hr', q1, q2, q3, q4⟩ => by
      subst hw hr'
      rw [List.nil_append] at q1 q2 ⊢
      obtain ⟨hb, hab⟩ := hr b (by rw [hl]; exact List.mem_append_right _ List.mem_cons_self)
      obtain ⟨⟨b1, b2⟩, b3, b4⟩ := h.bnd b hb
      obtain ⟨⟨a1, a2⟩, a3, a4⟩ := h.bnd a ha
      have l1 := low_facts (b.2 - a.2 - 1) (b.1 - a.1) (by omega) (by omega) (by omega) (by omega)
      have l2 := low_facts (b.2 - a.2 + 1) (b.1 - a.1) (by omega) (by omega) (by omega) (by omega)
      have r1 := run_lowest n (b.2 - a.2 - 1) (b.1 - a.1) w1 ⟨by omega, by omega⟩
      have r2 := run_lowest n (b.2 - a.2 + 1) (b.1 - a.1) w1 ⟨by omega, by omega⟩
      generalize (b.2 - a.2 - 1) / (Int.gcd (b.2 - a.2 - 1) (b.1 - a.1) : Int) = x1 at l1 r1
      generalize (b.1 - a.1) / (Int.gcd (b.2 - a.2 - 1) (b.1 - a.1) : Int) = y1 at l1 r1
      generalize (b.2 - a.2 + 1) / (Int.gcd (b.2 - a.2 + 1) (b.1 - a.1) : Int) = x2 at l2 r2
      generalize (b.1 - a.1) / (Int.gcd (b.2 - a.2 + 1) (b.1 - a.1) : Int) = y2 at l2 r2
      obtain ⟨k1, k2, k3, k4⟩ := l1
      obtain ⟨m1, m2, m3, m4⟩ := l2
      have hpos : ∀ n e, (FLo A P n e ∨ FLo [a] d n e) → 0 < e := fun n e z => by
        rcases z with ⟨_, _, _, _, z1, _, z2⟩ | ⟨_, _, _, _, z1, _, z2⟩ <;> omega
      have hpos2 : ∀ n e, (FHi A P n e ∨ FHi [a] d n e) → 0 < e := fun n e z => by
        rcases z with ⟨_, _, _, _, z1, _, z2⟩ | ⟨_, _, _, _, z1, _, z2⟩ <;> omega
      obtain ⟨lo', g1, g2⟩ := q1.add (n := b.2 - a.2 - 1) (d := b.1 - a.1) hpos (by omega) k1 k2 k3 (F' := fun n e => FLo A P n e ∨ FLo [a] (d ++ [b]) n e) (fun x y => by
        constructor
        · rintro (z | ⟨p, hp, q, hq, z1, z2, z3⟩)
          · exact .inl (.inl z)
          · rcases List.mem_append.mp hq with hq | hq
            · exact .inl (.inr ⟨p, hp, q, hq, z1, z2, z3⟩)
            · rw [List.mem_singleton] at hp hq
              subst hp hq
              exact .inr ⟨z2, z3⟩
        · rintro ((z | ⟨p, hp, q, hq, z⟩) | ⟨z2, z3⟩)
          · exact .inl z
          · exact .inr ⟨p, hp, q, List.mem_append_left _ hq, z⟩
          · exact .inr ⟨a, List.mem_singleton_self _, b, List.mem_append_right _ (List.mem_singleton_self _), hab, z2, z3⟩)
      obtain ⟨hi', g3, g4⟩ := q2.add (n := b.2 - a.2 + 1) (d := b.1 - a.1) hpos2 (by omega) m1 m2 m3 (F' := fun n e => FHi A P n e ∨ FHi [a] (d ++ [b]) n e) (fun x y => by
        constructor
        · rintro (z | ⟨p, hp, q, hq, z1, z2, z3⟩)
          · exact .inl (.inl z)
          · rcases List.mem_append.mp hq with hq | hq
            · exact .inl (.inr ⟨p, hp, q, hq, z1, z2, z3⟩)
            · rw [List.mem_singleton] at hp hq
              subst hp hq
              exact .inr ⟨z2, z3⟩
        · rintro ((z | ⟨p, hp, q, hq, z⟩) | ⟨z2, z3⟩)
          · exact .inl z
          · exact .inr ⟨p, hp, q, List.mem_append_left _ hq, z⟩
          · exact .inr ⟨a, List.mem_singleton_self _, b, List.mem_append_right _ (List.mem_singleton_self _), hab, z2, z3⟩)
      refine ⟨_, _, w1, tg1 _ _ _, ?_, rfl, lo', hi', .val (.p (ofPair b)), .val (.int (b.1 - a.1)), .val (.int (b.2 - a.2)), .val (.p (ofPair (x1, y1))), .val (.p (ofPair (x2, y2))), rfl, g1, g3, ?_, ?_⟩
      · unfold fB f_bounds_s1
        walk_at "ev"
        rw [r1]
        walk_at "ev"
        rw [r2]
        walk_at "ev"
        rcases g2 with ⟨rfl, rfl⟩ | ⟨a0, b0, rfl, u1, u2, u3, u4, rfl⟩ <;> rcases g4 with ⟨rfl, rfl⟩ | ⟨a5, b5, rfl, v1, v2, v3, v4, rfl⟩
        · walk_at "ev"
        · walk_at "ev"
          rw [run_less (n + 1) (x2, y2) (a5, b5) w1 (by dsimp only; omega) (by dsimp only; omega)]
          walk_at "ev"
          by_cases hc : x2 * b5 < a5 * y2
          · simp only [if_pos hc, decide_eq_true hc, if_true]
            walk_at "ev"
          · simp only [if_neg hc, decide_eq_false hc]
            walk_at "ev"
        · walk_at "ev"
          rw [run_less (n + 1) (a0, b0) (x1, y1) w1 (by dsimp only; omega) (by dsimp only; omega)]
          walk_at "ev"
          by_cases hc : a0 * y1 < x1 * b0
          · simp only [if_pos hc, decide_eq_true hc, if_true]
            walk_at "ev"
          · simp only [if_neg hc, decide_eq_false hc]
            walk_at "ev"
        · walk_at "ev"
          rw [run_less (n + 1) (a0, b0) (x1, y1) w1 (by dsimp only; omega) (by dsimp only; omega)]
          walk_at "ev"
          by_cases hc : a0 * y1 < x1 * b0
          · simp only [if_pos hc, decide_eq_true hc, if_true]
            walk_at "ev"
            rw [run_less (n + 1) (x2, y2) (a5, b5) w1 (by dsimp only; omega) (by dsimp only; omega)]
            walk_at "ev"
            by_cases hd : x2 * b5 < a5 * y2
            · simp only [if_pos hd, decide_eq_true hd, if_true]
              walk_at "ev"
            · simp only [if_neg hd, decide_eq_false hd]
              walk_at "ev"
          · simp only [if_neg hc, decide_eq_false hc]
            walk_at "ev"
            rw [run_less (n + 1) (x2, y2) (a5, b5) w1 (by dsimp only; omega) (by dsimp only; omega)]
            walk_at "ev"
            by_cases hd : x2 * b5 < a5 * y2
            · simp only [if_pos hd, decide_eq_true hd, if_true]
              walk_at "ev"
            · simp only [if_neg hd, decide_eq_false hd]
              walk_at "ev"
      · rcases g2 with ⟨_, rfl⟩ | ⟨a0, b0, _, _, _, _, _, rfl⟩
        · exact k4
        · split
          · exact k4
          · exact q3
      · rcases g4 with ⟨_, rfl⟩ | ⟨a0, b0, _, _, _, _, _, rfl⟩
        · exact m4
        · split
          · exact m4
          · exact q4)
  subst hw hr'
  refine ⟨lo', hi', t5, t6, t7, t8, t9, e, ?_, ?_, p3, p4⟩
  · refine Mx.iff p1 fun n d => ?_
    rw [List.nil_append]
    constructor
    · rintro (⟨p, hp, q, z⟩ | ⟨p, hp, q, hq, z⟩)
      · exact ⟨p, List.mem_append_left _ hp, q, z⟩
      · exact ⟨p, List.mem_append_right _ hp, q, (hr q hq).1, z⟩
    · rintro ⟨p, hp, q, hq, z1, z2⟩
      rcases List.mem_append.mp hp with hp | hp
      · exact .inl ⟨p, hp, q, hq, z1, z2⟩
      · refine .inr ⟨p, hp, q, ?_, z1, z2⟩
        rw [List.mem_singleton] at hp
        subst hp
        exact hA q hq z1
  · refine Mn.iff p2 fun n d => ?_
    rw [List.nil_append]
    constructor
    · rintro (⟨p, hp, q, z⟩ | ⟨p, hp, q, hq, z⟩)
      · exact ⟨p, List.mem_append_left _ hp, q, z⟩
      · exact ⟨p, List.mem_append_right _ hp, q, (hr q hq).1, z⟩
    · rintro ⟨p, hp, q, hq, z1, z2⟩
      rcases List.mem_append.mp hp with hp | hp
      · exact .inl ⟨p, hp, q, hq, z1, z2⟩
      · refine .inr ⟨p, hp, q, ?_, z1, z2⟩
        rw [List.mem_singleton] at hp
        subst hp
        exact hA q hq z1
theorem run_boundsG (n : Nat) {P : List Pt} (w : W) (h : PtsG P) : ∃ lo hi, run (n + 3) .f_bounds [pD P] w = .ok (.tup [lo, hi]) w ∧ Mx (FLo P P) lo ∧ Mn (FHi P P) hi ∧ Lw lo ∧ Lw hi := by
  (rw [run_def _ _ Bf_bounds rfl, runD_eq Bf_bounds _ _ _ _ ⟨rfl, by decide⟩ rfl rfl]; unfold Bf_bounds; simp only [List.map_cons, List.map_nil, List.length_cons, List.length_nil, List.replicate, List.cons_append, List.nil_append, Nat.reduceAdd, Nat.reduceSub])
  walk_at "ev"
  rw [enum_pts]
  obtain ⟨ρ', w', e, hw, lo, hi, s3, s4, s5, s6, s7, s8, s9, hr, q1, q2, q3, q4⟩ := for_inv (body := fB (run (n + 2)) f_bounds_s2) (t := .tup [3, 4]) (fun q : Pt × Nat => .tuple [.int ((q.2 : Nat) : Int), ofPair q.1])
    (fun done ρ w1 => w1 = w ∧ ∃ lo hi s3 s4 s5 s6 s7 s8 s9, ρ = [.val (pD P), .val (.p lo), .val (.p hi), s3, s4, s5, s6, s7, s8, s9] ∧ Mx (FLo (done.map (·.1)) P) lo ∧ Mn (FHi (done.map (·.1)) P) hi ∧ Lw lo ∧ Lw hi)
    P.zipIdx [] [.val (pD P), .val .non, .val .non, .un, .un, .un, .un, .un, .un, .un] w
    ⟨rfl, .none, .none, _, _, _, _, _, _, _, rfl, .inl ⟨rfl, fun n d ⟨p, hp, _⟩ => (nomatch hp)⟩, .inl ⟨rfl, fun n d ⟨p, hp, _⟩ => (nomatch hp)⟩, fun a b e => (nomatch e), fun a b e => (nomatch e)⟩
    (fun d a r ρ w1 hl ⟨hw, lo, hi, s3, s4, s5, s6, s7, s8, s9, hr, q1, q2, q3, q4⟩ => by
      obtain ⟨a, i⟩ := a
      obtain ⟨rfl, hP⟩ := zip_split hl
      subst hw hr
      rw [List.nil_append] at q1 q2 ⊢
      have hinc := h.inc
      rw [hP, List.pairwise_append, List.pairwise_cons] at hinc
      obtain ⟨i1, ⟨i2, i3⟩, i4⟩ := hinc
      obtain ⟨lo', hi', t5, t6, t7, t8, t9, e, z⟩ := bounds_in n a (d.map (·.1)) (r.map (·.1)) (fun q hq hlt => by
        rw [hP] at hq
        rcases List.mem_append.mp hq with hq | hq
        · have := i4 q hq a List.mem_cons_self
          omega
        · rcases List.mem_cons.mp hq with rfl | hq
          · omega
          · exact hq) (fun q hq => ⟨by rw [hP]; exact List.mem_append_right _ (List.mem_cons_of_mem _ hq), i2 q hq⟩) (by rw [hP]; exact List.mem_append_right _ List.mem_cons_self) h w1 lo hi (d.length : Int) s5 s6 s7 s8 s9 q1 q2 q3 q4
        (fun p hp => by rw [hP]; exact List.mem_append_left _ hp)
      refine ⟨_, _, w1, rfl, ?_, rfl, lo', hi', .val (.int (d.length : Int)), .val (.p (ofPair a)), t5, t6, t7, t8, t9, rfl, by rw [List.map_append]; exact z⟩
      unfold fB f_bounds_s2
      walk_at "ev"
      rw [show ((d.length : Nat) : Int) + 1 = ((d.length + 1 : Nat) : Int) by omega]
      rw [show slD (.list (P.map ofPair)) (some ((d.length + 1 : Nat) : Int)) none = some (.list ((r.map (·.1)).map ofPair)) by
        show some (PyData.list (cutP _ _ _)) = _
        rw [cutP_from, ← List.map_drop]
        congr 2
        rw [hP]
        simp [List.drop_append]]
      walk_at "ev"
      rw [e]
      walk_at "ev")
  subst hw hr
  refine ⟨lo, hi, ?_, ?_, ?_, q3, q4⟩
  · rw [e]
    walk_at "ev"
  · rw [List.nil_append, List.zipIdx_map_fst] at q1
    exact q1
  · rw [List.nil_append, List.zipIdx_map_fst] at q2
    exact q2
theorem run_bounds (n : Nat) {P : List Pt} (w : W) (h : Pts P) : ∃ lo hi, run (n + 3) .f_bounds [pD P] w = .ok (.tup [lo, hi]) w ∧ Mx (FLo P P) lo ∧ Mn (FHi P P) hi ∧ Lw lo ∧ Lw hi := run_boundsG n w h.g
/-- what straight means: every lower bound is less than every upper one -/
def Str (P : List Pt) : Prop := ∀ n d, FLo P P n d → ∀ n' d', FHi P P n' d' → n * d' < n' * d
theorem frac_lt {a b n d x y c e : Int} (hb : 0 < b) (hd : 0 < d) (hy : 0 < y) (he : 0 < e) (h1 : n * b ≤ a * d) (h2 : a * e < c * b) (h3 : c * y ≤ x * e) : n * y < x * d := by
  rcases Int.lt_or_le (n * y) (x * d) with h | h
  · exact h
  · exfalso
    -- x/y ≤ n/d ≤ a/b, so c/e ≤ a/b
    have g1 : x * b ≤ a * y := frac_tr hy hd hb h h1
    have g2 := frac_tr (a := c) (b := e) (n := x) (d := y) (x := a) (y := b) he hy hb h3 g1
    omega
theorem Mx.pos {P A : List Pt} : ∀ n d, FLo A P n d → 0 < d := fun n d ⟨_, _, _, _, z1, _, z2⟩ => by omega
theorem Mn.pos {P A : List Pt} : ∀ n d, FHi A P n d → 0 < d := fun n d ⟨_, _, _, _, z1, _, z2⟩ => by omega
theorem str_iff {P : List Pt} {lo hi : PyData} (h1 : Mx (FLo P P) lo) (h2 : Mn (FHi P P) hi) : (lo = .none ∧ hi = .none ∧ Str P) ∨ ∃ a b c e, lo = ofPair (a, b) ∧ hi = ofPair (c, e) ∧ (0 < b ∧ b ≤ 2000 ∧ -200000001 ≤ a ∧ a ≤ 200000001) ∧ (0 < e ∧ e ≤ 2000 ∧ -200000001 ≤ c ∧ c ≤ 200000001) ∧ (a * e < c * b ↔ Str P) := by
  have emp : (∀ n d, ¬ FLo P P n d) ↔ ∀ n d, ¬ FHi P P n d :=
    ⟨fun h n d ⟨p, hp, q, hq, z, _, _⟩ => h _ _ ⟨p, hp, q, hq, z, rfl, rfl⟩, fun h n d ⟨p, hp, q, hq, z, _, _⟩ => h _ _ ⟨p, hp, q, hq, z, rfl, rfl⟩⟩
  rcases h1 with ⟨rfl, h1⟩ | ⟨a, b, rfl, a1, a2, a3, a4, ⟨n1, d1, a5, a6⟩, a7⟩
  · rcases h2 with ⟨rfl, h2⟩ | ⟨c, e, rfl, c1, c2, c3, c4, ⟨n2, d2, c5, c6⟩, c7⟩
    · exact .inl ⟨rfl, rfl, fun n d z => absurd z (h1 n d)⟩
    · exact absurd c5 (emp.mp h1 _ _)
  · rcases h2 with ⟨rfl, h2⟩ | ⟨c, e, rfl, c1, c2, c3, c4, ⟨n2, d2, c5, c6⟩, c7⟩
    · exact absurd a5 (emp.mpr h2 _ _)
    · refine .inr ⟨a, b, c, e, rfl, rfl, ⟨a1, a2, a3, a4⟩, ⟨c1, c2, c3, c4⟩, fun h n d z n' d' z' => ?_, fun h => ?_⟩
      · exact frac_lt a1 (Mx.pos _ _ z) (Mn.pos _ _ z') c1 (a7 _ _ z) h (c7 _ _ z')
      · have := h _ _ a5 _ _ c5
        have p1 := Mx.pos _ _ a5
        have p2 := Mn.pos _ _ c5
        exact frac_lt p1 a1 c1 p2 (by rw [a6]; exact Int.le_refl _) this (by rw [c6]; exact Int.le_refl _)
open Classical in
theorem run_straightG (n : Nat) {P : List Pt} (w : W) (h : PtsG P) : run (n + 4) .f_straight [pD P] w = .ok (.bl (decide (Str P))) w := by
  obtain ⟨lo, hi, eq, h1, h2, _, _⟩ := run_boundsG n w h
  (rw [run_def _ _ Bf_straight rfl, runD_eq Bf_straight _ _ _ _ ⟨rfl, by decide⟩ rfl rfl]; unfold Bf_straight; simp only [List.map_cons, List.map_nil, List.length_cons, List.length_nil, List.replicate, List.cons_append, List.nil_append, Nat.reduceAdd, Nat.reduceSub])
  walk_at "ev"
  rw [eq]
  walk_at "ev"
  rcases str_iff h1 h2 with ⟨rfl, rfl, hs⟩ | ⟨a, b, c, e, rfl, rfl, ⟨b1, b2, b3, b4⟩, ⟨e1, e2, e3, e4⟩, hs⟩
  · rw [decide_eq_true hs]
    walk_at "ev"
  · walk_at "ev"
    rw [run_less (n + 2) (a, b) (c, e) w (by dsimp only; omega) (by dsimp only; omega)]
    walk_at "ev"
    rw [show decide (a * e < c * b) = decide (Str P) from Bool.eq_iff_iff.mpr (by simp only [decide_eq_true_eq]; exact hs)]
open Classical in
theorem run_straight (n : Nat) {P : List Pt} (w : W) (h : Pts P) : run (n + 4) .f_straight [pD P] w = .ok (.bl (decide (Str P))) w := run_straightG n w h.g
open Classical in
theorem run_is_straight (n : Nat) {P : List Pt} (w : W) (h : Pts P) : run (n + 5) .f_is_straight [pD P] w = .ok (.bl (decide (Str P))) w := by
  (rw [run_def _ _ Bf_is_straight rfl, runD_eq Bf_is_straight _ _ _ _ ⟨rfl, by decide⟩ rfl rfl]; unfold Bf_is_straight; simp only [List.map_cons, List.map_nil, List.length_cons, List.length_nil, List.replicate, List.cons_append, List.nil_append, Nat.reduceAdd, Nat.reduceSub])
  walk_at "ev"
  rw [run_check_points n w h]
  walk_at "ev"
  rw [run_straight n w h]
  walk_at "ev"
end Px

end

section
/-! Lib4: draws, the law's lines and points. -/
namespace Px
open PySem Ev
local macro_rules | `(tactic| walk_at "ev") => `(tactic| simp -implicitDefEqProofs only [e_var, e_non, e_call0, e_mkS, e_meth, e_meth0, e_srow, e_noPast, e_lenS, e_neO, s_setRow, s_appPast, s_popPast, s_popO, s_par3O, e_sset, e_fmt, e_fstr, e_join, e_split, e_bl, e_int, e_str, e_gint, e_bin, e_neg, e_not, e_cmp, e_chain, e_and, e_or, e_and1, e_or1, e_ite, e_call, e_bcall, e_isi, e_ix, e_sl, e_tup, e_lst, e_comp, e_compIf, e_lenO, e_ixO, e_ninO, e_index, e_count, e_lenum, e_lrng, e_slS, es_nil, es_cons, i_seq, i_r1, i_r2, i_r3, i_enum, i_zip, o_non, o_some, s_set, s_setO, s_parO, s_par, s_unp, s_aug, s_extO, s_app, s_stO, s_ife, s_for, s_while, s_ret, s_retN, s_expr, s_raise, s_pass, b_nil, b_cons, b_frz, lt_i, le_i, gt_i, ge_i, add_i, sub_i, neg_i, not_b, isN_p, isnN_p, isB, isnB, ix_p0, ix_p1, isN_none, isN_pair, isN_int, isN_tup, isN_lst, tup_pair, typ, len_p, u0, u1, u2, pl_nil, pl_cons, seq_l, seq_t, len_l, len_t, list_l, list_t, abs_i, enum_l, sds0, sdsC, svs0, svsC, nx_s, plainR_ok, toB_b, set0, setS, no_nil, no_c, no_v, no_o, no_u, wp_nil, wp_cons, tg1, tgT, tyi, tyib, tyil, tyit, tytt, tytl, tyll, tylt, tybb, rok, rokO, rex, rexO, finN, finT, finX, onx, ort, oex, lifs, tstb, tstbP, gv0, gvS, go0, goS, sv0, svS, Nat.reduceAdd, Option.map_some, Option.bind_some, Bool.not_true, Bool.not_false, if_true, if_false, Bool.false_eq_true, ↓reduceIte, reduceCtorEq, List.length_cons, List.length_nil, Option.map_none, decide_true, decide_false, Bool.true_and, Bool.false_and])
/-- there is something to draw from -/
def DrOk (w : W) : Prop := ∃ ns c, w.dr = some (ns, c) ∧ ns ≠ []
theorem run_draw (n : Nat) (lim : Int) (w : W) (h : DrOk w) (h1 : 0 < lim ∧ lim < 1073741824) : ∃ v w', run (n + 1) .f_law_draw [.drw, .int lim] w = .ok (.int v) w' ∧ (0 ≤ v ∧ v < lim) ∧ DrOk w' := by
  obtain ⟨ns, c, hd, hn⟩ := h
  refine ⟨drawI ns c lim, ⟨some (drawN ns c lim, c + 1), w.sp, w.scr⟩, ?_, ?_, ?_⟩
  · show drawG [.drw, .int lim] w = _
    unfold drawG
    dsimp only
    rw [hd]
    dsimp only
    rw [if_pos ⟨hn, h1.1, h1.2⟩]
  · unfold drawI
    dsimp only
    split
    · exact ⟨Int.emod_nonneg _ (by omega), Int.emod_lt_of_pos _ h1.1⟩
    · exact ⟨Int.emod_nonneg _ (by omega), Int.emod_lt_of_pos _ h1.1⟩
  · refine ⟨_, _, rfl, ?_⟩
    unfold drawN
    dsimp only
    split
    · intro z
      have := congrArg List.length z
      rw [List.length_set] at this
      exact hn (List.length_eq_zero_iff.mp this)
    · exact hn
theorem run_start (n : Nat) (a : Nat) (ns : List Int) : ∃ w', run (n + 1) .f_law_start [.scr a] (w0 a ns) = .ok .drw w' ∧ DrOk w' := by
  refine ⟨⟨some (if ns = [] then [0] else ns, 0), none, none⟩, ?_, _, _, rfl, ?_⟩
  · show startG [.scr a] (w0 a ns) = _
    unfold startG w0
    dsimp only
    rw [if_pos rfl]
  · split
    · simp
    · assumption
theorem run_pick (n : Nat) (xs : List PyData) (w : W) (h : DrOk w) (h1 : xs ≠ []) (h2 : xs.length < 1000000) : ∃ x w', run (n + 2) .f_law_pick [.drw, .lst xs] w = .ok (.p x) w' ∧ x ∈ xs ∧ DrOk w' := by
  have h0 : 0 < xs.length := List.length_pos_iff.mpr h1
  obtain ⟨v, w', e, hv, hw⟩ := run_draw n (xs.length : Int) w h ⟨by omega, by omega⟩
  obtain ⟨k, rfl⟩ : ∃ k : Nat, v = k := ⟨v.toNat, by omega⟩
  refine ⟨xs[k]'(by omega), w', ?_, List.getElem_mem _, hw⟩
  (rw [run_def _ _ Bf_law_pick rfl, runD_eq Bf_law_pick _ _ _ _ ⟨rfl, by decide⟩ rfl rfl]; unfold Bf_law_pick; simp only [List.map_cons, List.map_nil, List.length_cons, List.length_nil, List.replicate, List.cons_append, List.nil_append, Nat.reduceAdd, Nat.reduceSub])
  walk_at "ev"
  rw [e]
  walk_at "ev"
  have := ix_l (fun x : PyData => x) xs k (by omega)
  rw [List.map_id'] at this
  rw [this]
  walk_at "ev"
theorem run_law_common (n : Nat) (a b : Nat) (w : W) (hb : b < 1000000) : run (n + 1) .f_law_common [.int (a : Int), .int (b : Int)] w = .ok (.int (Nat.gcd a b : Nat)) w := by
  (rw [run_def _ _ Bf_law_common rfl, runD_eq Bf_law_common _ _ _ _ ⟨rfl, by decide⟩ rfl rfl]; unfold Bf_law_common; simp only [List.map_cons, List.map_nil, List.length_cons, List.length_nil, List.replicate, List.cons_append, List.nil_append, Nat.reduceAdd, Nat.reduceSub])
  walk_at "ev"
  obtain ⟨ρ', w', e, h1, y, h2⟩ := while_inv (test := fE (run n) f_law_common_s1) (body := fB (run n) f_law_common_s2)
    (fun ρ w1 => w1 = w ∧ ∃ x y : Nat, ρ = [.val (.int x), .val (.int y)] ∧ Nat.gcd x y = Nat.gcd a b) (fun ρ _ => match ρ with | [_, .val (.p (.int y))] => y.toNat | _ => 0) (fun ρ w1 => w1 = w ∧ ∃ y, ρ = [.val (.int (Nat.gcd a b : Nat)), y])
    (fun ρ w1 ⟨hw, x, y, hr, hg⟩ => by
      subst hw hr
      by_cases hy : y = 0
      · subst hy
        refine .inl ⟨w1, ?_, rfl, .val (.int 0), ?_⟩
        · unfold fE f_law_common_s1
          walk_at "ev"
          rw [ne_i]
          rfl
        · rw [← hg]; simp
      · refine .inr ⟨w1, [.val (.int (y : Int)), .val (.int ((x % y : Nat) : Int))], w1, ?_, ?_, ⟨rfl, y, x % y, rfl, ?_⟩, ?_⟩
        · unfold fE f_law_common_s1
          walk_at "ev"
          rw [ne_i]
          simp [hy, lifs]
        · unfold fB f_law_common_s2
          walk_at "ev"
          rw [mod_i (by omega)]
          walk_at "ev"
          rfl
        · rw [← hg, Nat.gcd_comm x y, Nat.gcd_rec y x, Nat.gcd_comm]
        · show (((x % y : Nat) : Int)).toNat < ((y : Nat) : Int).toNat
          have := Nat.mod_lt x (Nat.pos_of_ne_zero hy)
          omega)
    whileMost [.val (.int (a : Int)), .val (.int (b : Int))] w ⟨rfl, a, b, rfl, rfl⟩ (by show ((b : Nat) : Int).toNat < whileMost; unfold whileMost; omega)
  subst h1 h2
  rw [e]
  walk_at "ev"
theorem run_law_low (n : Nat) (a b : Int) (w : W) (hb : 0 < b ∧ b < 1000000) : run (n + 2) .f_law_low [.int a, .int b] w = .ok (.p (ofPair (a / (Int.gcd a b : Int), b / (Int.gcd a b : Int)))) w := by
  obtain ⟨m, rfl⟩ : ∃ m : Nat, b = m := ⟨b.toNat, by omega⟩
  (rw [run_def _ _ Bf_law_low rfl, runD_eq Bf_law_low _ _ _ _ ⟨rfl, by decide⟩ rfl rfl]; unfold Bf_law_low; simp only [List.map_cons, List.map_nil, List.length_cons, List.length_nil, List.replicate, List.cons_append, List.nil_append, Nat.reduceAdd, Nat.reduceSub])
  walk_at "ev"
  rw [run_law_common n a.natAbs m w (by omega)]
  have e : Nat.gcd a.natAbs m = Int.gcd a (m : Int) := rfl
  rw [e]
  have h0 : 0 < Int.gcd a (m : Int) := Int.gcd_pos_of_ne_zero_right _ (by omega)
  have h1 : Int.gcd a (m : Int) ≤ m := Nat.le_of_dvd (by omega) (Int.gcd_dvd_natAbs_right a m)
  walk_at "ev"
  rw [fdiv_i ⟨by omega, by omega⟩, fdiv_i ⟨by omega, by omega⟩]
  walk_at "ev"
/-- a law's line -/
structure LnB (p q c : Int) : Prop where
  q0 : 0 < q
  q1 : q ≤ 12
  p0 : -2 * q ≤ p
  p1 : p ≤ 2 * q
  c0 : -20 ≤ c
  c1 : c < 20
  g : Int.gcd p q = 1
theorem run_line (n : Nat) (w : W) (h : DrOk w) : ∃ p q c w', run (n + 3) .f_law_line [.drw] w = .ok (.tup [.int p, .int q, .int c]) w' ∧ LnB p q c ∧ DrOk w' := by
  (rw [run_def _ _ Bf_law_line rfl, runD_eq Bf_law_line _ _ _ _ ⟨rfl, by decide⟩ rfl rfl]; unfold Bf_law_line; simp only [List.map_cons, List.map_nil, List.length_cons, List.length_nil, List.replicate, List.cons_append, List.nil_append, Nat.reduceAdd, Nat.reduceSub])
  walk_at "ev"
  obtain ⟨x, w1, e1, hx, d1⟩ := run_pick n [.int 2, .int 6, .int 12] w h (by simp) (by decide)
  rw [e1]
  obtain ⟨m, rfl, m1, m2⟩ : ∃ m : Int, x = .int m ∧ 2 ≤ m ∧ m ≤ 12 := by
    simp only [List.mem_cons, List.not_mem_nil, or_false] at hx
    rcases hx with rfl | rfl | rfl
    · exact ⟨2, rfl, by decide, by decide⟩
    · exact ⟨6, rfl, by decide, by decide⟩
    · exact ⟨12, rfl, by decide, by decide⟩
  walk_at "ev"
  obtain ⟨u, w2, e2, ⟨u1, u2⟩, d2⟩ := run_draw (n + 1) m w1 d1 ⟨by omega, by omega⟩
  rw [e2]
  walk_at "ev"
  rw [mul_i (by omega)]
  walk_at "ev"
  obtain ⟨t, w3, e3, ⟨t1, t2⟩, d3⟩ := run_draw (n + 1) (4 * (1 + u) + 1) w2 d2 ⟨by omega, by omega⟩
  rw [e3]
  walk_at "ev"
  rw [mul_i (by omega)]
  walk_at "ev"
  rw [run_law_low n (t - 2 * (1 + u)) (1 + u) w3 ⟨by omega, by omega⟩]
  walk_at "ev"
  obtain ⟨v, w4, e4, ⟨v1, v2⟩, d4⟩ := run_draw (n + 1) 40 w3 d3 ⟨by omega, by omega⟩
  rw [e4]
  walk_at "ev"
  have lf := low_facts (t - 2 * (1 + u)) (1 + u) (by omega) (by omega) (by omega) (by omega)
  have hz : (1 + u) / (Int.gcd (t - 2 * (1 + u)) (1 + u) : Int) ≤ 12 := Int.le_trans (Int.ediv_le_self _ (by omega)) (by omega)
  generalize (t - 2 * (1 + u)) / (Int.gcd (t - 2 * (1 + u)) (1 + u) : Int) = p at lf ⊢
  generalize (1 + u) / (Int.gcd (t - 2 * (1 + u)) (1 + u) : Int) = q at lf hz ⊢
  obtain ⟨⟨k1, k2⟩, k3, k4, k5⟩ := lf
  refine ⟨p, q, v - 20, w4, rfl, ⟨k1, hz, ?_, ?_, by omega, by omega, k5 _ _ rfl⟩, d4⟩
  · -- p (1+u) = (t - 2(1+u)) q ≥ -2 (1+u) q
    have h1 : -2 * q * (1 + u) ≤ p * (1 + u) := by
      rw [k4, Int.mul_assoc, Int.mul_comm q, ← Int.mul_assoc]
      exact Int.mul_le_mul_of_nonneg_right (by omega) (by omega)
    exact Int.le_of_mul_le_mul_right h1 (by omega)
  · have h1 : p * (1 + u) ≤ 2 * q * (1 + u) := by
      rw [k4, Int.mul_assoc 2, Int.mul_comm q (1 + u), ← Int.mul_assoc 2]
      exact Int.mul_le_mul_of_nonneg_right (by omega) (by omega)
    exact Int.le_of_mul_le_mul_right h1 (by omega)
theorem run_height (n : Nat) (p q c x : Int) (w : W) (h : LnB p q c) (hx : -1000 ≤ x ∧ x ≤ 1000) : run (n + 1) .f_law_height [.tup [.int p, .int q, .int c], .int x] w = .ok (.int ((p * x + c) / q)) w := by
  have := h.p0; have := h.p1; have := h.q0; have := h.q1
  (rw [run_def _ _ Bf_law_height rfl, runD_eq Bf_law_height _ _ _ _ ⟨rfl, by decide⟩ rfl rfl]; unfold Bf_law_height; simp only [List.map_cons, List.map_nil, List.length_cons, List.length_nil, List.replicate, List.cons_append, List.nil_append, Nat.reduceAdd, Nat.reduceSub])
  walk_at "ev"
  rw [mul_i (by omega)]
  walk_at "ev"
  rw [fdiv_i ⟨by omega, by omega⟩]
  walk_at "ev"
theorem rngL_to (j : Int) (h : 0 ≤ j ∧ j ≤ 16000000) : rngD1 (.int j) = some ((List.range j.toNat).map fun k => .int ((k : Nat) : Int)) := by
  obtain ⟨n, rfl⟩ : ∃ n : Nat, j = n := ⟨j.toNat, by omega⟩
  rw [rng1_n n (by omega)]
  simp
theorem intsOf_map : ∀ l : List Int, intsOf (l.map PyData.int) = some l
  | [] => rfl
  | i :: l => by
    rw [List.map_cons, intsOf, intsOf_map l]
    rfl
/-- the xs of a law's points: in order, all different -/
theorem run_xs (n : Nat) (most : Nat) (w : W) (h : DrOk w) (hm : 1 ≤ most ∧ most ≤ 20) : ∃ (l : List Int) (w' : W), run (n + 3) .f_law_xs [.drw, .int (most : Int)] w = .ok (.lst (l.map PyData.int)) w' ∧ (1 ≤ l.length ∧ l.length ≤ most) ∧ (∀ x ∈ l, -70 ≤ x ∧ x ≤ 140) ∧ l.Pairwise (· < ·) ∧ DrOk w' := by
  (rw [run_def _ _ Bf_law_xs rfl, runD_eq Bf_law_xs _ _ _ _ ⟨rfl, by decide⟩ rfl rfl]; unfold Bf_law_xs; simp only [List.map_cons, List.map_nil, List.length_cons, List.length_nil, List.replicate, List.cons_append, List.nil_append, Nat.reduceAdd, Nat.reduceSub])
  walk_at "ev"
  obtain ⟨x, w1, e1, hx, d1⟩ := run_pick n [.int ((most : Int) + 2), .int 30, .int 200] w h (by simp) (by simp)
  rw [e1]
  obtain ⟨m, rfl, m1, m2⟩ : ∃ m : Int, x = .int m ∧ 3 ≤ m ∧ m ≤ 200 := by
    simp only [List.mem_cons, List.not_mem_nil, or_false] at hx
    rcases hx with rfl | rfl | rfl
    · exact ⟨_, rfl, by omega, by omega⟩
    · exact ⟨30, rfl, by decide, by decide⟩
    · exact ⟨200, rfl, by decide, by decide⟩
  walk_at "ev"
  obtain ⟨u, w2, e2, ⟨u1, u2⟩, d2⟩ := run_draw (n + 1) (most : Int) w1 d1 ⟨by omega, by omega⟩
  rw [e2]
  walk_at "ev"
  rw [rngL_to (1 + u) ⟨by omega, by omega⟩]
  walk_at "ev"
  obtain ⟨ρ', w', e, d', (l : List Int), s4, s5, hr, h1, h2, h3, h4⟩ := for_inv (body := fB (run (n + 2)) f_law_xs_s1) (t := .one 4) (fun k : Nat => .int ((k : Nat) : Int))
    (fun done ρ w => DrOk w ∧ ∃ (l : List Int) (s4 s5 : Slot), ρ = [.val .drw, .val (.int (most : Int)), .own (l.map PyData.int), .val (.int m), s4, s5] ∧ l.length ≤ done.length ∧ (done ≠ [] → 1 ≤ l.length) ∧ (∀ x ∈ l, -70 ≤ x ∧ x ≤ 140) ∧ l.Nodup)
    (List.range (1 + u).toNat) [] _ w2 ⟨d2, [], .un, .un, rfl, Nat.le_refl _, fun z => absurd rfl z, fun x hx => (nomatch hx), List.nodup_nil⟩
    (fun d a r ρ w hl ⟨d1, (l : List Int), s4, s5, hr, h1, h2, h3, h4⟩ => by
      subst hr
      obtain ⟨v, w3, e3, ⟨v1, v2⟩, d3⟩ := run_draw (n + 1) m w d1 ⟨by omega, by omega⟩
      have hdone : (0 : Nat) ≤ 0 := Nat.le_refl _
      have hdl : (l.map PyData.int).length ≤ 16000000 := by
        rw [List.length_map]
        have := congrArg List.length hl
        rw [List.length_range, List.length_append, List.length_cons] at this
        rw [List.nil_append] at h1
        omega
      have hPL : ∀ x ∈ l.map PyData.int, PL 0 x := fun x hx => by
        obtain ⟨i, _, rfl⟩ := List.mem_map.mp hx
        exact PL.int _ _
      have hmem : (PyData.int (v - m / 3) ∈ l.map PyData.int) ↔ v - m / 3 ∈ l := by
        rw [List.mem_map]
        exact ⟨fun ⟨i, hi, z⟩ => by cases z; exact hi, fun z => ⟨_, z, rfl⟩⟩
      have hin := (in_b (PL.int 0 (v - m / 3)) hPL (by decide) (by decide) (b := decide (v - m / 3 ∈ l)) (by rw [decide_eq_true_eq, hmem])).2.1
      rw [cv_nin] at hin
      have ev1 : (evS (run (n + 2)) [.val .drw, .val (.int (most : Int)), .own (l.map PyData.int), .val (.int m), .val (.int (a : Int)), s5] (.set 5 (.bin .sub (.call .f_law_draw (.cons (.var 0) (.cons (.var 3) .nil))) (.bin .fdiv (.var 3) (.int 3)))) w) = .next [.val .drw, .val (.int (most : Int)), .own (l.map PyData.int), .val (.int m), .val (.int (a : Int)), .val (.int (v - m / 3))] w3 := by
        walk_at "ev"
        rw [e3]
        walk_at "ev"
        rw [fdiv_i ⟨by omega, by omega⟩]
        walk_at "ev"
      by_cases hc : v - m / 3 ∈ l
      · refine ⟨_, [.val .drw, .val (.int (most : Int)), .own (l.map PyData.int), .val (.int m), .val (.int (a : Int)), .val (.int (v - m / 3))], w3, tg1 _ _ _, ?_, d3, l, _, _, rfl, ?_, fun _ => List.length_pos_of_mem hc, h3, h4⟩
        · unfold fB f_law_xs_s1
          rw [b_cons]
          simp only [sv0, svS]
          rw [ev1]
          walk_at "ev"
          rw [hin, decide_eq_true hc]
          walk_at "ev"
        · rw [List.length_append]
          omega
      · refine ⟨_, [.val .drw, .val (.int (most : Int)), .own ((l ++ [v - m / 3]).map PyData.int), .val (.int m), .val (.int (a : Int)), .val (.int (v - m / 3))], w3, tg1 _ _ _, ?_, d3, _, _, _, rfl, ?_, fun _ => ?_, ?_, ?_⟩
        · unfold fB f_law_xs_s1
          rw [b_cons]
          simp only [sv0, svS]
          rw [ev1]
          walk_at "ev"
          rw [hin, decide_eq_false hc]
          walk_at "ev"
          rw [if_pos (sizeOk_le hdl)]
          walk_at "ev"
          rw [List.map_append]
          rfl
        · rw [List.length_append, List.length_append]
          simp only [List.length_cons, List.length_nil]
          omega
        · rw [List.length_append]
          simp
        · intro x hx
          rcases List.mem_append.mp hx with hx | hx
          · exact h3 x hx
          · rw [List.mem_singleton] at hx
            omega
        · rw [List.nodup_append]
          refine ⟨h4, by simp, fun x hx y hy z => ?_⟩
          rw [List.mem_singleton] at hy
          subst hy
          subst z
          exact hc hx)
  subst hr
  rw [List.nil_append, List.length_range] at h1
  have hne : 1 ≤ l.length := h2 (by
    rw [List.nil_append]
    intro z
    have := congrArg List.length z
    rw [List.length_range] at this
    simp at this
    omega)
  have hp := sortI_perm l
  refine ⟨sortI l, w', ?_, ?_, ?_, ?_, d'⟩
  · rw [List.map_nil] at e
    rw [e]
    walk_at "ev"
    rw [show bV .sorted [.lst (l.map PyData.int)] = some (.lst ((sortI l).map PyData.int)) by
      show Option.map D.p (bD .sorted [.list (l.map PyData.int)]) = _
      unfold bD
      dsimp only
      rw [intsOf_map]
      dsimp only
      rw [if_pos (by omega)]
      rfl]
    walk_at "ev"
  · rw [hp.length_eq]
    exact ⟨hne, by omega⟩
  · intro x hx
    exact h3 x (hp.mem_iff.mp hx)
  · have h5 : (sortI l).Nodup := hp.nodup_iff.mpr h4
    have h6 := sortI_sorted l
    exact (h6.and h5).imp fun {a b} z => by
      obtain ⟨z1, z2⟩ := z
      omega
/-- a law's points -/
structure PtsB (most : Nat) (P : List Pt) : Prop where
  one : 1 ≤ P.length
  most : P.length ≤ most
  bnd : ∀ p ∈ P, (-70 ≤ p.1 ∧ p.1 ≤ 140) ∧ (-310 ≤ p.2 ∧ p.2 ≤ 310)
  inc : P.Pairwise fun p q => p.1 < q.1
theorem PtsB.pts {most : Nat} {P : List Pt} (h : PtsB most P) (hm : most ≤ 20) : Pts P :=
  ⟨h.one, Nat.le_trans h.most hm, fun p hp => by have := h.bnd p hp; omega, h.inc⟩
theorem height_bd {p q c x : Int} (h : LnB p q c) (hx : -70 ≤ x ∧ x ≤ 140) : -300 ≤ (p * x + c) / q ∧ (p * x + c) / q ≤ 300 := by
  have hp0 := h.p0; have hp1 := h.p1; have hq0 := h.q0; have hq1 := h.q1; have hc0 := h.c0; have hc1 := h.c1
  have hpx : -(280 * q) ≤ p * x ∧ p * x ≤ 280 * q := by
    rcases Int.le_total 0 x with hx0 | hx0
    · have a1 := Int.mul_le_mul_of_nonneg_right hp1 hx0
      have a2 := Int.mul_le_mul_of_nonneg_right hp0 hx0
      have a3 : q * x ≤ q * 140 := Int.mul_le_mul_of_nonneg_left hx.2 (Int.le_of_lt hq0)
      rw [Int.mul_assoc] at a1 a2
      omega
    · have a1 := Int.mul_le_mul_of_nonpos_right hp1 hx0
      have a2 := Int.mul_le_mul_of_nonpos_right hp0 hx0
      have a3 : q * (-70) ≤ q * x := Int.mul_le_mul_of_nonneg_left hx.1 (Int.le_of_lt hq0)
      rw [Int.mul_assoc] at a1 a2
      omega
  constructor
  · rw [Int.le_ediv_iff_mul_le hq0]
    omega
  · have : (p * x + c) / q < 301 := by
      rw [Int.ediv_lt_iff_lt_mul hq0]
      omega
    omega
theorem run_points (n : Nat) (most : Nat) (w : W) (h : DrOk w) (hm : 1 ≤ most ∧ most ≤ 20) : ∃ (P : List Pt) (w' : W), run (n + 4) .f_law_points [.drw, .int (most : Int)] w = .ok (pD P) w' ∧ PtsB most P ∧ DrOk w' := by
  (rw [run_def _ _ Bf_law_points rfl, runD_eq Bf_law_points _ _ _ _ ⟨rfl, by decide⟩ rfl rfl]; unfold Bf_law_points; simp only [List.map_cons, List.map_nil, List.length_cons, List.length_nil, List.replicate, List.cons_append, List.nil_append, Nat.reduceAdd, Nat.reduceSub])
  walk_at "ev"
  obtain ⟨p, q, c, w1, e1, hL, d1⟩ := run_line n w h
  rw [e1]
  walk_at "ev"
  obtain ⟨l, w2, e2, ⟨l1, l2⟩, l3, l4, d2⟩ := run_xs n most w1 d1 hm
  rw [e2]
  walk_at "ev"
  rw [if_pos (sizeOk_le (by rw [List.length_map]; omega))]
  rw [comp_map (step := fC (run (n + 3)) f_law_points_s1) (w := w2) PyData.int (fun x => ofPair (x, (p * x + c) / q)) l (fun x hx => by
    refine ⟨_, tg1 _ _ _, ?_⟩
    unfold fC f_law_points_s1
    walk_at "ev"
    have := l3 x hx
    rw [run_height (n + 2) p q c x w2 hL (by omega)]
    walk_at "ev")]
  walk_at "ev"
  obtain ⟨k, w3, e3, ⟨k1, k2⟩, d3⟩ := run_draw (n + 2) 4 w2 d2 ⟨by decide, by decide⟩
  rw [e3]
  walk_at "ev"
  rw [eq_i]
  walk_at "ev"
  -- the points of the line
  have hP0 : (l.map fun x => ofPair (x, (p * x + c) / q)) = (l.map fun x => (x, (p * x + c) / q)).map ofPair := by rw [List.map_map]; rfl
  rw [hP0]
  have base : ∀ pt ∈ l.map fun x => (x, (p * x + c) / q), (-70 ≤ pt.1 ∧ pt.1 ≤ 140) ∧ (-300 ≤ pt.2 ∧ pt.2 ≤ 300) := fun pt hpt => by
    obtain ⟨x, hx, rfl⟩ := List.mem_map.mp hpt
    exact ⟨l3 x hx, height_bd hL (l3 x hx)⟩
  have inc0 : (l.map fun x => (x, (p * x + c) / q)).Pairwise fun p q => p.1 < q.1 := by
    rw [List.pairwise_map]
    exact l4
  have len0 : (l.map fun x => (x, (p * x + c) / q)).length = l.length := List.length_map _
  generalize (l.map fun x => (x, (p * x + c) / q)) = P0 at *
  by_cases hk : k = 0
  · rw [decide_eq_true hk]
    walk_at "ev"
    exact ⟨P0, w3, rfl, ⟨by omega, by omega, fun pt hpt => by have := base pt hpt; omega, inc0⟩, d3⟩
  · rw [decide_eq_false hk]
    walk_at "ev"
    obtain ⟨t, w4, e4, ⟨t1, t2⟩, d4⟩ := run_draw (n + 2) 3 w3 d3 ⟨by decide, by decide⟩
    rw [e4]
    walk_at "ev"
    rw [rngL_to t ⟨t1, by omega⟩]
    walk_at "ev"
    obtain ⟨ρ', w', e, d', P, s5, s6, s7, s8, hr, h1, h2, h3⟩ := for_inv (body := fB (run (n + 3)) f_law_points_s2) (t := .one 5) (fun k : Nat => .int ((k : Nat) : Int))
      (fun done ρ w => DrOk w ∧ ∃ (P : List Pt) (s5 s6 s7 s8 : Slot), ρ = [.val .drw, .val (.int (most : Int)), .val (.tup [.int p, .int q, .int c]), .own (P.map ofPair), .val (.int k), s5, s6, s7, s8] ∧ P.length = l.length ∧ (∀ pt ∈ P, (-70 ≤ pt.1 ∧ pt.1 ≤ 140) ∧ (-300 - 2 * (done.length : Int) ≤ pt.2 ∧ pt.2 ≤ 300 + 2 * (done.length : Int))) ∧ P.Pairwise fun p q => p.1 < q.1)
      (List.range t.toNat) [] [.val .drw, .val (.int (most : Int)), .val (.tup [.int p, .int q, .int c]), .own (P0.map ofPair), .val (.int k), .un, .un, .un, .un] w4 ⟨d4, P0, .un, .un, .un, .un, rfl, len0, fun pt hpt => by have := base pt hpt; simp only [List.length_nil]; omega, inc0⟩
      (fun d a r ρ w hl ⟨dw, P, s5, s6, s7, s8, hr, h1, h2, h3⟩ => by
        subst hr
        obtain ⟨v, w5, e5, ⟨v1, v2⟩, d5⟩ := run_draw (n + 2) ((P.map ofPair).length : Int) w dw ⟨by rw [List.length_map]; omega, by rw [List.length_map]; omega⟩
        rw [List.length_map] at v2
        obtain ⟨j, rfl⟩ : ∃ j : Nat, v = j := ⟨v.toNat, by omega⟩
        have hj : j < P.length := by omega
        obtain ⟨x, w6, e6, hx, d6⟩ := run_pick (n + 1) [.int (0 - 1), .int 1, .int 1, .int 2, .int 0] w5 d5 (by simp) (by simp)
        obtain ⟨z, rfl, z1, z2⟩ : ∃ z : Int, x = .int z ∧ -1 ≤ z ∧ z ≤ 2 := by
          simp only [List.mem_cons, List.not_mem_nil, or_false] at hx
          rcases hx with rfl | rfl | rfl | rfl | rfl
          · exact ⟨_, rfl, by decide, by decide⟩
          · exact ⟨_, rfl, by decide, by decide⟩
          · exact ⟨_, rfl, by decide, by decide⟩
          · exact ⟨_, rfl, by decide, by decide⟩
          · exact ⟨_, rfl, by decide, by decide⟩
        have hat : L2.atI (P.map ofPair) (j : Int) = some (ofPair P[j]) := by
          rw [atI_nat _ _ (by rw [List.length_map]; exact hj)]
          simp
        have hixn : L2.ixN (P.map ofPair).length (j : Int) = some j := by
          unfold L2.ixN
          rw [if_pos (by omega), if_pos (by rw [List.length_map]; omega)]
          simp
        refine ⟨_, [.val .drw, .val (.int (most : Int)), .val (.tup [.int p, .int q, .int c]), .own ((P.set j (P[j].1, P[j].2 + z)).map ofPair), .val (.int k), .val (.int (a : Int)), .val (.int (j : Int)), .val (.int P[j].1), .val (.int P[j].2)], w6, tg1 _ _ _, ?_, d6, _, _, _, _, _, rfl, by rw [List.length_set]; exact h1, ?_, ?_⟩
        · unfold fB f_law_points_s2
          walk_at "ev"
          rw [e5]
          walk_at "ev"
          rw [hat]
          walk_at "ev"
          rw [show ofPair P[j] = .tuple [.int P[j].1, .int P[j].2] from rfl]
          walk_at "ev"
          rw [e6]
          walk_at "ev"
          rw [hixn]
          walk_at "ev"
          rw [List.map_set]
        · intro pt hpt
          rw [List.nil_append] at h2 ⊢
          rw [List.length_append]
          rcases List.mem_or_eq_of_mem_set hpt with hpt | rfl
          · have := h2 pt hpt
            simp only [List.length_cons, List.length_nil]
            omega
          · have := h2 P[j] (List.getElem_mem hj)
            simp only [List.length_cons, List.length_nil]
            omega
        · rw [List.pairwise_iff_getElem] at h3 ⊢
          intro i1 i2 g1 g2 g3
          rw [List.length_set] at g1 g2
          have h4 := h3 i1 i2 g1 g2 g3
          rw [List.getElem_set, List.getElem_set]
          split
          · rename_i u1
            subst u1
            split
            · omega
            · exact h4
          · split
            · rename_i u2
              subst u2
              exact h4
            · exact h4)
    subst hr
    rw [List.nil_append, List.length_range] at h2
    refine ⟨P, w', ?_, ⟨by omega, by omega, fun pt hpt => by have := h2 pt hpt; omega, h3⟩, d'⟩
    rw [e]
    walk_at "ev"
end Px

end

section
/-! LibC: small things. -/
namespace Px
open PySem Ev
local macro_rules | `(tactic| walk_at "ev") => `(tactic| simp -implicitDefEqProofs only [e_var, e_non, e_call0, e_mkS, e_meth, e_meth0, e_srow, e_noPast, e_lenS, e_neO, s_setRow, s_appPast, s_popPast, s_popO, s_par3O, e_sset, e_fmt, e_fstr, e_join, e_split, e_bl, e_int, e_str, e_gint, e_bin, e_neg, e_not, e_cmp, e_chain, e_and, e_or, e_and1, e_or1, e_ite, e_call, e_bcall, e_isi, e_ix, e_sl, e_tup, e_lst, e_comp, e_compIf, e_lenO, e_ixO, e_ninO, e_index, e_count, e_lenum, e_lrng, e_slS, es_nil, es_cons, i_seq, i_r1, i_r2, i_r3, i_enum, i_zip, o_non, o_some, s_set, s_setO, s_parO, s_par, s_unp, s_aug, s_extO, s_app, s_stO, s_ife, s_for, s_while, s_ret, s_retN, s_expr, s_raise, s_pass, b_nil, b_cons, b_frz, lt_i, le_i, gt_i, ge_i, add_i, sub_i, neg_i, not_b, isN_p, isnN_p, isB, isnB, ix_p0, ix_p1, isN_none, isN_pair, isN_int, isN_tup, isN_lst, tup_pair, typ, len_p, u0, u1, u2, pl_nil, pl_cons, seq_l, seq_t, len_l, len_t, list_l, list_t, abs_i, enum_l, sds0, sdsC, svs0, svsC, nx_s, plainR_ok, toB_b, set0, setS, no_nil, no_c, no_v, no_o, no_u, wp_nil, wp_cons, tg1, tgT, tyi, tyib, tyil, tyit, tytt, tytl, tyll, tylt, tybb, rok, rokO, rex, rexO, finN, finT, finX, onx, ort, oex, lifs, tstb, tstbP, gv0, gvS, go0, goS, sv0, svS, Nat.reduceAdd, Option.map_some, Option.bind_some, Bool.not_true, Bool.not_false, if_true, if_false, Bool.false_eq_true, ↓reduceIte, reduceCtorEq, List.length_cons, List.length_nil, Option.map_none, decide_true, decide_false, Bool.true_and, Bool.false_and])
def dropB : Nat → MB Fn → MB Fn
  | 0, b => b
  | n + 1, .cons _ b => dropB n b
  | n + 1, .frz _ b => dropB n b
  | _, .nil => .nil
def takeB : Nat → MB Fn → MB Fn → MB Fn
  | 0, _, t => t
  | n + 1, .cons s b, t => .cons s (takeB n b t)
  | n + 1, .frz i b, t => .frz i (takeB n b t)
  | _ + 1, .nil, t => t
theorem take_drop : ∀ (n : Nat) (b : MB Fn), takeB n b (dropB n b) = b
  | 0, b => by cases b <;> rfl
  | n + 1, .cons s b => by rw [dropB, takeB, take_drop n b]
  | n + 1, .frz i b => by rw [dropB, takeB, take_drop n b]
  | n + 1, .nil => rfl
theorem comp_rel {α β : Type} {step : Ev.Env → W → Res (Option PyData)} {ρ : Ev.Env} {t : MT} (g : α → PyData) (f : β → PyData) (R : α → β → Prop) : ∀ (l : List α) (w : W), DrOk w → (∀ a ∈ l, ∀ w, DrOk w → ∃ ρ', tgt ρ t (g a) = some ρ' ∧ ∃ b w', step ρ' w = .ok (some (f b)) w' ∧ DrOk w' ∧ R a b) →
    ∃ (bs : List β) (w' : W), compGo step ρ t (l.map g) w = .ok (bs.map f) w' ∧ DrOk w' ∧ bs.length = l.length ∧ ∀ (i : Nat) (h : i < l.length) (h' : i < bs.length), R l[i] bs[i]
  | [], w, hw, _ => ⟨[], w, rfl, hw, rfl, fun i h => (nomatch h)⟩
  | a :: l, w, hw, h => by
    obtain ⟨ρ', h1, b, w1, h2, h3, h4⟩ := h a List.mem_cons_self w hw
    obtain ⟨bs, w', e, h5, h6, h7⟩ := comp_rel (step := step) (ρ := ρ) (t := t) g f R l w1 h3 fun c hc => h c (List.mem_cons_of_mem _ hc)
    refine ⟨b :: bs, w', ?_, h5, by simp [h6], fun i hi hi' => ?_⟩
    · rw [List.map_cons, compGo, h1]
      dsimp only
      rw [h2]
      dsimp only
      rw [e]
      rfl
    · cases i with
      | zero => exact h4
      | succ i => exact h7 i (by simpa using hi) (by simpa using hi')
theorem ne_same {n : Nat} {d : PyData} (h : PL n d) (hn : n ≤ 64) : cmpV .ne (.p d) (.p d) = some (.bl false) := ne_b h h hn hn (b := true) (by simp)
theorem ne_bb (a b : Bool) : cmpV .ne (.bl a) (.bl b) = some (.bl (!decide (a = b))) := by cases a <;> cases b <;> rfl
theorem PL.nil : PL 3 (.list []) := PL.lst fun d hd => (nomatch hd)
theorem sum_i (l : List Int) : bV .sum [.lst (l.map PyData.int)] = some (.int l.sum) := by
  show Option.map D.p ((intsOf (l.map PyData.int)).map fun l => .int l.sum) = _
  rw [intsOf_map]
  rfl
theorem isnBB (b : Bool) : cmpV .isn (.bl b) (.bl true) = some (.bl !b) := by cases b <;> rfl
theorem min_ii (i j : Int) : bV .min [.int i, .int j] = some (.int (if j < i then j else i)) := rfl
theorem max_ii (i j : Int) : bV .max [.int i, .int j] = some (.int (if i < j then j else i)) := rfl
theorem PL.ints (l : List Int) : PL 1 (.list (l.map PyData.int)) := PL.lst fun d hd => by
  obtain ⟨i, _, rfl⟩ := List.mem_map.mp hd
  exact PL.int _ _
theorem eq_same {n : Nat} {d : PyData} (h : PL n d) (hn : n ≤ 64) : cmpV .eq (.p d) (.p d) = some (.bl true) := eq_b h h hn hn (b := true) (by simp)
theorem eq_pair (p q : Int × Int) : cmpV .eq (.p (ofPair p)) (.p (ofPair q)) = some (.bl (decide (p = q))) := eq_b (PL.pair p) (PL.pair q) (by decide) (by decide) (by
  rw [decide_eq_true_eq]
  exact ⟨fun h => by rw [h], fun h => by
    obtain ⟨a, b⟩ := p
    obtain ⟨c, d⟩ := q
    unfold ofPair at h
    simp at h
    rw [h.1, h.2]⟩)
theorem min_l (x : Int) (r : List Int) : bV .min [.lst ((x :: r).map PyData.int)] = some (.int (minI x r)) := by
  show Option.map D.p (bD .min [.list ((x :: r).map PyData.int)]) = _
  unfold bD
  dsimp only
  rw [intsOf_map]
  rfl
theorem max_l (x : Int) (r : List Int) : bV .max [.lst ((x :: r).map PyData.int)] = some (.int (maxI x r)) := by
  show Option.map D.p (bD .max [.list ((x :: r).map PyData.int)]) = _
  unfold bD
  dsimp only
  rw [intsOf_map]
  rfl
theorem rng2_b (i j : Int) (hi : -1000000000 ≤ i ∧ i ≤ 1000000000) (hj : -1000000000 ≤ j ∧ j ≤ 1000000000) : rngD2 (.int i) (.int j) = some ((List.range (j - i).toNat).map fun k : Nat => .int (i + (k : Int))) := by
  show (if bigB i = true ∧ bigB j = true then some (rngL i (j - i).toNat) else none) = _
  rw [if_pos ⟨decide_eq_true (by omega), decide_eq_true (by omega)⟩, rngL_eq]
/-- a for that goes on to its end without a trace -/
theorem for_same {α : Type} {body : Ev.Env → W → Out} {t : MT} (g : α → PyData) (I : Ev.Env → Prop) (w : W) (l : List α) (ρ : Ev.Env) (h0 : I ρ)
    (k : ∀ a ∈ l, ∀ ρ, I ρ → ∃ ρ1 ρ2, tgt ρ t (g a) = some ρ1 ∧ body ρ1 w = .next ρ2 w ∧ I ρ2) : ∃ ρ', forGo body t (l.map g) ρ w = .next ρ' w ∧ I ρ' := by
  obtain ⟨ρ', w', e, hw, hI⟩ := for_inv (body := body) (t := t) g (fun _ ρ w1 => w1 = w ∧ I ρ) l [] ρ w ⟨rfl, h0⟩ fun d a r ρ w1 hl ⟨hw, hI⟩ => by
    subst hw
    obtain ⟨ρ1, ρ2, h1, h2, h3⟩ := k a (by rw [hl]; exact List.mem_append_right _ List.mem_cons_self) ρ hI
    exact ⟨ρ1, ρ2, w1, h1, h2, rfl, h3⟩
  subst hw
  exact ⟨ρ', e, hI⟩
end Px

end

section
/-! LibD: exceptions told, tests. -/
namespace Px
open PySem Ev
local macro_rules | `(tactic| walk_at "ev") => `(tactic| simp -implicitDefEqProofs only [e_var, e_non, e_call0, e_mkS, e_meth, e_meth0, e_srow, e_noPast, e_lenS, e_neO, s_setRow, s_appPast, s_popPast, s_popO, s_par3O, e_sset, e_fmt, e_fstr, e_join, e_split, e_bl, e_int, e_str, e_gint, e_bin, e_neg, e_not, e_cmp, e_chain, e_and, e_or, e_and1, e_or1, e_ite, e_call, e_bcall, e_isi, e_ix, e_sl, e_tup, e_lst, e_comp, e_compIf, e_lenO, e_ixO, e_ninO, e_index, e_count, e_lenum, e_lrng, e_slS, es_nil, es_cons, i_seq, i_r1, i_r2, i_r3, i_enum, i_zip, o_non, o_some, s_set, s_setO, s_parO, s_par, s_unp, s_aug, s_extO, s_app, s_stO, s_ife, s_for, s_while, s_ret, s_retN, s_expr, s_raise, s_pass, b_nil, b_cons, b_frz, lt_i, le_i, gt_i, ge_i, add_i, sub_i, neg_i, not_b, isN_p, isnN_p, isB, isnB, ix_p0, ix_p1, isN_none, isN_pair, isN_int, isN_tup, isN_lst, tup_pair, typ, len_p, u0, u1, u2, pl_nil, pl_cons, seq_l, seq_t, len_l, len_t, list_l, list_t, abs_i, enum_l, sds0, sdsC, svs0, svsC, nx_s, plainR_ok, toB_b, set0, setS, no_nil, no_c, no_v, no_o, no_u, wp_nil, wp_cons, tg1, tgT, tyi, tyib, tyil, tyit, tytt, tytl, tyll, tylt, tybb, rok, rokO, rex, rexO, finN, finT, finX, onx, ort, oex, lifs, tstb, tstbP, gv0, gvS, go0, goS, sv0, svS, Nat.reduceAdd, Option.map_some, Option.bind_some, Bool.not_true, Bool.not_false, if_true, if_false, Bool.false_eq_true, ↓reduceIte, reduceCtorEq, List.length_cons, List.length_nil, Option.map_none, decide_true, decide_false, Bool.true_and, Bool.false_and])
def exT : Nat → PySem.Str
  | 0 => "points"
  | 1 => "row"
  | 2 => "line"
  | 3 => "number"
  | 4 => "text"
  | 5 => "bent"
  | _ => "none"
theorem run_law_error (n c : Nat) (w : W) (hc : c ≤ 6) : run (n + 1) .f_law_error [.exc c] w = .ok (.str (exT c)) w := by
  have : c = 0 ∨ c = 1 ∨ c = 2 ∨ c = 3 ∨ c = 4 ∨ c = 5 ∨ c = 6 := by omega
  rcases this with rfl | rfl | rfl | rfl | rfl | rfl | rfl <;> kernel_rfl
theorem run_law_true (n : Nat) (a b : Bool) (w : W) : run (n + 1) .f_law_true [.bl a, .bl b] w = .ok (.bl (decide (a = b))) w := by
  cases a <;> cases b <;> kernel_rfl
theorem try_ok {b : MB Fn} {φ : Fn → List D → W → Res D} {ρ : Ev.Env} {w : W} {i j : Nat} {ρ' : Ev.Env} {w' : W} (h : evB φ ρ b w = .next ρ' w') : evS φ ρ (.try_ b i j) w = .next ρ' w' := by
  rw [s_try, h]
theorem try_exc {b : MB Fn} {φ : Fn → List D → W → Res D} {ρ : Ev.Env} {w : W} {i j c : Nat} {ρ' : Ev.Env} {w' : W} (h : evB φ ρ b w = .exc c ρ' w') (hc : c ≤ 6) (hj : j < ρ'.length) : evS φ ρ (.try_ b i j) w = .next ((setV ρ' i (.exc c)).set j .un) w' := by
  rw [s_try, h]
  exact if_pos ⟨hc, hj⟩
end Px

end

section
/-! LibR: rows. -/
namespace Px
open PySem Ev
local macro_rules | `(tactic| walk_at "ev") => `(tactic| simp -implicitDefEqProofs only [e_var, e_non, e_call0, e_mkS, e_meth, e_meth0, e_srow, e_noPast, e_lenS, e_neO, s_setRow, s_appPast, s_popPast, s_popO, s_par3O, e_sset, e_fmt, e_fstr, e_join, e_split, e_bl, e_int, e_str, e_gint, e_bin, e_neg, e_not, e_cmp, e_chain, e_and, e_or, e_and1, e_or1, e_ite, e_call, e_bcall, e_isi, e_ix, e_sl, e_tup, e_lst, e_comp, e_compIf, e_lenO, e_ixO, e_ninO, e_index, e_count, e_lenum, e_lrng, e_slS, es_nil, es_cons, i_seq, i_r1, i_r2, i_r3, i_enum, i_zip, o_non, o_some, s_set, s_setO, s_parO, s_par, s_unp, s_aug, s_extO, s_app, s_stO, s_ife, s_for, s_while, s_ret, s_retN, s_expr, s_raise, s_pass, b_nil, b_cons, b_frz, lt_i, le_i, gt_i, ge_i, add_i, sub_i, neg_i, not_b, isN_p, isnN_p, isB, isnB, ix_p0, ix_p1, isN_none, isN_pair, isN_int, isN_tup, isN_lst, tup_pair, typ, len_p, u0, u1, u2, pl_nil, pl_cons, seq_l, seq_t, len_l, len_t, list_l, list_t, abs_i, enum_l, sds0, sdsC, svs0, svsC, nx_s, plainR_ok, toB_b, set0, setS, no_nil, no_c, no_v, no_o, no_u, wp_nil, wp_cons, tg1, tgT, tyi, tyib, tyil, tyit, tytt, tytl, tyll, tylt, tybb, rok, rokO, rex, rexO, finN, finT, finX, onx, ort, oex, lifs, tstb, tstbP, gv0, gvS, go0, goS, sv0, svS, Nat.reduceAdd, Option.map_some, Option.bind_some, Bool.not_true, Bool.not_false, if_true, if_false, Bool.false_eq_true, ↓reduceIte, reduceCtorEq, List.length_cons, List.length_nil, Option.map_none, decide_true, decide_false, Bool.true_and, Bool.false_and])
/-- a row -/
structure RowOk (R : List Int) : Prop where
  one : 1 ≤ R.length
  most : R.length ≤ 20
  bnd : ∀ h ∈ R, -1000 ≤ h ∧ h ≤ 1000
abbrev rD (R : List Int) : D := .lst (R.map PyData.int)
def rowP (R : List Int) : List Pt := R.zipIdx.map fun q => ((q.2 : Int), q.1)
theorem rowP_len (R : List Int) : (rowP R).length = R.length := by unfold rowP; simp
theorem rowP_at (R : List Int) (k : Nat) (h : k < R.length) : (rowP R)[k]'(by rw [rowP_len]; exact h) = ((k : Int), R[k]) := by
  unfold rowP
  simp
theorem rowP_pts {R : List Int} (h : RowOk R) : Pts (rowP R) := by
  have hm := h.most
  refine ⟨by rw [rowP_len]; exact h.one, by rw [rowP_len]; exact hm, fun p hp => ?_, ?_⟩
  · obtain ⟨k, hk, rfl⟩ := List.mem_iff_getElem.mp hp
    rw [rowP_len] at hk
    rw [rowP_at R k hk]
    have := h.bnd R[k] (List.getElem_mem _)
    dsimp only
    omega
  · rw [List.pairwise_iff_getElem]
    intro i j hi hj hij
    rw [rowP_len] at hi hj
    rw [rowP_at R i hi, rowP_at R j hj]
    dsimp only
    omega
theorem enum_row (R : List Int) : enumL 0 (R.map PyData.int) = (rowP R).map ofPair := by
  have := enumL_eq (R.map PyData.int) 0
  rw [show ((0 : Nat) : Int) = 0 from rfl] at this
  rw [this]
  unfold rowP
  apply List.ext_getElem
  · simp
  · intro i h1 h2
    simp [ofPair]
theorem at_row (R : List Int) (k : Nat) (h : k < R.length) : R.getD k 0 = R[k] := by simp [List.getD, h]
theorem ix_r (R : List Int) (k : Nat) (h : k < R.length) : ixV (rD R) (.int (k : Int)) = some (.int (R.getD k 0)) := by
  rw [at_row R k h]
  exact ix_l PyData.int R k h
theorem run_is_row (n : Nat) {R : List Int} (w : W) (h : RowOk R) : run (n + 2) .f_is_row [rD R] w = .ok (.bl true) w := by
  have hl := h.most
  (rw [run_def _ _ Bf_is_row rfl, runD_eq Bf_is_row _ _ _ _ ⟨rfl, by decide⟩ rfl rfl]; unfold Bf_is_row; simp only [List.map_cons, List.map_nil, List.length_cons, List.length_nil, List.replicate, List.cons_append, List.nil_append, Nat.reduceAdd, Nat.reduceSub])
  walk_at "ev"
  rw [decide_eq_true (show (1 : Int) ≤ ((R.map PyData.int).length : Int) by rw [List.length_map]; have := h.one; omega), decide_eq_true (show ((R.map PyData.int).length : Int) ≤ 20 by rw [List.length_map]; omega)]
  walk_at "ev"
  rw [if_pos (sizeOk_le (by rw [List.length_map]; omega)), comp_map (step := fC (run (n + 1)) f_is_row_s1) (w := w) PyData.int (fun _ => .bool true) R (fun a ha => by
    refine ⟨_, tg1 _ _ _, ?_⟩
    unfold fC f_is_row_s1
    walk_at "ev"
    rw [run_is_int]
    obtain ⟨h1, h2⟩ := h.bnd a ha
    rw [decide_eq_true h1, decide_eq_true h2]
    walk_at "ev")]
  walk_at "ev"
  rw [show bV .all [.lst (R.map fun _ => .bool true)] = some (.bl (R.all fun _ => true)) from all_b (fun _ => true) R, show (R.all fun _ => true) = true from List.all_eq_true.mpr fun _ _ => rfl]
  walk_at "ev"
theorem run_check_row (n : Nat) {R : List Int} (w : W) (h : RowOk R) : run (n + 3) .f_check_row [rD R] w = .ok .non w := by
  (rw [run_def _ _ Bf_check_row rfl, runD_eq Bf_check_row _ _ _ _ ⟨rfl, by decide⟩ rfl rfl]; unfold Bf_check_row; simp only [List.map_cons, List.map_nil, List.length_cons, List.length_nil, List.replicate, List.cons_append, List.nil_append, Nat.reduceAdd, Nat.reduceSub])
  walk_at "ev"
  rw [run_is_row n w h]
  walk_at "ev"
theorem run_as_points (n : Nat) {R : List Int} (w : W) (h : R.length ≤ 1000) : run (n + 1) .f_as_points [rD R] w = .ok (pD (rowP R)) w := by
  (rw [run_def _ _ Bf_as_points rfl, runD_eq Bf_as_points _ _ _ _ ⟨rfl, by decide⟩ rfl rfl]; unfold Bf_as_points; simp only [List.map_cons, List.map_nil, List.length_cons, List.length_nil, List.replicate, List.cons_append, List.nil_append, Nat.reduceAdd, Nat.reduceSub])
  walk_at "ev"
  rw [show lenumV (rD R) = some (pD (rowP R)) by
    show (if (R.map PyData.int).length ≤ 16000000 then some (D.lst (enumL 0 (R.map PyData.int))) else none) = _
    rw [if_pos (by rw [List.length_map]; omega), enum_row]]
  walk_at "ev"
theorem run_points_of (n : Nat) {R : List Int} (w : W) (h : RowOk R) : run (n + 4) .f_points_of [rD R] w = .ok (pD (rowP R)) w := by
  (rw [run_def _ _ Bf_points_of rfl, runD_eq Bf_points_of _ _ _ _ ⟨rfl, by decide⟩ rfl rfl]; unfold Bf_points_of; simp only [List.map_cons, List.map_nil, List.length_cons, List.length_nil, List.replicate, List.cons_append, List.nil_append, Nat.reduceAdd, Nat.reduceSub])
  walk_at "ev"
  rw [run_check_row n w h]
  walk_at "ev"
  rw [run_as_points (n + 2) w (by have := h.most; omega)]
  walk_at "ev"
open Classical in
theorem run_is_straight_row (n : Nat) {R : List Int} (w : W) (h : RowOk R) : run (n + 5) .f_is_straight_row [rD R] w = .ok (.bl (decide (Str (rowP R)))) w := by
  (rw [run_def _ _ Bf_is_straight_row rfl, runD_eq Bf_is_straight_row _ _ _ _ ⟨rfl, by decide⟩ rfl rfl]; unfold Bf_is_straight_row; simp only [List.map_cons, List.map_nil, List.length_cons, List.length_nil, List.replicate, List.cons_append, List.nil_append, Nat.reduceAdd, Nat.reduceSub])
  walk_at "ev"
  rw [run_check_row (n + 1) w h]
  walk_at "ev"
  rw [run_as_points (n + 3) w (by have := h.most; omega)]
  walk_at "ev"
  rw [run_straight n w (rowP_pts h)]
  walk_at "ev"
/-! ### steps, windows -/
/-- so many steps from a place -/
abbrev win (R : List Int) (l k : Nat) : Int := R.getD (k + l) 0 - R.getD k 0
def dif (R : List Int) : List Int := (List.range (R.length - 1)).map fun k => win R 1 k
def wins (R : List Int) (l : Nat) : List Int := (List.range (R.length - l)).map fun k => win R l k
theorem run_differences (n : Nat) {R : List Int} (w : W) (h1 : 1 ≤ R.length) (h : R.length ≤ 1000) : run (n + 1) .f_differences [rD R] w = .ok (rD (dif R)) w := by
  (rw [run_def _ _ Bf_differences rfl, runD_eq Bf_differences _ _ _ _ ⟨rfl, by decide⟩ rfl rfl]; unfold Bf_differences; simp only [List.map_cons, List.map_nil, List.length_cons, List.length_nil, List.replicate, List.cons_append, List.nil_append, Nat.reduceAdd, Nat.reduceSub])
  walk_at "ev"
  rw [show ((R.map PyData.int).length : Int) - 1 = ((R.length - 1 : Nat) : Int) by rw [List.length_map]; omega, rng1_n _ (by omega)]
  walk_at "ev"
  rw [if_pos (sizeOk_le (by rw [List.length_map, List.length_range]; omega)), comp_map (step := fC (run n) f_differences_s1) (w := w) (fun k : Nat => .int (k : Int)) (fun k => .int (win R 1 k)) _ (fun k hk => by
    have hk := List.mem_range.mp hk
    refine ⟨_, tg1 _ _ _, ?_⟩
    unfold fC f_differences_s1
    walk_at "ev"
    rw [show ((k : Nat) : Int) + 1 = ((k + 1 : Nat) : Int) by omega, ix_r R (k + 1) (by omega)]
    walk_at "ev"
    rw [ix_r R k (by omega)]
    walk_at "ev")]
  walk_at "ev"
  unfold dif rD
  rw [List.map_map]
  rfl
theorem run_steps_of (n : Nat) {R : List Int} (w : W) (h : RowOk R) : run (n + 4) .f_steps_of [rD R] w = .ok (rD (dif R)) w := by
  (rw [run_def _ _ Bf_steps_of rfl, runD_eq Bf_steps_of _ _ _ _ ⟨rfl, by decide⟩ rfl rfl]; unfold Bf_steps_of; simp only [List.map_cons, List.map_nil, List.length_cons, List.length_nil, List.replicate, List.cons_append, List.nil_append, Nat.reduceAdd, Nat.reduceSub])
  walk_at "ev"
  rw [run_check_row n w h]
  walk_at "ev"
  rw [run_differences (n + 2) w h.one (by have := h.most; omega)]
  walk_at "ev"
theorem wins_comp {φ : Fn → List D → W → Res D} {R : List Int} (w : W) (l : Nat) (s2 s3 : Slot) (elt : ME Fn) (he : elt = .bin .sub (.ix (.var 0) (.bin .add (.var 3) (.var 1))) (.ix (.var 0) (.var 3))) :
    compGo (fC φ elt) [.val (rD R), .val (.int (l : Int)), s2, s3] (.one 3) ((List.range (R.length - l)).map fun k : Nat => .int (k : Int)) w = .ok ((wins R l).map PyData.int) w := by
  subst he
  rw [comp_map (step := fC φ _) (w := w) (fun k : Nat => .int (k : Int)) (fun k => .int (win R l k)) _ (fun k hk => by
    have hk := List.mem_range.mp hk
    refine ⟨_, tg1 _ _ _, ?_⟩
    unfold fC
    walk_at "ev"
    rw [show ((k : Nat) : Int) + (l : Int) = ((k + l : Nat) : Int) by omega, ix_r R (k + l) (by omega)]
    walk_at "ev"
    rw [ix_r R k (by omega)]
    walk_at "ev")]
  unfold wins
  rw [List.map_map]
  rfl
/-- the least, the greatest of a list -/
def mnL : List Int → Int
  | [] => 0
  | x :: r => minI x r
def mxL : List Int → Int
  | [] => 0
  | x :: r => maxI x r
theorem min_L (l : List Int) (h : l ≠ []) : bV .min [.lst (l.map PyData.int)] = some (.int (mnL l)) := by
  cases l with
  | nil => exact absurd rfl h
  | cons x r => exact min_l x r
theorem max_L (l : List Int) (h : l ≠ []) : bV .max [.lst (l.map PyData.int)] = some (.int (mxL l)) := by
  cases l with
  | nil => exact absurd rfl h
  | cons x r => exact max_l x r
theorem wins_ne {R : List Int} {l : Nat} (h : l < R.length) : wins R l ≠ [] := fun z => by
  have := congrArg List.length z
  unfold wins at this
  rw [List.length_map, List.length_range, List.length_nil] at this
  omega
theorem run_window_sums (n : Nat) {R : List Int} (w : W) (h : RowOk R) (l : Nat) (h1 : 1 ≤ l) (h2 : l < R.length) : run (n + 4) .f_window_sums [rD R, .int (l : Int)] w = .ok (.tup [.int (mnL (wins R l)), .int (mxL (wins R l))]) w := by
  have hm := h.most
  (rw [run_def _ _ Bf_window_sums rfl, runD_eq Bf_window_sums _ _ _ _ ⟨rfl, by decide⟩ rfl rfl]; unfold Bf_window_sums; simp only [List.map_cons, List.map_nil, List.length_cons, List.length_nil, List.replicate, List.cons_append, List.nil_append, Nat.reduceAdd, Nat.reduceSub])
  walk_at "ev"
  rw [run_check_row n w h]
  walk_at "ev"
  rw [run_is_int, decide_eq_true (show (1 : Int) ≤ (l : Int) by omega), decide_eq_true (show (l : Int) ≤ ((R.map PyData.int).length : Int) - 1 by rw [List.length_map]; omega)]
  walk_at "ev"
  rw [show ((R.map PyData.int).length : Int) - (l : Int) = ((R.length - l : Nat) : Int) by rw [List.length_map]; omega, rng1_n _ (by omega)]
  walk_at "ev"
  rw [if_pos (sizeOk_le (by rw [List.length_map, List.length_range]; omega)), wins_comp w l _ _ f_window_sums_s1 rfl]
  walk_at "ev"
  rw [min_L _ (wins_ne h2)]
  walk_at "ev"
  rw [max_L _ (wins_ne h2)]
  walk_at "ev"
/-! ### the row of some steps -/
theorem atI_last {α : Type} (l : List α) (a : α) : L2.atI (l ++ [a]) (-1) = some a := by
  unfold L2.atI L2.ixN
  rw [if_neg (by decide), if_pos (by rw [List.length_append, List.length_singleton]; omega)]
  simp only [List.length_append, List.length_singleton, Option.bind_some]
  rw [show (-1 + ((l.length + 1 : Nat) : Int)).toNat = l.length by omega]
  simp
theorem range_split {n : Nat} {d r : List Nat} {a : Nat} (h : List.range n = d ++ a :: r) : a = d.length ∧ d = List.range d.length ∧ a < n := by
  have hl := congrArg List.length h
  rw [List.length_range, List.length_append, List.length_cons] at hl
  have h1 : (List.range n)[d.length]? = some a := by rw [h]; simp
  rw [List.getElem?_range (by omega)] at h1
  have h2 : a = d.length := (Option.some.inj h1).symm
  refine ⟨h2, ?_, by omega⟩
  have h3 := congrArg (List.take d.length) h
  rw [List.take_left, List.take_range, Nat.min_eq_left (by omega)] at h3
  exact h3.symm
theorem take_get {α : Type} (l : List α) (k : Nat) (h : k < l.length) : l.take (k + 1) = l.take k ++ [l[k]] := by rw [List.take_add_one, List.getElem?_eq_getElem h]; rfl
theorem run_row_of (n : Nat) {R : List Int} (w : W) (h : RowOk R) : run (n + 4) .f_row_of [.int (R.getD 0 0), rD (dif R)] w = .ok (rD R) w := by
  have h1 := h.one
  have hm := h.most
  have hb : ∀ k, k < R.length → -1000 ≤ R.getD k 0 ∧ R.getD k 0 ≤ 1000 := fun k hk => by
    rw [at_row R k hk]
    exact h.bnd _ (List.getElem_mem _)
  have dl : (dif R).length = R.length - 1 := by unfold dif; rw [List.length_map, List.length_range]
  have de : (dif R).map PyData.int = (List.range (R.length - 1)).map fun k => .int (win R 1 k) := by
    unfold dif
    rw [List.map_map]
    rfl
  obtain ⟨b1, b2⟩ := hb 0 (by omega)
  (rw [run_def _ _ Bf_row_of rfl, runD_eq Bf_row_of _ _ _ _ ⟨rfl, by decide⟩ rfl rfl]; unfold Bf_row_of; simp only [List.map_cons, List.map_nil, List.length_cons, List.length_nil, List.replicate, List.cons_append, List.nil_append, Nat.reduceAdd, Nat.reduceSub])
  walk_at "ev"
  rw [run_is_int, decide_eq_true b1, decide_eq_true b2]
  walk_at "ev"
  rw [if_pos (sizeOk_le (by rw [List.length_map]; omega)), comp_map (step := fC (run (n + 3)) f_row_of_s1) (w := w) PyData.int (fun _ => .bool true) (dif R) (fun a ha => by
    refine ⟨_, tg1 _ _ _, ?_⟩
    obtain ⟨k, hk, rfl⟩ := List.mem_map.mp ha
    have hk := List.mem_range.mp hk
    have := hb k (by omega)
    have := hb (k + 1) (by omega)
    unfold fC f_row_of_s1
    walk_at "ev"
    rw [run_is_int, decide_eq_true (show -2000 ≤ win R 1 k by show -2000 ≤ R.getD (k + 1) 0 - R.getD k 0; omega), decide_eq_true (show win R 1 k ≤ 2000 by show R.getD (k + 1) 0 - R.getD k 0 ≤ 2000; omega)]
    walk_at "ev")]
  walk_at "ev"
  rw [show bV .all [.lst ((dif R).map fun _ => .bool true)] = some (.bl ((dif R).all fun _ => true)) from all_b (fun _ => true) _, show ((dif R).all fun _ => true) = true from List.all_eq_true.mpr fun _ _ => rfl]
  walk_at "ev"
  rw [de]
  obtain ⟨ρ', w', e, hw, s3, hr⟩ := for_inv (body := fB (run (n + 3)) f_row_of_s2) (t := .one 3) (fun k : Nat => .int (win R 1 k))
    (fun done ρ w1 => w1 = w ∧ ∃ s3, ρ = [.val (.int (R.getD 0 0)), .val (rD (dif R)), .own ((R.take (done.length + 1)).map PyData.int), s3])
    (List.range (R.length - 1)) [] [.val (.int (R.getD 0 0)), .val (rD (dif R)), .own [.int (R.getD 0 0)], .un] w
    ⟨rfl, .un, by
      rw [show ([] : List Nat).length + 1 = 0 + 1 from rfl, take_get R 0 (by omega)]
      simp [at_row R 0 (by omega)]
      rw [List.getElem?_eq_getElem (by omega)]
      rfl⟩
    (fun d a r ρ w1 hl ⟨hw, s3, hr⟩ => by
      subst hw hr
      obtain ⟨ha, _, han⟩ := range_split hl
      subst ha
      rw [List.nil_append]
      refine ⟨_, [.val (.int (R.getD 0 0)), .val (rD (dif R)), .own ((R.take (d.length + 2)).map PyData.int), .val (.int (win R 1 d.length))], w1, tg1 _ _ _, ?_, rfl, _, by rw [List.length_append, List.length_singleton]⟩
      unfold fB f_row_of_s2
      rw [take_get R d.length (by omega), List.map_append]
      walk_at "ev"
      rw [show L2.atI (List.map PyData.int (List.take d.length R) ++ List.map PyData.int [R[d.length]]) (-1) = some (.int R[d.length]) from atI_last _ _]
      walk_at "ev"
      rw [if_pos (sizeOk_le (by simp; omega))]
      walk_at "ev"
      rw [take_get R (d.length + 1) (by omega), take_get R d.length (by omega), List.map_append, List.map_append]
      rw [show R[d.length] + win R 1 d.length = R[d.length + 1] by
        unfold win
        rw [at_row R _ (by omega), at_row R _ (by omega)]
        omega]
      rfl)
  subst hw hr
  rw [e]
  rw [List.nil_append, List.length_range, show R.length - 1 + 1 = R.length by omega, List.take_length]
  walk_at "ev"
  rw [run_check_row n w' h]
  walk_at "ev"
/-! ### the first two windows -/
/-- a search that leaves with what it finds -/
theorem for_find {α : Type} {body : Ev.Env → W → Out} {t : MT} (g : α → PyData) (f : α → Option D) (I : Ev.Env → Prop) (w : W) : ∀ (l : List α) (ρ : Ev.Env), I ρ →
    (∀ a ∈ l, ∀ ρ, I ρ → ∃ ρ1, tgt ρ t (g a) = some ρ1 ∧ ((f a = none ∧ ∃ ρ2, body ρ1 w = .next ρ2 w ∧ I ρ2) ∨ ∃ d, f a = some d ∧ body ρ1 w = .ret d w)) →
    (l.findSome? f = none ∧ ∃ ρ', forGo body t (l.map g) ρ w = .next ρ' w ∧ I ρ') ∨ ∃ d, l.findSome? f = some d ∧ forGo body t (l.map g) ρ w = .ret d w
  | [], ρ, h, _ => .inl ⟨rfl, ρ, rfl, h⟩
  | a :: l, ρ, h, k => by
    obtain ⟨ρ1, h1, h2⟩ := k a List.mem_cons_self ρ h
    rw [List.map_cons, forGo, h1, List.findSome?_cons]
    dsimp only
    rcases h2 with ⟨h2, ρ2, h3, h4⟩ | ⟨d, h2, h3⟩
    · rw [h2, h3]
      dsimp only
      exact for_find g f I w l ρ2 h4 fun b hb => k b (List.mem_cons_of_mem _ hb)
    · rw [h2, h3]
      exact .inr ⟨d, rfl, rfl⟩
def bad (R : List Int) (l i j : Nat) : Bool := decide (2 ≤ ((win R l i - win R l j).natAbs : Int))
def tr3 (l i j : Nat) : PyData := .tuple [.int (l : Int), .int (i : Int), .int (j : Int)]
def fJ (R : List Int) (l i : Nat) : Option D := (List.range (R.length - l - (i + 1))).findSome? fun k => if bad R l i (i + 1 + k) = true then some (.p (tr3 l i (i + 1 + k))) else none
def fI (R : List Int) (l : Nat) : Option D := (List.range (R.length - l)).findSome? fun i => fJ R l i
def fL (R : List Int) : Option D := (List.range (R.length - 1)).findSome? fun k => fI R (1 + k)
theorem wins_len (R : List Int) (l : Nat) : (wins R l).length = R.length - l := by unfold wins; rw [List.length_map, List.length_range]
theorem wins_get (R : List Int) (l k : Nat) (h : k < R.length - l) : (wins R l).getD k 0 = win R l k := by
  rw [at_row _ k (by rw [wins_len]; exact h)]
  unfold wins
  simp
theorem run_uneven (n : Nat) {R : List Int} (w : W) (h : RowOk R) : run (n + 4) .f_uneven [rD R] w = .ok ((fL R).getD .non) w := by
  have h1 := h.one
  have hm := h.most
  (rw [run_def _ _ Bf_uneven rfl, runD_eq Bf_uneven _ _ _ _ ⟨rfl, by decide⟩ rfl rfl]; unfold Bf_uneven; simp only [List.map_cons, List.map_nil, List.length_cons, List.length_nil, List.replicate, List.cons_append, List.nil_append, Nat.reduceAdd, Nat.reduceSub])
  walk_at "ev"
  rw [run_check_row n w h]
  walk_at "ev"
  rw [show ((R.map PyData.int).length : Int) = ((R.length : Nat) : Int) by rw [List.length_map], show rngD2 (.int 1) (.int (R.length : Int)) = some ((List.range (R.length - 1)).map fun k : Nat => .int ((1 + k : Nat) : Int)) by
    rw [rng2_b _ _ (by omega) (by omega), show ((R.length : Int) - 1).toNat = R.length - 1 by omega]
    simp]
  walk_at "ev"
  rcases for_find (body := fB (run (n + 3)) f_uneven_s4) (t := .one 1) (fun k : Nat => .int ((1 + k : Nat) : Int)) (fun k => fI R (1 + k)) (fun ρ => ∃ s1 s2 s3 s4 s5, ρ = [.val (rD R), s1, s2, s3, s4, s5]) w (List.range (R.length - 1)) [.val (rD R), .un, .un, .un, .un, .un] ⟨_, _, _, _, _, rfl⟩ (by
    rintro k hk ρ ⟨s1, s2, s3, s4, s5, rfl⟩
    have hk := List.mem_range.mp hk
    generalize hl : 1 + k = l
    refine ⟨_, tg1 _ _ _, ?_⟩
    have start : fB (run (n + 3)) f_uneven_s4 [.val (rD R), .val (.int (l : Int)), s2, s3, s4, s5] w = ((forGo (fB (run (n + 3)) f_uneven_s3) (.one 3) ((List.range (R.length - l)).map fun k : Nat => .int (k : Int)) [.val (rD R), .val (.int (l : Int)), .val (rD (wins R l)), s3, s4, s5] w).bind fun ρ w => .next ρ w) := by
      unfold fB f_uneven_s4
      walk_at "ev"
      rw [show ((R.map PyData.int).length : Int) - (l : Int) = ((R.length - l : Nat) : Int) by rw [List.length_map]; omega, rng1_n _ (by omega)]
      walk_at "ev"
      rw [if_pos (sizeOk_le (by rw [List.length_map, List.length_range]; omega)), comp_map (step := fC (run (n + 3)) f_uneven_s1) (w := w) (fun k : Nat => .int (k : Int)) (fun k => .int (win R l k)) _ (fun k hk => by
        have hk := List.mem_range.mp hk
        refine ⟨_, tg1 _ _ _, ?_⟩
        unfold fC f_uneven_s1
        walk_at "ev"
        rw [show ((k : Nat) : Int) + (l : Int) = ((k + l : Nat) : Int) by omega, ix_r R (k + l) (by omega)]
        walk_at "ev"
        rw [ix_r R k (by omega)]
        walk_at "ev")]
      walk_at "ev"
      rw [show D.lst ((List.range (R.length - l)).map fun k => PyData.int (win R l k)) = rD (wins R l) by unfold wins rD; rw [List.map_map]; rfl]
      rw [List.length_map, List.length_range, rng1_n _ (by omega)]
      walk_at "ev"
      rfl
    show (fI R l = none ∧ ∃ ρ2, fB (run (n + 3)) f_uneven_s4 [.val (rD R), .val (.int (l : Int)), s2, s3, s4, s5] w = .next ρ2 w ∧ _) ∨ ∃ d, fI R l = some d ∧ fB (run (n + 3)) f_uneven_s4 [.val (rD R), .val (.int (l : Int)), s2, s3, s4, s5] w = .ret d w
    rw [start]
    rcases for_find (body := fB (run (n + 3)) f_uneven_s3) (t := .one 3) (fun k : Nat => .int (k : Int)) (fun i => fJ R l i) (fun ρ => ∃ s3 s4 s5, ρ = [.val (rD R), .val (.int (l : Int)), .val (rD (wins R l)), s3, s4, s5]) w (List.range (R.length - l)) [.val (rD R), .val (.int (l : Int)), .val (rD (wins R l)), s3, s4, s5] ⟨_, _, _, rfl⟩ (by
      rintro i hi ρ ⟨s3, s4, s5, rfl⟩
      have hi := List.mem_range.mp hi
      refine ⟨_, tg1 _ _ _, ?_⟩
      have st2 : fB (run (n + 3)) f_uneven_s3 [.val (rD R), .val (.int (l : Int)), .val (rD (wins R l)), .val (.int (i : Int)), s4, s5] w = ((forGo (fB (run (n + 3)) f_uneven_s2) (.one 4) ((List.range (R.length - l - (i + 1))).map fun k : Nat => .int ((i + 1 + k : Nat) : Int)) [.val (rD R), .val (.int (l : Int)), .val (rD (wins R l)), .val (.int (i : Int)), s4, s5] w).bind fun ρ w => .next ρ w) := by
        unfold fB f_uneven_s3
        walk_at "ev"
        rw [List.length_map, wins_len, rng2_b _ _ (by omega) (by omega), show (((R.length - l : Nat) : Int) - ((i : Int) + 1)).toNat = R.length - l - (i + 1) by omega]
        walk_at "ev"
        rw [show (fun k : Nat => PyData.int ((i : Int) + 1 + (k : Int))) = fun k : Nat => PyData.int ((i + 1 + k : Nat) : Int) by funext k; congr 1]
        rfl
      show (fJ R l i = none ∧ ∃ ρ2, fB (run (n + 3)) f_uneven_s3 [.val (rD R), .val (.int (l : Int)), .val (rD (wins R l)), .val (.int (i : Int)), s4, s5] w = .next ρ2 w ∧ _) ∨ ∃ d, fJ R l i = some d ∧ fB (run (n + 3)) f_uneven_s3 [.val (rD R), .val (.int (l : Int)), .val (rD (wins R l)), .val (.int (i : Int)), s4, s5] w = .ret d w
      rw [st2]
      rcases for_find (body := fB (run (n + 3)) f_uneven_s2) (t := .one 4) (fun k : Nat => .int ((i + 1 + k : Nat) : Int)) (fun k => if bad R l i (i + 1 + k) = true then some (.p (tr3 l i (i + 1 + k))) else none) (fun ρ => ∃ s4 s5, ρ = [.val (rD R), .val (.int (l : Int)), .val (rD (wins R l)), .val (.int (i : Int)), s4, s5]) w (List.range (R.length - l - (i + 1))) [.val (rD R), .val (.int (l : Int)), .val (rD (wins R l)), .val (.int (i : Int)), s4, s5] ⟨_, _, rfl⟩ (by
        rintro k hk ρ ⟨s4, s5, rfl⟩
        have hk := List.mem_range.mp hk
        generalize hj : i + 1 + k = j
        refine ⟨_, tg1 _ _ _, ?_⟩
        have bd : fB (run (n + 3)) f_uneven_s2 [.val (rD R), .val (.int (l : Int)), .val (rD (wins R l)), .val (.int (i : Int)), .val (.int (j : Int)), s5] w = if bad R l i j = true then .ret (.p (tr3 l i j)) w else .next [.val (rD R), .val (.int (l : Int)), .val (rD (wins R l)), .val (.int (i : Int)), .val (.int (j : Int)), s5] w := by
          unfold fB f_uneven_s2
          walk_at "ev"
          rw [ix_r (wins R l) i (by rw [wins_len]; omega)]
          walk_at "ev"
          rw [ix_r (wins R l) j (by rw [wins_len]; omega), wins_get R l i (by omega), wins_get R l j (by omega)]
          walk_at "ev"
          unfold bad
          by_cases hb : 2 ≤ ((win R l i - win R l j).natAbs : Int)
          · rw [decide_eq_true hb]
            walk_at "ev"
            rfl
          · rw [decide_eq_false hb]
            walk_at "ev"
        show ((if bad R l i j = true then some (D.p (tr3 l i j)) else none) = none ∧ ∃ ρ2, fB (run (n + 3)) f_uneven_s2 [.val (rD R), .val (.int (l : Int)), .val (rD (wins R l)), .val (.int (i : Int)), .val (.int (j : Int)), s5] w = .next ρ2 w ∧ _) ∨ ∃ d, (if bad R l i j = true then some (D.p (tr3 l i j)) else none) = some d ∧ fB (run (n + 3)) f_uneven_s2 [.val (rD R), .val (.int (l : Int)), .val (rD (wins R l)), .val (.int (i : Int)), .val (.int (j : Int)), s5] w = .ret d w
        rw [bd]
        by_cases hb : bad R l i j = true
        · simp only [if_pos hb]
          exact .inr ⟨_, rfl, rfl⟩
        · simp only [if_neg hb]
          exact .inl ⟨trivial, _, rfl, _, _, rfl⟩) with ⟨e1, ρ', e2, s4, s5, rfl⟩ | ⟨d, e1, e2⟩
      · rw [e2]
        exact .inl ⟨e1, _, rfl, _, _, _, rfl⟩
      · rw [e2]
        exact .inr ⟨d, e1, rfl⟩) with ⟨e1, ρ', e2, s3, s4, s5, rfl⟩ | ⟨d, e1, e2⟩
    · rw [e2]
      exact .inl ⟨e1, _, rfl, _, _, _, _, _, rfl⟩
    · rw [e2]
      exact .inr ⟨d, e1, rfl⟩) with ⟨e1, ρ', e2, s1, s2, s3, s4, s5, rfl⟩ | ⟨d, e1, e2⟩
  · rw [e2]
    walk_at "ev"
    unfold fL
    rw [e1]
    rfl
  · rw [e2]
    walk_at "ev"
    unfold fL
    rw [e1]
    rfl
/-- a law's row -/
structure RowB (most : Nat) (R : List Int) : Prop where
  one : 1 ≤ R.length
  most : R.length ≤ most
  bnd : ∀ h ∈ R, -200 ≤ h ∧ h ≤ 200
theorem RowB.ok {m : Nat} {R : List Int} (h : RowB m R) (hm : m ≤ 20) : RowOk R := ⟨h.one, Nat.le_trans h.most hm, fun x hx => by have := h.bnd x hx; omega⟩
theorem ht_row {p q c : Int} (h : LnB p q c) (x : Nat) (hx : x ≤ 30) : -100 ≤ (p * x + c) / q ∧ (p * x + c) / q ≤ 100 := by
  have hp0 := h.p0; have hp1 := h.p1; have hq0 := h.q0; have hc0 := h.c0; have hc1 := h.c1
  have a1 := Int.mul_le_mul_of_nonneg_right hp1 (show (0 : Int) ≤ x by omega)
  have a2 := Int.mul_le_mul_of_nonneg_right hp0 (show (0 : Int) ≤ x by omega)
  have a3 : q * (x : Int) ≤ q * 30 := Int.mul_le_mul_of_nonneg_left (by omega) (Int.le_of_lt hq0)
  rw [Int.mul_assoc] at a1 a2
  constructor
  · rw [Int.le_ediv_iff_mul_le hq0]
    omega
  · have : (p * x + c) / q < 101 := by
      rw [Int.ediv_lt_iff_lt_mul hq0]
      omega
    omega
theorem run_law_row (n : Nat) (most : Nat) (w : W) (h : DrOk w) (hm : 1 ≤ most ∧ most ≤ 20) : ∃ (R : List Int) (w' : W), run (n + 4) .f_law_row [.drw, .int (most : Int)] w = .ok (rD R) w' ∧ RowB most R ∧ DrOk w' := by
  (rw [run_def _ _ Bf_law_row rfl, runD_eq Bf_law_row _ _ _ _ ⟨rfl, by decide⟩ rfl rfl]; unfold Bf_law_row; simp only [List.map_cons, List.map_nil, List.length_cons, List.length_nil, List.replicate, List.cons_append, List.nil_append, Nat.reduceAdd, Nat.reduceSub])
  walk_at "ev"
  obtain ⟨p, q, c, w1, e1, hL, d1⟩ := run_line n w h
  rw [e1]
  walk_at "ev"
  obtain ⟨u, w2, e2, ⟨u1, u2⟩, d2⟩ := run_draw (n + 2) (most : Int) w1 d1 ⟨by omega, by omega⟩
  rw [e2]
  walk_at "ev"
  rw [rngL_to (1 + u) ⟨by omega, by omega⟩]
  walk_at "ev"
  have hlen : (1 + u).toNat ≤ most ∧ 1 ≤ (1 + u).toNat := by omega
  generalize (1 + u).toNat = m at *
  rw [if_pos (sizeOk_le (by rw [List.length_map, List.length_range]; omega)), comp_map (step := fC (run (n + 3)) f_law_row_s1) (w := w2) (fun k : Nat => .int (k : Int)) (fun k => .int ((p * (k : Int) + c) / q)) (List.range m) (fun k hk => by
    have hk := List.mem_range.mp hk
    refine ⟨_, tg1 _ _ _, ?_⟩
    unfold fC f_law_row_s1
    walk_at "ev"
    rw [run_height (n + 2) p q c k w2 hL (by omega)]
    walk_at "ev")]
  walk_at "ev"
  obtain ⟨R0, hR0, len0, base⟩ : ∃ R0 : List Int, ((List.range m).map fun k : Nat => PyData.int ((p * (k : Int) + c) / q)) = R0.map PyData.int ∧ R0.length = m ∧ ∀ x ∈ R0, -100 ≤ x ∧ x ≤ 100 :=
    ⟨(List.range m).map fun k : Nat => (p * (k : Int) + c) / q, by rw [List.map_map]; rfl, by simp, fun x hx => by
      obtain ⟨k, hk, rfl⟩ := List.mem_map.mp hx
      exact ht_row hL k (by have := List.mem_range.mp hk; omega)⟩
  rw [hR0]
  obtain ⟨t, w4, e4, ⟨t1, t2⟩, d4⟩ := run_draw (n + 2) 3 w2 d2 ⟨by decide, by decide⟩
  rw [e4]
  walk_at "ev"
  rw [rngL_to t ⟨t1, by omega⟩]
  walk_at "ev"
  obtain ⟨ρ', w', e, d', R, s4, s5, s6, hr, h1, h2⟩ := for_inv (body := fB (run (n + 3)) f_law_row_s2) (t := .one 4) (fun k : Nat => .int ((k : Nat) : Int))
    (fun done ρ w => DrOk w ∧ ∃ (R : List Int) (s4 s5 s6 : Slot), ρ = [.val .drw, .val (.int (most : Int)), .val (.tup [.int p, .int q, .int c]), .own (R.map PyData.int), s4, s5, s6] ∧ R.length = m ∧ (∀ x ∈ R, -100 - (done.length : Int) ≤ x ∧ x ≤ 100 + (done.length : Int)))
    (List.range t.toNat) [] [.val .drw, .val (.int (most : Int)), .val (.tup [.int p, .int q, .int c]), .own (R0.map PyData.int), .un, .un, .un] w4 ⟨d4, R0, .un, .un, .un, rfl, len0, fun x hx => by have := base x hx; simp only [List.length_nil]; omega⟩
    (fun d a r ρ w hl ⟨dw, R, s4, s5, s6, hr, h1, h2⟩ => by
      subst hr
      obtain ⟨v, w5, e5, ⟨v1, v2⟩, d5⟩ := run_draw (n + 2) ((R.map PyData.int).length : Int) w dw ⟨by rw [List.length_map]; omega, by rw [List.length_map]; omega⟩
      rw [List.length_map] at v2
      obtain ⟨j, rfl⟩ : ∃ j : Nat, v = j := ⟨v.toNat, by omega⟩
      have hj : j < R.length := by omega
      obtain ⟨x, w6, e6, hx, d6⟩ := run_pick (n + 1) [.int (0 - 1), .int 1, .int 0, .int 0] w5 d5 (by simp) (by simp)
      obtain ⟨z, rfl, z1, z2⟩ : ∃ z : Int, x = .int z ∧ -1 ≤ z ∧ z ≤ 1 := by
        simp only [List.mem_cons, List.not_mem_nil, or_false] at hx
        rcases hx with rfl | rfl | rfl | rfl
        · exact ⟨_, rfl, by decide, by decide⟩
        · exact ⟨_, rfl, by decide, by decide⟩
        · exact ⟨_, rfl, by decide, by decide⟩
        · exact ⟨_, rfl, by decide, by decide⟩
      have hat : L2.atI (R.map PyData.int) (j : Int) = some (.int R[j]) := by
        rw [atI_nat _ _ (by rw [List.length_map]; exact hj)]
        simp
      have hixn : L2.ixN (R.map PyData.int).length (j : Int) = some j := by
        unfold L2.ixN
        rw [if_pos (by omega), if_pos (by rw [List.length_map]; omega)]
        simp
      refine ⟨_, [.val .drw, .val (.int (most : Int)), .val (.tup [.int p, .int q, .int c]), .own ((R.set j (R[j] + z)).map PyData.int), .val (.int (a : Int)), .val (.int (j : Int)), s6], w6, tg1 _ _ _, ?_, d6, _, _, _, _, rfl, by rw [List.length_set]; exact h1, ?_⟩
      · unfold fB f_law_row_s2
        walk_at "ev"
        rw [e5]
        walk_at "ev"
        rw [hat]
        walk_at "ev"
        rw [e6]
        walk_at "ev"
        rw [hixn]
        walk_at "ev"
        rw [List.map_set]
      · intro y hy
        rw [List.nil_append] at h2 ⊢
        rw [List.length_append]
        rcases List.mem_or_eq_of_mem_set hy with hy | rfl
        · have := h2 y hy
          simp only [List.length_cons, List.length_nil]
          omega
        · have := h2 R[j] (List.getElem_mem hj)
          simp only [List.length_cons, List.length_nil]
          omega)
  subst hr
  rw [List.nil_append, List.length_range] at h2
  refine ⟨R, w', ?_, ⟨by omega, by omega, fun x hx => by have := h2 x hx; omega⟩, d'⟩
  rw [e]
  walk_at "ev"
end Px

end

section
/-! Frac: the fraction of the least denominator between two. -/
namespace Px
/-- x / y lies between a / b and c / d -/
def Bt (a b c d x y : Int) : Prop := a * y < x * b ∧ x * d < c * y
theorem mlt {a b c : Int} (h : a < b) (hc : 0 < c) : a * c < b * c := Int.mul_lt_mul_of_pos_right h hc
theorem mle {a b c : Int} (h : a ≤ b) (hc : 0 ≤ c) : a * c ≤ b * c := Int.mul_le_mul_of_nonneg_right h hc
theorem ltm {a b c : Int} (hc : 0 < c) (h : a * c < b * c) : a < b := Int.lt_of_mul_lt_mul_right h (Int.le_of_lt hc)
theorem fl {a b : Int} (hb : 0 < b) : a / b * b ≤ a ∧ a < (a / b + 1) * b := by
  have h1 := Int.emod_add_mul_ediv a b
  have h2 := Int.emod_nonneg a (show b ≠ 0 by omega)
  have h3 := Int.emod_lt_of_pos a hb
  constructor <;> grind
structure Simp (a b c d x y : Int) : Prop where
  pos : 0 < y
  bt : Bt a b c d x y
  min : ∀ x' y', 0 < y' → Bt a b c d x' y' → y ≤ y'
  num : ∀ x', Bt a b c d x' y → x.natAbs ≤ x'.natAbs
/-- only one fraction of the least denominator, where there is no whole number -/
theorem simp_uniq {a b c d x y : Int} (hb : 0 < b) (hd : 0 < d) (hy : 0 < y) (h : Bt a b c d x y) (hm : ∀ x' y', 0 < y' → Bt a b c d x' y' → y ≤ y') (h1 : y ≠ 1) {x' : Int} (h' : Bt a b c d x' y) : x' = x := by
  have key : ∀ u v : Int, Bt a b c d u y → Bt a b c d v y → u < v → False := by
    intro u v hu hv huv
    -- u + 1 lies between too
    have hq := fl (a := u) hy
    generalize u / y = q at hq
    by_cases hr : u = q * y
    · -- q is a whole number between
      subst hr
      have : y ≤ 1 := hm q 1 (by omega) ⟨by
          have := hu.1
          have h2 : a * 1 * y < q * b * y := by grind
          exact ltm hy h2, by
          have := hu.2
          have h2 : q * d * y < c * 1 * y := by grind
          exact ltm hy h2⟩
      omega
    · by_cases hr2 : u + 1 = (q + 1) * y
      · have eu : u = (q + 1) * y - 1 := by omega
        subst eu
        have : y ≤ 1 := hm (q + 1) 1 (by omega) ⟨by
            have := hu.1
            have h2 : a * 1 * y < (q + 1) * b * y := by grind
            exact ltm hy h2, by
            have := hv.2
            have h3 : ((q + 1) * y - 1 + 1) * d ≤ v * d := mle (by omega) (by omega)
            have h2 : (q + 1) * d * y < c * 1 * y := by grind
            exact ltm hy h2⟩
        omega
      · have hy1 : 0 < y - 1 := by omega
        have : y ≤ y - 1 := hm (u - q) (y - 1) hy1 ⟨by
            have h0 := hu.1
            have h2 := mlt h0 hy1
            have h3 : u * (y - 1) ≤ (u - q) * y := by grind
            have h4 := mle h3 (Int.le_of_lt hb)
            have h5 : a * (y - 1) * y < (u - q) * b * y := by grind
            exact ltm hy h5, by
            have h0 := hv.2
            have h1 : (u + 1) * d ≤ v * d := mle (by omega) (by omega)
            have h2 := mlt (show (u + 1) * d < c * y by omega) hy1
            have h3 : (u - q) * y ≤ (u + 1) * (y - 1) := by grind
            have h4 := mle h3 (Int.le_of_lt hd)
            have h5 : (u - q) * d * y < c * (y - 1) * y := by grind
            exact ltm hy h5⟩
        omega
  rcases Int.lt_trichotomy x' x with z | z | z
  · exact (key _ _ h' h z).elim
  · exact z
  · exact (key _ _ h h' z).elim
theorem simp_same {a b c d x y x' y' : Int} (hb : 0 < b) (hd : 0 < d) (s : Simp a b c d x y) (t : Simp a b c d x' y') : x = x' ∧ y = y' := by
  have e : y = y' := by
    have := s.min x' y' t.pos t.bt
    have := t.min x y s.pos s.bt
    omega
  subst e
  refine ⟨?_, rfl⟩
  by_cases h1 : y = 1
  · subst h1
    have h2 := s.num x' t.bt
    have h3 := t.num x s.bt
    rcases (show x = x' ∨ x = -x' by omega) with z | z
    · exact z
    · -- then 0 lies between: both are 0
      have p : Bt a b c d 0 1 := by
        obtain ⟨p1, p2⟩ := s.bt
        obtain ⟨q1, q2⟩ := t.bt
        subst z
        refine ⟨?_, ?_⟩ <;> grind
      have := s.num 0 p
      omega
  · exact (simp_uniq hb hd s.pos s.bt s.min h1 t.bt).symm
/-- the mirrored one -/
theorem simp_neg {a b c d x y : Int} (s : Simp a b c d x y) : Simp (-c) d (-a) b (-x) y := by
  have flip : ∀ u v, Bt (-c) d (-a) b u v → Bt a b c d (-u) v := fun u v h => ⟨by have := h.2; grind, by have := h.1; grind⟩
  refine ⟨s.pos, ⟨by have := s.bt.2; grind, by have := s.bt.1; grind⟩, fun u v hv h => s.min (-u) v hv (flip u v h), fun u h => ?_⟩
  have := s.num (-u) (flip u y h)
  omega
/-- .. and of the least numerator: for fractions that are not below 0 -/
structure SimpP (a b c d x y : Int) : Prop where
  pos : 0 < y
  bt : Bt a b c d x y
  min : ∀ x' y', 0 < y' → Bt a b c d x' y' → y ≤ y'
  minN : ∀ x' y', 0 < y' → Bt a b c d x' y' → x ≤ x'
  gcd : Int.gcd x y = 1
theorem SimpP.num0 {a b c d x y : Int} (s : SimpP a b c d x y) (ha : 0 ≤ a) (hb : 0 < b) : 0 < x := by
  have h1 := s.bt.1
  have h2 : 0 ≤ a * y := Int.mul_nonneg ha (Int.le_of_lt s.pos)
  have h3 : 0 * b < x * b := by omega
  exact ltm hb h3
theorem SimpP.simp {a b c d x y : Int} (s : SimpP a b c d x y) (ha : 0 ≤ a) (hb : 0 < b) : Simp a b c d x y :=
  ⟨s.pos, s.bt, s.min, fun x' h => by
    have := s.minN x' y s.pos h
    have := s.num0 ha hb
    omega⟩
theorem whole_P {a b c d : Int} (hb : 0 < b) (hd : 0 < d) (ha : 0 ≤ a) (h : (a / b + 1) * d < c) : SimpP a b c d (a / b + 1) 1 := by
  obtain ⟨f1, f2⟩ := fl (a := a) hb
  have f0 : 0 ≤ a / b := Int.ediv_nonneg ha (Int.le_of_lt hb)
  generalize a / b = f at *
  refine ⟨by omega, ⟨by omega, by omega⟩, fun _ _ h _ => by omega, fun x' y' hy h => ?_, by simp [Int.gcd]⟩
  have h1 := h.1
  have h2 := mle f1 (Int.le_of_lt hy)
  have h3 : f * y' * b < x' * b := by grind
  have h4 := ltm hb h3
  have h5 := Int.mul_le_mul_of_nonneg_left (show 1 ≤ y' by omega) f0
  omega
theorem whole_0 {a b c d : Int} (h1 : a < 0) (h2 : 0 < c) : Simp a b c d 0 1 :=
  ⟨by omega, ⟨by omega, by omega⟩, fun _ _ h _ => by omega, fun _ _ => by omega⟩
theorem whole_N {a b c d : Int} (hb : 0 < b) (hd : 0 < d) (hc : c ≤ 0) (h : (a / b + 1) * d < c) : Simp a b c d (-(-c / d) - 1) 1 := by
  have := whole_P (a := -c) (b := d) (c := -a) (d := b) hd hb (by omega) (by
    obtain ⟨f1, f2⟩ := fl (a := a) hb
    obtain ⟨g1, g2⟩ := fl (a := -c) hd
    generalize a / b = f at *
    generalize -c / d = g at *
    -- g + 1 ≤ - (f + 1)
    have h3 : (f + 1) * d < (-g) * d := by grind
    have h4 := ltm hd h3
    have h5 : (g + 1) * b ≤ (-(f + 1)) * b := mle (by omega) (by omega)
    have h6 : -((f + 1) * b) < -a := by omega
    grind)
  have := simp_neg (this.simp (by omega) hd)
  simpa [Int.neg_add, Int.sub_eq_add_neg] using this

theorem simp_of {a b c d x y f : Int} (hb : 0 < b) (hd : 0 < d) (hy : 0 < y) (h : Bt a b c d x y) (hm : ∀ x' y', 0 < y' → Bt a b c d x' y' → y ≤ y') (hf : f * b ≤ a) (hc : c ≤ (f + 1) * d) : Simp a b c d x y := by
  have h1 : y ≠ 1 := by
    intro e
    subst e
    have h1 : f * b < x * b := by have := h.1; omega
    have h2 : x * d < (f + 1) * d := by have := h.2; omega
    have := ltm hb h1
    have := ltm hd h2
    omega
  exact ⟨hy, h, hm, fun x' h' => by rw [simp_uniq hb hd hy h hm h1 h']; exact Nat.le_refl _⟩
/-- what lies between, less the whole -/
theorem bt_shift {a b c d x y f : Int} : Bt a b c d x y ↔ Bt (a - f * b) b (c - f * d) d (x - f * y) y := by
  unfold Bt
  constructor <;> rintro ⟨h1, h2⟩ <;> constructor <;> grind
theorem gcd_step (f u v : Int) : Int.gcd (f * u + v) u = Int.gcd u v := by
  rw [Int.gcd_comm (f * u + v) u, Int.mul_comm, Int.add_comm]
  exact Int.gcd_add_mul_left_right ..
theorem rest0_P {b c d f : Int} (hb : 0 < b) (hd : 0 < d) (h : 0 < c - f * d) : let s := d / (c - f * d) + 1
    0 < s ∧ Bt (f * b) b c d (f * s + 1) s ∧ (∀ x' y', 0 < y' → Bt (f * b) b c d x' y' → s ≤ y') ∧ (0 ≤ f → ∀ x' y', 0 < y' → Bt (f * b) b c d x' y' → f * s + 1 ≤ x') ∧ Int.gcd (f * s + 1) s = 1 := by
  intro s
  obtain ⟨f1, f2⟩ := fl (a := d) h
  have f0 : 0 ≤ d / (c - f * d) := Int.ediv_nonneg (by omega) (by omega)
  have hs : s = d / (c - f * d) + 1 := rfl
  clear_value s
  rw [← hs] at f2
  have m0 : ∀ x' y', 0 < y' → Bt (f * b) b c d x' y' → s ≤ y' ∧ 1 ≤ x' - f * y' := by
    intro x' y' hy h'
    have h2 := (bt_shift (f := f)).mp h'
    unfold Bt at h2
    have h3 : 0 * b < (x' - f * y') * b := by have := h2.1; grind
    have h4 := ltm hb h3
    have h5 : 1 * d ≤ (x' - f * y') * d := mle (by omega) (by omega)
    have h6 : (s - 1) * (c - f * d) < y' * (c - f * d) := by
      have := h2.2
      rw [hs, show d / (c - f * d) + 1 - 1 = d / (c - f * d) by omega, Int.mul_comm y']
      omega
    have := ltm h h6
    omega
  refine ⟨by omega, ⟨by grind, by grind⟩, fun x' y' hy h' => (m0 x' y' hy h').1, fun hf x' y' hy h' => ?_, ?_⟩
  · obtain ⟨h1, h2⟩ := m0 x' y' hy h'
    have := Int.mul_le_mul_of_nonneg_left h1 hf
    omega
  · rw [gcd_step]
    simp
theorem turn_P {a b c d f u v : Int} (hb : 0 < b) (hd : 0 < d) (ha : 0 < a - f * b) (hc : 0 < c - f * d) (s : SimpP d (c - f * d) b (a - f * b) u v) :
    0 < u ∧ Bt a b c d (f * u + v) u ∧ (∀ x' y', 0 < y' → Bt a b c d x' y' → u ≤ y') ∧ (0 ≤ f → ∀ x' y', 0 < y' → Bt a b c d x' y' → f * u + v ≤ x') ∧ Int.gcd (f * u + v) u = 1 := by
  have hu := s.num0 (by omega) hc
  have m0 : ∀ x' y', 0 < y' → Bt a b c d x' y' → u ≤ y' ∧ v ≤ x' - f * y' := by
    intro x' y' hy h'
    have h2 := (bt_shift (f := f)).mp h'
    unfold Bt at h2
    have h3 : 0 * b < (x' - f * y') * b := by have := h2.1; have := Int.mul_pos ha hy; omega
    have h4 := ltm hb h3
    have b2 : Bt d (c - f * d) b (a - f * b) y' (x' - f * y') := ⟨by have := h2.2; rw [Int.mul_comm d, Int.mul_comm y']; exact this, by have := h2.1; rw [Int.mul_comm y', Int.mul_comm b]; exact this⟩
    exact ⟨s.minN _ _ (by omega) b2, s.min _ _ (by omega) b2⟩
  refine ⟨hu, (bt_shift (f := f)).mpr ⟨?_, ?_⟩, fun x' y' hy h' => (m0 x' y' hy h').1, fun hf x' y' hy h' => ?_, ?_⟩
  · have := s.bt.2; grind
  · have := s.bt.1; grind
  · obtain ⟨h1, h2⟩ := m0 x' y' hy h'
    have := Int.mul_le_mul_of_nonneg_left h1 hf
    omega
  · rw [gcd_step]
    exact s.gcd
/-- the middle of two -/
theorem bt_mid {a b c d : Int} (h : a * d < c * b) : Bt a b c d (a + c) (b + d) := ⟨by grind, by grind⟩
end Px

end

section
/-! LibF: the simplest fraction. -/
namespace Px
open PySem Ev
local macro_rules | `(tactic| walk_at "ev") => `(tactic| simp -implicitDefEqProofs only [e_var, e_non, e_call0, e_mkS, e_meth, e_meth0, e_srow, e_noPast, e_lenS, e_neO, s_setRow, s_appPast, s_popPast, s_popO, s_par3O, e_sset, e_fmt, e_fstr, e_join, e_split, e_bl, e_int, e_str, e_gint, e_bin, e_neg, e_not, e_cmp, e_chain, e_and, e_or, e_and1, e_or1, e_ite, e_call, e_bcall, e_isi, e_ix, e_sl, e_tup, e_lst, e_comp, e_compIf, e_lenO, e_ixO, e_ninO, e_index, e_count, e_lenum, e_lrng, e_slS, es_nil, es_cons, i_seq, i_r1, i_r2, i_r3, i_enum, i_zip, o_non, o_some, s_set, s_setO, s_parO, s_par, s_unp, s_aug, s_extO, s_app, s_stO, s_ife, s_for, s_while, s_ret, s_retN, s_expr, s_raise, s_pass, b_nil, b_cons, b_frz, lt_i, le_i, gt_i, ge_i, add_i, sub_i, neg_i, not_b, isN_p, isnN_p, isB, isnB, ix_p0, ix_p1, isN_none, isN_pair, isN_int, isN_tup, isN_lst, tup_pair, typ, len_p, u0, u1, u2, pl_nil, pl_cons, seq_l, seq_t, len_l, len_t, list_l, list_t, abs_i, enum_l, sds0, sdsC, svs0, svsC, nx_s, plainR_ok, toB_b, set0, setS, no_nil, no_c, no_v, no_o, no_u, wp_nil, wp_cons, tg1, tgT, tyi, tyib, tyil, tyit, tytt, tytl, tyll, tylt, tybb, rok, rokO, rex, rexO, finN, finT, finX, onx, ort, oex, lifs, tstb, tstbP, gv0, gvS, go0, goS, sv0, svS, Nat.reduceAdd, Option.map_some, Option.bind_some, Bool.not_true, Bool.not_false, if_true, if_false, Bool.false_eq_true, ↓reduceIte, reduceCtorEq, List.length_cons, List.length_nil, Option.map_none, decide_true, decide_false, Bool.true_and, Bool.false_and])
theorem lowest_1 (n : Nat) (x y : Int) (w : W) (hy : 0 < y ∧ y < 1000000) (h : Int.gcd x y = 1) : run (n + 2) .f_lowest [.int x, .int y] w = .ok (.p (ofPair (x, y))) w := by
  rw [run_lowest n x y w hy, h]
  simp
theorem simp_step (n : Nat) (a b c d : Int) (w : W) (hb : 0 < b) (hd : 0 < d) (hbd : b + d < 1000000) (ha : -(2 ^ 60) < a ∧ a < 2 ^ 60) (hc : -(2 ^ 60) < c ∧ c < 2 ^ 60) (hlt : a * d < c * b)
    (ih : 0 < a - a / b * b → c ≤ (a / b + 1) * d → 0 < c - a / b * d → ∃ u v, run (n + 2) .f_simplest_in [.p (ofPair (d, c - a / b * d)), .p (ofPair (b, a - a / b * b))] w = .ok (.p (ofPair (u, v))) w ∧ SimpP d (c - a / b * d) b (a - a / b * b) u v) :
    ∃ x y, run (n + 3) .f_simplest_in [.p (ofPair (a, b)), .p (ofPair (c, d))] w = .ok (.p (ofPair (x, y))) w ∧ Simp a b c d x y ∧ Int.gcd x y = 1 ∧ (0 ≤ a → SimpP a b c d x y) := by
  obtain ⟨f1, f2⟩ := fl (a := a) hb
  have mid := bt_mid hlt
  have fb : -(2 ^ 60) ≤ a / b ∧ a / b < 2 ^ 60 := by
    constructor
    · rw [Int.le_ediv_iff_mul_le hb]
      have : (2 ^ 60 : Int) * 1 ≤ 2 ^ 60 * b := Int.mul_le_mul_of_nonneg_left (by omega) (by decide)
      omega
    · rw [Int.ediv_lt_iff_lt_mul hb]
      have : (2 ^ 60 : Int) * 1 ≤ 2 ^ 60 * b := Int.mul_le_mul_of_nonneg_left (by omega) (by decide)
      omega
  by_cases hw : (a / b + 1) * d < c
  · have r0 : ∀ x y, (if a < 0 then (if 0 < c then (0, 1) else (-(-c / d) - 1, 1)) else (a / b + 1, 1) : Int × Int) = (x, y) → run (n + 3) .f_simplest_in [.p (ofPair (a, b)), .p (ofPair (c, d))] w = .ok (.p (ofPair (x, y))) w := by
      intro x y e
      (rw [run_def _ _ Bf_simplest_in rfl, runD_eq Bf_simplest_in _ _ _ _ ⟨rfl, by decide⟩ rfl rfl]; unfold Bf_simplest_in; simp only [List.map_cons, List.map_nil, List.length_cons, List.length_nil, List.replicate, List.cons_append, List.nil_append, Nat.reduceAdd, Nat.reduceSub])
      walk_at "ev"
      rw [fdiv_i ⟨hb, by omega⟩]
      walk_at "ev"
      rw [mul_j (by omega)]
      walk_at "ev"
      rw [decide_eq_true hw]
      walk_at "ev"
      by_cases h1 : a < 0
      · rw [if_pos h1] at e
        rw [decide_eq_true h1]
        walk_at "ev"
        by_cases h2 : 0 < c
        · rw [if_pos h2] at e
          cases e
          rw [decide_eq_true h2]
          walk_at "ev"
        · rw [if_neg h2] at e
          cases e
          rw [decide_eq_false h2]
          walk_at "ev"
          rw [fdiv_i ⟨hd, by omega⟩]
          walk_at "ev"
          rw [decide_eq_false (by omega)]
          walk_at "ev"
      · rw [if_neg h1] at e
        cases e
        rw [decide_eq_false h1]
        walk_at "ev"
        rw [fdiv_i ⟨hd, by omega⟩]
        walk_at "ev"
        rw [decide_eq_true (by omega)]
        walk_at "ev"
    by_cases h1 : a < 0
    · by_cases h2 : 0 < c
      · exact ⟨0, 1, r0 _ _ (by rw [if_pos h1, if_pos h2]), whole_0 h1 h2, by simp, fun z => by omega⟩
      · exact ⟨_, 1, r0 _ _ (by rw [if_pos h1, if_neg h2]), whole_N hb hd (by omega) hw, by simp, fun z => by omega⟩
    · have s := whole_P hb hd (by omega) hw
      exact ⟨_, 1, r0 _ _ (by rw [if_neg h1]), s.simp (by omega) hb, by simp, fun _ => s⟩
  · have hc0 : 0 < c - a / b * d := by
      have h1 : a / b * d * b ≤ a * d := by
        have := mle f1 (Int.le_of_lt hd)
        grind
      have h2 : a / b * d * b < c * b := by omega
      have := ltm hb h2
      omega
    have hcd : c - a / b * d ≤ d := by
      have : (a / b + 1) * d = a / b * d + d := by grind
      omega
    have r0 : ∀ x y, (a - a / b * b = 0 → x = a / b * (d / (c - a / b * d) + 1) + 1 ∧ y = d / (c - a / b * d) + 1) →
        (a - a / b * b ≠ 0 → ∃ u v, run (n + 2) .f_simplest_in [.p (ofPair (d, c - a / b * d)), .p (ofPair (b, a - a / b * b))] w = .ok (.p (ofPair (u, v))) w ∧ x = a / b * u + v ∧ y = u) → 0 < y → y < 1000000 → Int.gcd x y = 1 →
        run (n + 3) .f_simplest_in [.p (ofPair (a, b)), .p (ofPair (c, d))] w = .ok (.p (ofPair (x, y))) w := by
      intro x y e1 e2 hy hy2 hg
      (rw [run_def _ _ Bf_simplest_in rfl, runD_eq Bf_simplest_in _ _ _ _ ⟨rfl, by decide⟩ rfl rfl]; unfold Bf_simplest_in; simp only [List.map_cons, List.map_nil, List.length_cons, List.length_nil, List.replicate, List.cons_append, List.nil_append, Nat.reduceAdd, Nat.reduceSub])
      walk_at "ev"
      rw [fdiv_i ⟨hb, by omega⟩]
      walk_at "ev"
      rw [mul_j (by omega)]
      walk_at "ev"
      rw [decide_eq_false hw]
      walk_at "ev"
      rw [show a / b + 1 - 1 = a / b by omega]
      rw [mul_j (by omega)]
      walk_at "ev"
      rw [mul_j (by omega)]
      walk_at "ev"
      rw [eq_i]
      walk_at "ev"
      by_cases h0 : a - a / b * b = 0
      · obtain ⟨rfl, rfl⟩ := e1 h0
        rw [decide_eq_true h0]
        walk_at "ev"
        rw [fdiv_i ⟨hc0, by omega⟩]
        walk_at "ev"
        rw [mul_j (by omega)]
        walk_at "ev"
        rw [lowest_1 n _ _ w ⟨hy, hy2⟩ hg]
        walk_at "ev"
      · obtain ⟨u, v, e3, rfl, rfl⟩ := e2 h0
        rw [decide_eq_false h0]
        walk_at "ev"
        rw [e3]
        walk_at "ev"
        rw [mul_j (by omega)]
        walk_at "ev"
        rw [lowest_1 n _ _ w ⟨hy, hy2⟩ hg]
        walk_at "ev"
    by_cases h0 : a - a / b * b = 0
    · have ea : a = a / b * b := by omega
      obtain ⟨p1, p2, p3, p4, p5⟩ := rest0_P (f := a / b) hb hd hc0
      rw [← ea] at p2 p3 p4
      have hy := p3 _ _ (by omega) mid
      refine ⟨_, _, r0 _ _ (fun _ => ⟨rfl, rfl⟩) (fun z => absurd h0 z) p1 (by omega) p5, simp_of hb hd p1 p2 p3 f1 (by omega), p5, fun h => ⟨p1, p2, p3, p4 (Int.ediv_nonneg h (by omega)), p5⟩⟩
    · obtain ⟨u, v, e, s⟩ := ih (by omega) (by omega) hc0
      obtain ⟨p1, p2, p3, p4, p5⟩ := turn_P hb hd (by omega) hc0 s
      have hy := p3 _ _ (by omega) mid
      refine ⟨_, _, r0 _ _ (fun z => absurd z h0) (fun _ => ⟨u, v, e, rfl, rfl⟩) p1 (by omega) p5, simp_of hb hd p1 p2 p3 f1 (by omega), p5, fun h => ⟨p1, p2, p3, p4 (Int.ediv_nonneg h (by omega)), p5⟩⟩
theorem mod_half {d c : Int} (hc : 0 < c) (h : c ≤ d) : 2 * (d % c) < d := by
  have h1 := Int.emod_lt_of_pos d hc
  have h2 : d % c ≤ d - c := by
    have e := Int.emod_add_mul_ediv d c
    have : 1 ≤ d / c := by
      rw [Int.le_ediv_iff_mul_le hc]
      omega
    have : c * 1 ≤ c * (d / c) := Int.mul_le_mul_of_nonneg_left this (by omega)
    omega
  omega
theorem sub_mod (a b : Int) : a - a / b * b = a % b := by
  have := Int.emod_add_mul_ediv a b
  grind
def SimpA (w : W) (j : Nat) : Prop := ∀ (n : Nat) (a b c d : Int), 0 < b → 0 < d → b + d < 1000000 → (-(2 ^ 60) < a ∧ a < 2 ^ 60) → (-(2 ^ 60) < c ∧ c < 2 ^ 60) → a * d < c * b → d < 2 ^ j → ∃ x y, run (n + 2 * j + 2) .f_simplest_in [.p (ofPair (a, b)), .p (ofPair (c, d))] w = .ok (.p (ofPair (x, y))) w ∧ Simp a b c d x y ∧ Int.gcd x y = 1 ∧ (0 ≤ a → SimpP a b c d x y)
def SimpB (w : W) (j : Nat) : Prop := ∀ (n : Nat) (a b c d : Int), 0 < b → 0 < d → b + d < 1000000 → (-(2 ^ 60) < a ∧ a < 2 ^ 60) → (-(2 ^ 60) < c ∧ c < 2 ^ 60) → a * d < c * b → a % b < 2 ^ j → ∃ x y, run (n + 2 * j + 3) .f_simplest_in [.p (ofPair (a, b)), .p (ofPair (c, d))] w = .ok (.p (ofPair (x, y))) w ∧ Simp a b c d x y ∧ Int.gcd x y = 1 ∧ (0 ≤ a → SimpP a b c d x y)
theorem turn_ok {a b c d : Int} (hb : 0 < b) (hd : 0 < d) (hlt : a * d < c * b) (h2 : c ≤ (a / b + 1) * d) : c - a / b * d ≤ d ∧ a - a / b * b < b ∧ d * (a - a / b * b) < b * (c - a / b * d) := by
  obtain ⟨f1, f2⟩ := fl (a := a) hb
  refine ⟨?_, ?_, ?_⟩
  · have : (a / b + 1) * d = a / b * d + d := by grind
    omega
  · have : (a / b + 1) * b = a / b * b + b := by grind
    omega
  · have : a / b * b * d = a / b * d * b := by grind
    grind
theorem simp_B {w : W} {j : Nat} (A : SimpA w j) : SimpB w j := by
  intro n a b c d hb hd hbd ha hc hlt hm
  refine simp_step (n + 2 * j) a b c d w hb hd hbd ha hc hlt fun h1 h2 h3 => ?_
  obtain ⟨h4, h5, h6⟩ := turn_ok hb hd hlt h2
  obtain ⟨u, v, e, _, _, s⟩ := A n d (c - a / b * d) b (a - a / b * b) h3 h1 (by omega) (by omega) (by omega) h6 (by rw [sub_mod]; exact hm)
  exact ⟨u, v, e, s (by omega)⟩
theorem simp_A {w : W} {j : Nat} (B : SimpB w j) : SimpA w (j + 1) := by
  intro n a b c d hb hd hbd ha hc hlt hm
  refine simp_step (n + 2 * j + 1) a b c d w hb hd hbd ha hc hlt fun h1 h2 h3 => ?_
  obtain ⟨h4, h5, h6⟩ := turn_ok hb hd hlt h2
  have h7 := mod_half h3 h4
  have h8 : (2 : Int) ^ (j + 1) = 2 * 2 ^ j := by rw [Int.pow_succ, Int.mul_comm]
  obtain ⟨u, v, e, _, _, s⟩ := B n d (c - a / b * d) b (a - a / b * b) h3 h1 (by omega) (by omega) (by omega) h6 (by omega)
  exact ⟨u, v, e, s (by omega)⟩
theorem simp_all (w : W) : ∀ j : Nat, SimpA w j
  | 0 => fun n a b c d _ _ _ _ _ _ h => by omega
  | j + 1 => simp_A (simp_B (simp_all w j))
/-- denominators below 4096 -/
theorem run_simplest_in (n : Nat) (a b c d : Int) (w : W) (hb : 0 < b ∧ b < 100000) (hd : 0 < d ∧ d < 4096) (ha : -(2 ^ 60) < a ∧ a < 2 ^ 60) (hc : -(2 ^ 60) < c ∧ c < 2 ^ 60) (hlt : a * d < c * b) :
    ∃ x y, run (n + 26) .f_simplest_in [.p (ofPair (a, b)), .p (ofPair (c, d))] w = .ok (.p (ofPair (x, y))) w ∧ Simp a b c d x y ∧ Int.gcd x y = 1 := by
  obtain ⟨x, y, h1, h2, h3, _⟩ := simp_all w 12 n a b c d hb.1 hd.1 (by omega) ha hc hlt (by omega)
  exact ⟨x, y, h1, h2, h3⟩
theorem low_gen (n d : Int) (hd : 0 < d) : ∃ x y : Int, n / (Int.gcd n d : Int) = x ∧ d / (Int.gcd n d : Int) = y ∧ 0 < y ∧ y ≤ d ∧ x.natAbs ≤ n.natAbs ∧ x * d = n * y ∧ Int.gcd x y = 1 := by
  have h0 : 0 < Int.gcd n d := Int.gcd_pos_of_ne_zero_right _ (by omega)
  obtain ⟨x, hx⟩ := Int.gcd_dvd_left n d
  obtain ⟨y, hy⟩ := Int.gcd_dvd_right n d
  have hg : Int.gcd x y = 1 := by
    have e : Int.gcd n d = Int.gcd n d * Int.gcd x y := by
      have := Int.gcd_mul_left (Int.gcd n d : Int) x y
      rw [← hx, ← hy, Int.natAbs_natCast] at this
      exact this
    exact Nat.eq_of_mul_eq_mul_left h0 (by omega)
  generalize Int.gcd n d = g at *
  have hg0 : (0 : Int) < (g : Int) := by omega
  have e1 : n / (g : Int) = x := by rw [hx, Int.mul_ediv_cancel_left _ (by omega)]
  have e2 : d / (g : Int) = y := by rw [hy, Int.mul_ediv_cancel_left _ (by omega)]
  have y0 : 0 < y := by
    rcases Int.lt_or_le 0 y with h | h
    · exact h
    · have := Int.mul_nonpos_of_nonneg_of_nonpos (Int.le_of_lt hg0) h
      omega
  have g1 : (1 : Int) ≤ (g : Int) := by omega
  refine ⟨x, y, e1, e2, y0, ?_, ?_, ?_, hg⟩
  · have := Int.mul_le_mul_of_nonneg_right g1 (Int.le_of_lt y0)
    rw [Int.one_mul, ← hy] at this
    exact this
  · rw [hx, Int.natAbs_mul]
    exact Nat.le_mul_of_pos_left _ (by omega)
  · rw [hx, hy]
    grind
/-- equal fractions of lowest terms -/
theorem low_uniq {a b c d : Int} (hb : 0 < b) (hd : 0 < d) (g1 : Int.gcd a b = 1) (g2 : Int.gcd c d = 1) (h : a * d = c * b) : a = c ∧ b = d := by
  have hn : a.natAbs * d.natAbs = c.natAbs * b.natAbs := by rw [← Int.natAbs_mul, h, Int.natAbs_mul]
  have h1 : b ∣ d := by
    refine Int.natAbs_dvd_natAbs.mp (Nat.Coprime.dvd_of_dvd_mul_left (m := a.natAbs) ?_ ⟨c.natAbs, by rw [hn, Nat.mul_comm]⟩)
    show Nat.gcd _ _ = 1
    rw [Nat.gcd_comm]
    exact g1
  have h2 : d ∣ b := by
    refine Int.natAbs_dvd_natAbs.mp (Nat.Coprime.dvd_of_dvd_mul_left (m := c.natAbs) ?_ ⟨a.natAbs, by rw [← hn, Nat.mul_comm]⟩)
    show Nat.gcd _ _ = 1
    rw [Nat.gcd_comm]
    exact g2
  have e : b = d := Int.dvd_antisymm (by omega) (by omega) h1 h2
  subst e
  exact ⟨Int.eq_of_mul_eq_mul_right (by omega) h, rfl⟩
theorem run_is_fraction (n : Nat) (x y : Int) (w : W) (hx : -1000000000 ≤ x ∧ x ≤ 1000000000) (hy : 1 ≤ y ∧ y < 1000000) (hg : Int.gcd x y = 1) : run (n + 2) .f_is_fraction [.p (ofPair (x, y))] w = .ok (.bl true) w := by
  (rw [run_def _ _ Bf_is_fraction rfl, runD_eq Bf_is_fraction _ _ _ _ ⟨rfl, by decide⟩ rfl rfl]; unfold Bf_is_fraction; simp only [List.map_cons, List.map_nil, List.length_cons, List.length_nil, List.replicate, List.cons_append, List.nil_append, Nat.reduceAdd, Nat.reduceSub])
  walk_at "ev"
  rw [ne_i]
  walk_at "ev"
  rw [run_is_int]
  simp only [decide_eq_true hx.1, decide_eq_true hx.2, Bool.and_self, decide_true]
  walk_at "ev"
  rw [run_is_int]
  simp only [decide_eq_true hy.1, decide_eq_true (show y ≤ 1000000000 by omega), Bool.and_self]
  walk_at "ev"
  rw [run_common n x y w (by omega), hg]
  walk_at "ev"
  rw [eq_i]
  rfl
theorem run_check_fraction (n : Nat) (x y : Int) (w : W) (hx : -1000000000 ≤ x ∧ x ≤ 1000000000) (hy : 1 ≤ y ∧ y < 1000000) (hg : Int.gcd x y = 1) : run (n + 3) .f_check_fraction [.p (ofPair (x, y))] w = .ok .non w := by
  (rw [run_def _ _ Bf_check_fraction rfl, runD_eq Bf_check_fraction _ _ _ _ ⟨rfl, by decide⟩ rfl rfl]; unfold Bf_check_fraction; simp only [List.map_cons, List.map_nil, List.length_cons, List.length_nil, List.replicate, List.cons_append, List.nil_append, Nat.reduceAdd, Nat.reduceSub])
  walk_at "ev"
  rw [run_is_fraction n x y w hx hy hg]
  walk_at "ev"
theorem run_simplest (n : Nat) (a b c d : Int) (w : W) (hb : 0 < b ∧ b < 4096) (hd : 0 < d ∧ d < 4096) (ha : -1000000000 ≤ a ∧ a ≤ 1000000000) (hc : -1000000000 ≤ c ∧ c ≤ 1000000000) (g1 : Int.gcd a b = 1) (g2 : Int.gcd c d = 1) (hlt : a * d < c * b) :
    ∃ x y, run (n + 27) .f_simplest [.p (ofPair (a, b)), .p (ofPair (c, d))] w = .ok (.p (ofPair (x, y))) w ∧ Simp a b c d x y ∧ Int.gcd x y = 1 := by
  obtain ⟨x, y, h1, h2, h3⟩ := run_simplest_in n a b c d w ⟨hb.1, by omega⟩ hd (by omega) (by omega) hlt
  refine ⟨x, y, ?_, h2, h3⟩
  (rw [run_def _ _ Bf_simplest rfl, runD_eq Bf_simplest _ _ _ _ ⟨rfl, by decide⟩ rfl rfl]; unfold Bf_simplest; simp only [List.map_cons, List.map_nil, List.length_cons, List.length_nil, List.replicate, List.cons_append, List.nil_append, Nat.reduceAdd, Nat.reduceSub])
  walk_at "ev"
  rw [run_check_fraction (n + 23) a b w ha ⟨by omega, by omega⟩ g1]
  walk_at "ev"
  rw [run_check_fraction (n + 23) c d w hc ⟨by omega, by omega⟩ g2]
  walk_at "ev"
  rw [run_less (n + 25) (a, b) (c, d) w (by dsimp only; omega) (by dsimp only; omega)]
  walk_at "ev"
  rw [decide_eq_true hlt]
  walk_at "ev"
  rw [h1]
  walk_at "ev"
end Px

end

section
/-! Lib5: the law's own bounds. -/
namespace Px
open PySem Ev
local macro_rules | `(tactic| walk_at "ev") => `(tactic| simp -implicitDefEqProofs only [e_var, e_non, e_call0, e_mkS, e_meth, e_meth0, e_srow, e_noPast, e_lenS, e_neO, s_setRow, s_appPast, s_popPast, s_popO, s_par3O, e_sset, e_fmt, e_fstr, e_join, e_split, e_bl, e_int, e_str, e_gint, e_bin, e_neg, e_not, e_cmp, e_chain, e_and, e_or, e_and1, e_or1, e_ite, e_call, e_bcall, e_isi, e_ix, e_sl, e_tup, e_lst, e_comp, e_compIf, e_lenO, e_ixO, e_ninO, e_index, e_count, e_lenum, e_lrng, e_slS, es_nil, es_cons, i_seq, i_r1, i_r2, i_r3, i_enum, i_zip, o_non, o_some, s_set, s_setO, s_parO, s_par, s_unp, s_aug, s_extO, s_app, s_stO, s_ife, s_for, s_while, s_ret, s_retN, s_expr, s_raise, s_pass, b_nil, b_cons, b_frz, lt_i, le_i, gt_i, ge_i, add_i, sub_i, neg_i, not_b, isN_p, isnN_p, isB, isnB, ix_p0, ix_p1, isN_none, isN_pair, isN_int, isN_tup, isN_lst, tup_pair, typ, len_p, u0, u1, u2, pl_nil, pl_cons, seq_l, seq_t, len_l, len_t, list_l, list_t, abs_i, enum_l, sds0, sdsC, svs0, svsC, nx_s, plainR_ok, toB_b, set0, setS, no_nil, no_c, no_v, no_o, no_u, wp_nil, wp_cons, tg1, tgT, tyi, tyib, tyil, tyit, tytt, tytl, tyll, tylt, tybb, rok, rokO, rex, rexO, finN, finT, finX, onx, ort, oex, lifs, tstb, tstbP, gv0, gvS, go0, goS, sv0, svS, Nat.reduceAdd, Option.map_some, Option.bind_some, Bool.not_true, Bool.not_false, if_true, if_false, Bool.false_eq_true, ↓reduceIte, reduceCtorEq, List.length_cons, List.length_nil, Option.map_none, decide_true, decide_false, Bool.true_and, Bool.false_and])
/-- points that need not lie in order -/
structure PtsL (P : List Pt) : Prop where
  most : P.length ≤ 1000
  bnd : ∀ p ∈ P, (-1000 ≤ p.1 ∧ p.1 ≤ 1000) ∧ (-100000000 ≤ p.2 ∧ p.2 ≤ 100000000)
theorem Pts.l {P : List Pt} (h : Pts P) : PtsL P := ⟨by have := h.most; omega, fun p hp => by have := h.bnd p hp; omega⟩
theorem lb_in (n : Nat) {P : List Pt} (a : Pt) (A : List Pt) (ha : a ∈ P) (h : PtsL P) (w : W) (lo hi : PyData) (s5 s6 s7 s8 : Slot)
    (q1 : Mx (FLo A P) lo) (q2 : Mn (FHi A P) hi) :
    ∃ lo' hi' t5 t6 t7 t8, forGo (fB (run n) f_law_bounds_s1) (.one 4) (P.map ofPair) [.val (pD P), .val (.p (ofPair a)), .val (.p lo), .val (.p hi), s5, s6, s7, s8] w = .next [.val (pD P), .val (.p (ofPair a)), .val (.p lo'), .val (.p hi'), t5, t6, t7, t8] w ∧
      Mx (FLo (A ++ [a]) P) lo' ∧ Mn (FHi (A ++ [a]) P) hi' := by
  obtain ⟨ρ', w', e, hw, lo', hi', t5, t6, t7, t8, hr', p1, p2⟩ := for_inv (body := fB (run n) f_law_bounds_s1) (t := .one 4) ofPair
    (fun done ρ w1 => w1 = w ∧ ∃ lo hi s5 s6 s7 s8, ρ = [.val (pD P), .val (.p (ofPair a)), .val (.p lo), .val (.p hi), s5, s6, s7, s8] ∧ Mx (fun n d => FLo A P n d ∨ FLo [a] done n d) lo ∧ Mn (fun n d => FHi A P n d ∨ FHi [a] done n d) hi)
    P [] _ w ⟨rfl, lo, hi, s5, s6, s7, s8, rfl, q1.iff fun n d => ⟨.inl, fun z => z.elim id fun ⟨_, _, q, hq, _⟩ => (nomatch hq)⟩, q2.iff fun n d => ⟨.inl, fun z => z.elim id fun ⟨_, _, q, hq, _⟩ => (nomatch hq)⟩⟩
    (fun d b r' ρ w1 hl ⟨hw, lo, hi, s5, s6, s7, s8, hr', q1, q2⟩ => by
      subst hw hr'
      rw [List.nil_append] at q1 q2 ⊢
      have hb : b ∈ P := by rw [hl]; exact List.mem_append_right _ List.mem_cons_self
      obtain ⟨⟨b1, b2⟩, b3, b4⟩ := h.bnd b hb
      obtain ⟨⟨a1, a2⟩, a3, a4⟩ := h.bnd a ha
      by_cases hab : a.1 < b.1
      · have hpos : ∀ n e, (FLo A P n e ∨ FLo [a] d n e) → 0 < e := fun n e z => by
          rcases z with ⟨_, _, _, _, z1, _, z2⟩ | ⟨_, _, _, _, z1, _, z2⟩ <;> omega
        have hpos2 : ∀ n e, (FHi A P n e ∨ FHi [a] d n e) → 0 < e := fun n e z => by
          rcases z with ⟨_, _, _, _, z1, _, z2⟩ | ⟨_, _, _, _, z1, _, z2⟩ <;> omega
        obtain ⟨lo', g1, g2⟩ := q1.add (n := b.2 - a.2 - 1) (d := b.1 - a.1) (a' := b.2 - a.2 - 1) (b' := b.1 - a.1) hpos (by omega) ⟨by omega, by omega⟩ ⟨by omega, by omega⟩ rfl (F' := fun n e => FLo A P n e ∨ FLo [a] (d ++ [b]) n e) (fun x y => by
          constructor
          · rintro (z | ⟨p, hp, q, hq, z1, z2, z3⟩)
            · exact .inl (.inl z)
            · rcases List.mem_append.mp hq with hq | hq
              · exact .inl (.inr ⟨p, hp, q, hq, z1, z2, z3⟩)
              · rw [List.mem_singleton] at hp hq
                subst hp hq
                exact .inr ⟨z2, z3⟩
          · rintro ((z | ⟨p, hp, q, hq, z⟩) | ⟨z2, z3⟩)
            · exact .inl z
            · exact .inr ⟨p, hp, q, List.mem_append_left _ hq, z⟩
            · exact .inr ⟨a, List.mem_singleton_self _, b, List.mem_append_right _ (List.mem_singleton_self _), hab, z2, z3⟩)
        obtain ⟨hi', g3, g4⟩ := q2.add (n := b.2 - a.2 + 1) (d := b.1 - a.1) (a' := b.2 - a.2 + 1) (b' := b.1 - a.1) hpos2 (by omega) ⟨by omega, by omega⟩ ⟨by omega, by omega⟩ rfl (F' := fun n e => FHi A P n e ∨ FHi [a] (d ++ [b]) n e) (fun x y => by
          constructor
          · rintro (z | ⟨p, hp, q, hq, z1, z2, z3⟩)
            · exact .inl (.inl z)
            · rcases List.mem_append.mp hq with hq | hq
              · exact .inl (.inr ⟨p, hp, q, hq, z1, z2, z3⟩)
              · rw [List.mem_singleton] at hp hq
                subst hp hq
                exact .inr ⟨z2, z3⟩
          · rintro ((z | ⟨p, hp, q, hq, z⟩) | ⟨z2, z3⟩)
            · exact .inl z
            · exact .inr ⟨p, hp, q, List.mem_append_left _ hq, z⟩
            · exact .inr ⟨a, List.mem_singleton_self _, b, List.mem_append_right _ (List.mem_singleton_self _), hab, z2, z3⟩)
        refine ⟨_, _, w1, tg1 _ _ _, ?_, rfl, lo', hi', .val (.p (ofPair b)), .val (.int (b.1 - a.1)), .val (.int (b.2 - a.2 - 1)), .val (.int (b.2 - a.2 + 1)), rfl, g1, g3⟩
        unfold fB f_law_bounds_s1
        walk_at "ev"
        rw [decide_eq_true hab]
        walk_at "ev"
        rcases g2 with ⟨rfl, rfl⟩ | ⟨a0, b0, rfl, u1, u2, u3, u4, rfl⟩ <;> rcases g4 with ⟨rfl, rfl⟩ | ⟨a5, b5, rfl, v1, v2, v3, v4, rfl⟩
        · walk_at "ev"
        · walk_at "ev"
          rw [mul_i (by omega)]
          walk_at "ev"
          rw [mul_i (by omega)]
          walk_at "ev"
          by_cases hc : (b.2 - a.2 + 1) * b5 < a5 * (b.1 - a.1)
          · simp only [if_pos hc, decide_eq_true hc, if_true]
            walk_at "ev"
          · simp only [if_neg hc, decide_eq_false hc]
            walk_at "ev"
        · walk_at "ev"
          rw [mul_i (by omega)]
          walk_at "ev"
          rw [mul_i (by omega)]
          walk_at "ev"
          by_cases hc : a0 * (b.1 - a.1) < (b.2 - a.2 - 1) * b0
          · simp only [if_pos hc, decide_eq_true hc, if_true]
            walk_at "ev"
          · simp only [if_neg hc, decide_eq_false hc]
            walk_at "ev"
        · walk_at "ev"
          rw [mul_i (by omega)]
          walk_at "ev"
          rw [mul_i (by omega)]
          walk_at "ev"
          by_cases hc : a0 * (b.1 - a.1) < (b.2 - a.2 - 1) * b0
          · simp only [if_pos hc, decide_eq_true hc, if_true]
            walk_at "ev"
            rw [mul_i (by omega)]
            walk_at "ev"
            rw [mul_i (by omega)]
            walk_at "ev"
            by_cases hd : (b.2 - a.2 + 1) * b5 < a5 * (b.1 - a.1)
            · simp only [if_pos hd, decide_eq_true hd, if_true]
              walk_at "ev"
            · simp only [if_neg hd, decide_eq_false hd]
              walk_at "ev"
          · simp only [if_neg hc, decide_eq_false hc]
            walk_at "ev"
            rw [mul_i (by omega)]
            walk_at "ev"
            rw [mul_i (by omega)]
            walk_at "ev"
            by_cases hd : (b.2 - a.2 + 1) * b5 < a5 * (b.1 - a.1)
            · simp only [if_pos hd, decide_eq_true hd, if_true]
              walk_at "ev"
            · simp only [if_neg hd, decide_eq_false hd]
              walk_at "ev"
      · have same : ∀ n e, FLo [a] (d ++ [b]) n e → FLo [a] d n e := fun n e ⟨p, hp, q, hq, z1, z2⟩ => by
          rcases List.mem_append.mp hq with hq | hq
          · exact ⟨p, hp, q, hq, z1, z2⟩
          · rw [List.mem_singleton] at hp hq
            subst hp hq
            exact absurd z1 hab
        have same2 : ∀ n e, FHi [a] (d ++ [b]) n e → FHi [a] d n e := fun n e ⟨p, hp, q, hq, z1, z2⟩ => by
          rcases List.mem_append.mp hq with hq | hq
          · exact ⟨p, hp, q, hq, z1, z2⟩
          · rw [List.mem_singleton] at hp hq
            subst hp hq
            exact absurd z1 hab
        refine ⟨_, _, w1, tg1 _ _ _, ?_, rfl, lo, hi, .val (.p (ofPair b)), s6, s7, s8, rfl,
          q1.iff fun n e => ⟨fun z => z.imp id fun ⟨p, hp, q, hq, y⟩ => ⟨p, hp, q, List.mem_append_left _ hq, y⟩, fun z => z.imp id (same n e)⟩,
          q2.iff fun n e => ⟨fun z => z.imp id fun ⟨p, hp, q, hq, y⟩ => ⟨p, hp, q, List.mem_append_left _ hq, y⟩, fun z => z.imp id (same2 n e)⟩⟩
        unfold fB f_law_bounds_s1
        walk_at "ev"
        rw [decide_eq_false hab]
        walk_at "ev")
  subst hw hr'
  refine ⟨lo', hi', t5, t6, t7, t8, e, ?_, ?_⟩
  · refine Mx.iff p1 fun n d => ?_
    rw [List.nil_append]
    constructor
    · rintro (⟨p, hp, q, z⟩ | ⟨p, hp, q, hq, z⟩)
      · exact ⟨p, List.mem_append_left _ hp, q, z⟩
      · exact ⟨p, List.mem_append_right _ hp, q, hq, z⟩
    · rintro ⟨p, hp, q, hq, z1, z2⟩
      rcases List.mem_append.mp hp with hp | hp
      · exact .inl ⟨p, hp, q, hq, z1, z2⟩
      · exact .inr ⟨p, hp, q, hq, z1, z2⟩
  · refine Mn.iff p2 fun n d => ?_
    rw [List.nil_append]
    constructor
    · rintro (⟨p, hp, q, z⟩ | ⟨p, hp, q, hq, z⟩)
      · exact ⟨p, List.mem_append_left _ hp, q, z⟩
      · exact ⟨p, List.mem_append_right _ hp, q, hq, z⟩
    · rintro ⟨p, hp, q, hq, z1, z2⟩
      rcases List.mem_append.mp hp with hp | hp
      · exact .inl ⟨p, hp, q, hq, z1, z2⟩
      · exact .inr ⟨p, hp, q, hq, z1, z2⟩
theorem run_law_bounds (n : Nat) {P : List Pt} (w : W) (h : PtsL P) : ∃ lo hi, run (n + 1) .f_law_bounds [pD P] w = .ok (.tup [lo, hi]) w ∧ Mx (FLo P P) lo ∧ Mn (FHi P P) hi := by
  (rw [run_def _ _ Bf_law_bounds rfl, runD_eq Bf_law_bounds _ _ _ _ ⟨rfl, by decide⟩ rfl rfl]; unfold Bf_law_bounds; simp only [List.map_cons, List.map_nil, List.length_cons, List.length_nil, List.replicate, List.cons_append, List.nil_append, Nat.reduceAdd, Nat.reduceSub])
  walk_at "ev"
  obtain ⟨ρ', w', e, hw, lo, hi, s1, s5, s6, s7, s8, hr, q1, q2⟩ := for_inv (body := fB (run n) f_law_bounds_s2) (t := .one 1) ofPair
    (fun done ρ w1 => w1 = w ∧ ∃ lo hi s1 s5 s6 s7 s8, ρ = [.val (pD P), s1, .val (.p lo), .val (.p hi), s5, s6, s7, s8] ∧ Mx (FLo done P) lo ∧ Mn (FHi done P) hi)
    P [] [.val (pD P), .un, .val .non, .val .non, .un, .un, .un, .un] w ⟨rfl, .none, .none, _, _, _, _, _, rfl, .inl ⟨rfl, fun n d ⟨p, hp, _⟩ => (nomatch hp)⟩, .inl ⟨rfl, fun n d ⟨p, hp, _⟩ => (nomatch hp)⟩⟩
    (fun d a r ρ w1 hl ⟨hw, lo, hi, s1, s5, s6, s7, s8, hr, q1, q2⟩ => by
      subst hw hr
      rw [List.nil_append] at q1 q2 ⊢
      obtain ⟨lo', hi', t5, t6, t7, t8, e, z⟩ := lb_in n a d (by rw [hl]; exact List.mem_append_right _ List.mem_cons_self) h w1 lo hi s5 s6 s7 s8 q1 q2
      refine ⟨_, _, w1, tg1 _ _ _, ?_, rfl, lo', hi', .val (.p (ofPair a)), t5, t6, t7, t8, rfl, z⟩
      unfold fB f_law_bounds_s2
      walk_at "ev"
      rw [e]
      walk_at "ev")
  subst hw hr
  rw [List.nil_append] at q1 q2
  refine ⟨lo, hi, ?_, q1, q2⟩
  rw [e]
  walk_at "ev"
open Classical in
theorem run_fits (n : Nat) {P : List Pt} (w : W) (h : PtsL P) : run (n + 2) .f_law_fits [pD P] w = .ok (.bl (decide (Str P))) w := by
  obtain ⟨lo, hi, eq, h1, h2⟩ := run_law_bounds n w h
  (rw [run_def _ _ Bf_law_fits rfl, runD_eq Bf_law_fits _ _ _ _ ⟨rfl, by decide⟩ rfl rfl]; unfold Bf_law_fits; simp only [List.map_cons, List.map_nil, List.length_cons, List.length_nil, List.replicate, List.cons_append, List.nil_append, Nat.reduceAdd, Nat.reduceSub])
  walk_at "ev"
  rw [eq]
  walk_at "ev"
  rcases str_iff h1 h2 with ⟨rfl, rfl, hs⟩ | ⟨a, b, c, e, rfl, rfl, ⟨b1, b2, b3, b4⟩, ⟨e1, e2, e3, e4⟩, hs⟩
  · rw [decide_eq_true hs]
    walk_at "ev"
  · walk_at "ev"
    rw [mul_i (by omega)]
    walk_at "ev"
    rw [mul_i (by omega)]
    walk_at "ev"
    rw [show decide (a * e < c * b) = decide (Str P) from Bool.eq_iff_iff.mpr (by simp only [decide_eq_true_eq]; exact hs)]
end Px

end

section
/-! LibE: bounds once more, slopes, explaining lines. -/
namespace Px
open PySem Ev
local macro_rules | `(tactic| walk_at "ev") => `(tactic| simp -implicitDefEqProofs only [e_var, e_non, e_call0, e_mkS, e_meth, e_meth0, e_srow, e_noPast, e_lenS, e_neO, s_setRow, s_appPast, s_popPast, s_popO, s_par3O, e_sset, e_fmt, e_fstr, e_join, e_split, e_bl, e_int, e_str, e_gint, e_bin, e_neg, e_not, e_cmp, e_chain, e_and, e_or, e_and1, e_or1, e_ite, e_call, e_bcall, e_isi, e_ix, e_sl, e_tup, e_lst, e_comp, e_compIf, e_lenO, e_ixO, e_ninO, e_index, e_count, e_lenum, e_lrng, e_slS, es_nil, es_cons, i_seq, i_r1, i_r2, i_r3, i_enum, i_zip, o_non, o_some, s_set, s_setO, s_parO, s_par, s_unp, s_aug, s_extO, s_app, s_stO, s_ife, s_for, s_while, s_ret, s_retN, s_expr, s_raise, s_pass, b_nil, b_cons, b_frz, lt_i, le_i, gt_i, ge_i, add_i, sub_i, neg_i, not_b, isN_p, isnN_p, isB, isnB, ix_p0, ix_p1, isN_none, isN_pair, isN_int, isN_tup, isN_lst, tup_pair, typ, len_p, u0, u1, u2, pl_nil, pl_cons, seq_l, seq_t, len_l, len_t, list_l, list_t, abs_i, enum_l, sds0, sdsC, svs0, svsC, nx_s, plainR_ok, toB_b, set0, setS, no_nil, no_c, no_v, no_o, no_u, wp_nil, wp_cons, tg1, tgT, tyi, tyib, tyil, tyit, tytt, tytl, tyll, tylt, tybb, rok, rokO, rex, rexO, finN, finT, finX, onx, ort, oex, lifs, tstb, tstbP, gv0, gvS, go0, goS, sv0, svS, Nat.reduceAdd, Option.map_some, Option.bind_some, Bool.not_true, Bool.not_false, if_true, if_false, Bool.false_eq_true, ↓reduceIte, reduceCtorEq, List.length_cons, List.length_nil, Option.map_none, decide_true, decide_false, Bool.true_and, Bool.false_and])
/-- the bounds of the slopes, in lowest terms -/
structure Bd (P : List Pt) (lo hi : PyData) : Prop where
  x : Mx (FLo P P) lo
  n : Mn (FHi P P) hi
  l : Lw lo
  h : Lw hi
theorem mx_uniq {F : Int → Int → Prop} (hF : ∀ n d, F n d → 0 < d) {o o' : PyData} (h : Mx F o) (l : Lw o) (h' : Mx F o') (l' : Lw o') : o = o' := by
  rcases h with ⟨rfl, e1⟩ | ⟨a, b, rfl, b0, b1, a1, a2, ⟨n, d, f1, f2⟩, f3⟩
  · rcases h' with ⟨rfl, _⟩ | ⟨a, b, rfl, _, _, _, _, ⟨n, d, f1, _⟩, _⟩
    · rfl
    · exact absurd f1 (e1 n d)
  · rcases h' with ⟨rfl, e1⟩ | ⟨a', b', rfl, b0', b1', a1', a2', ⟨n', d', f1', f2'⟩, f3'⟩
    · exact absurd f1 (e1 n d)
    · have d0 := hF n d f1
      have d0' := hF n' d' f1'
      -- a/b = n/d <= a'/b', and back
      have q1 : a * b' ≤ a' * b := frac_tr b0 d0 b0' (by omega) (f3' n d f1)
      have q2 : a' * b ≤ a * b' := frac_tr b0' d0' b0 (by omega) (f3 n' d' f1')
      obtain ⟨rfl, rfl⟩ := low_uniq b0 b0' (l a b rfl) (l' a' b' rfl) (by omega)
      rfl
theorem mn_uniq {F : Int → Int → Prop} (hF : ∀ n d, F n d → 0 < d) {o o' : PyData} (h : Mn F o) (l : Lw o) (h' : Mn F o') (l' : Lw o') : o = o' := by
  rcases h with ⟨rfl, e1⟩ | ⟨a, b, rfl, b0, b1, a1, a2, ⟨n, d, f1, f2⟩, f3⟩
  · rcases h' with ⟨rfl, _⟩ | ⟨a, b, rfl, _, _, _, _, ⟨n, d, f1, _⟩, _⟩
    · rfl
    · exact absurd f1 (e1 n d)
  · rcases h' with ⟨rfl, e1⟩ | ⟨a', b', rfl, b0', b1', a1', a2', ⟨n', d', f1', f2'⟩, f3'⟩
    · exact absurd f1 (e1 n d)
    · have d0 := hF n d f1
      have d0' := hF n' d' f1'
      have q1 : a * b' ≤ a' * b := frac_tr b0 d0' b0' (f3 n' d' f1') (by omega)
      have q2 : a' * b ≤ a * b' := frac_tr b0' d0 b0 (f3' n d f1) (by omega)
      obtain ⟨rfl, rfl⟩ := low_uniq b0 b0' (l a b rfl) (l' a' b' rfl) (by omega)
      rfl
theorem Bd.uniq {P : List Pt} {lo hi lo' hi' : PyData} (h : Bd P lo hi) (h' : Bd P lo' hi') : lo = lo' ∧ hi = hi' :=
  ⟨mx_uniq Mx.pos h.x h.l h'.x h'.l, mn_uniq Mn.pos h.n h.h h'.n h'.h⟩
/-- the greatest, in lowest terms -/
theorem mx_low {F : Int → Int → Prop} {a b : Int} (h : Mx F (ofPair (a, b))) (hb : 0 < b) (hF : ∀ n d, F n d → 0 < d) : ∃ x y, a / (Int.gcd a b : Int) = x ∧ b / (Int.gcd a b : Int) = y ∧ Mx F (ofPair (x, y)) ∧ Lw (ofPair (x, y)) := by
  obtain ⟨x, y, e1, e2, y0, y1, x1, xy, g⟩ := low_gen a b hb
  refine ⟨x, y, e1, e2, ?_, fun a' b' e => by cases ofPair_inj e; exact g⟩
  rcases h with ⟨h, _⟩ | ⟨a', b', e, b0, b1, a1, a2, ⟨n, d, f1, f2⟩, f3⟩
  · cases h
  · cases ofPair_inj e
    refine .inr ⟨x, y, rfl, y0, by omega, by omega, by omega, ⟨n, d, f1, ?_⟩, fun n' d' f => ?_⟩
    · have : x * d * b = n * y * b := by grind
      exact Int.eq_of_mul_eq_mul_right (by omega) this
    · have h1 := mle (f3 n' d' f) (Int.le_of_lt y0)
      have h2 : n' * y * b ≤ x * d' * b := by grind
      exact Int.le_of_mul_le_mul_right h2 hb
theorem mn_low {F : Int → Int → Prop} {a b : Int} (h : Mn F (ofPair (a, b))) (hb : 0 < b) (hF : ∀ n d, F n d → 0 < d) : ∃ x y, a / (Int.gcd a b : Int) = x ∧ b / (Int.gcd a b : Int) = y ∧ Mn F (ofPair (x, y)) ∧ Lw (ofPair (x, y)) := by
  obtain ⟨x, y, e1, e2, y0, y1, x1, xy, g⟩ := low_gen a b hb
  refine ⟨x, y, e1, e2, ?_, fun a' b' e => by cases ofPair_inj e; exact g⟩
  rcases h with ⟨h, _⟩ | ⟨a', b', e, b0, b1, a1, a2, ⟨n, d, f1, f2⟩, f3⟩
  · cases h
  · cases ofPair_inj e
    refine .inr ⟨x, y, rfl, y0, by omega, by omega, by omega, ⟨n, d, f1, ?_⟩, fun n' d' f => ?_⟩
    · have : x * d * b = n * y * b := by grind
      exact Int.eq_of_mul_eq_mul_right (by omega) this
    · have h1 := mle (f3 n' d' f) (Int.le_of_lt y0)
      have h2 : x * d' * b ≤ n' * y * b := by grind
      exact Int.le_of_mul_le_mul_right h2 hb
open Classical in
theorem run_check_straight (n : Nat) {P : List Pt} (w : W) (h : Pts P) : run (n + 5) .f_check_straight [pD P] w = if Str P then .ok .non w else .exc 5 w := by
  (rw [run_def _ _ Bf_check_straight rfl, runD_eq Bf_check_straight _ _ _ _ ⟨rfl, by decide⟩ rfl rfl]; unfold Bf_check_straight; simp only [List.map_cons, List.map_nil, List.length_cons, List.length_nil, List.replicate, List.cons_append, List.nil_append, Nat.reduceAdd, Nat.reduceSub])
  walk_at "ev"
  rw [run_straight n w h]
  by_cases hs : Str P
  · rw [decide_eq_true hs, if_pos hs]
    walk_at "ev"
  · rw [decide_eq_false hs, if_neg hs]
    walk_at "ev"
theorem run_slopes_ok (n : Nat) {P : List Pt} (w : W) (h : Pts P) (hs : Str P) : ∃ lo hi, run (n + 6) .f_slopes [pD P] w = .ok (.tup [lo, hi]) w ∧ Bd P lo hi := by
  obtain ⟨lo, hi, e, h1, h2, h3, h4⟩ := run_bounds (n + 2) w h
  refine ⟨lo, hi, ?_, h1, h2, h3, h4⟩
  (rw [run_def _ _ Bf_slopes rfl, runD_eq Bf_slopes _ _ _ _ ⟨rfl, by decide⟩ rfl rfl]; unfold Bf_slopes; simp only [List.map_cons, List.map_nil, List.length_cons, List.length_nil, List.replicate, List.cons_append, List.nil_append, Nat.reduceAdd, Nat.reduceSub])
  walk_at "ev"
  rw [run_check_points (n + 1) w h]
  walk_at "ev"
  rw [run_check_straight n w h, if_pos hs]
  walk_at "ev"
  rw [e]
  walk_at "ev"
theorem run_slopes_exc (n : Nat) {P : List Pt} (w : W) (h : Pts P) (hs : ¬ Str P) : run (n + 6) .f_slopes [pD P] w = .exc 5 w := by
  (rw [run_def _ _ Bf_slopes rfl, runD_eq Bf_slopes _ _ _ _ ⟨rfl, by decide⟩ rfl rfl]; unfold Bf_slopes; simp only [List.map_cons, List.map_nil, List.length_cons, List.length_nil, List.replicate, List.cons_append, List.nil_append, Nat.reduceAdd, Nat.reduceSub])
  walk_at "ev"
  rw [run_check_points (n + 1) w h]
  walk_at "ev"
  rw [run_check_straight n w h, if_neg hs]
  walk_at "ev"
/-! ### lines -/
structure LnOk (p q c : Int) : Prop where
  q0 : 0 < q
  q1 : q < 1000000
  p0 : -1000000000 ≤ p
  p1 : p ≤ 1000000000
  c0 : -1000000000 ≤ c
  c1 : c ≤ 1000000000
  g : Int.gcd p q = 1
theorem LnB.ok {p q c : Int} (h : LnB p q c) : LnOk p q c := by
  obtain ⟨h1, h2, h3, h4, h5, h6, h7⟩ := h
  exact ⟨h1, by omega, by omega, by omega, by omega, by omega, h7⟩
abbrev lnD (p q c : Int) : D := .tup [.int p, .int q, .int c]
theorem run_is_line (n : Nat) {p q c : Int} (w : W) (h : LnOk p q c) : run (n + 2) .f_is_line [lnD p q c] w = .ok (.bl true) w := by
  obtain ⟨h1, h2, h3, h4, h5, h6, h7⟩ := h
  (rw [run_def _ _ Bf_is_line rfl, runD_eq Bf_is_line _ _ _ _ ⟨rfl, by decide⟩ rfl rfl]; unfold Bf_is_line; simp only [List.map_cons, List.map_nil, List.length_cons, List.length_nil, List.replicate, List.cons_append, List.nil_append, Nat.reduceAdd, Nat.reduceSub])
  walk_at "ev"
  rw [ne_i, decide_eq_true (show ((0 + 1 + 1 + 1 : Nat) : Int) = 3 from rfl)]
  walk_at "ev"
  rw [if_pos (by decide)]
  have := comp_map (step := fC (run (n + 1)) f_is_line_s1) (ρ := [.val (lnD p q c), .un]) (t := .one 1) (w := w) (fun i : Int => .int i) (fun _ => .bool true) [p, q, c] (fun a ha => by
    refine ⟨_, tg1 _ _ _, ?_⟩
    unfold fC f_is_line_s1
    walk_at "ev"
    rw [run_is_int]
    simp only [List.mem_cons, List.not_mem_nil, or_false] at ha
    have : (decide (-1000000000 ≤ a) && decide (a ≤ 1000000000)) = true := by
      rcases ha with rfl | rfl | rfl <;> simp <;> omega
    rw [this]
    rfl)
  simp only [List.map_cons, List.map_nil] at this
  rw [this]
  walk_at "ev"
  rw [show bV .all [D.lst [.bool true, .bool true, .bool true]] = some (.bl true) from rfl]
  walk_at "ev"
  rw [decide_eq_true h1]
  walk_at "ev"
  rw [run_common n p q w (by omega), h7]
  walk_at "ev"
  rw [eq_i]
  rfl
theorem run_check_line (n : Nat) {p q c : Int} (w : W) (h : LnOk p q c) : run (n + 3) .f_check_line [lnD p q c] w = .ok .non w := by
  (rw [run_def _ _ Bf_check_line rfl, runD_eq Bf_check_line _ _ _ _ ⟨rfl, by decide⟩ rfl rfl]; unfold Bf_check_line; simp only [List.map_cons, List.map_nil, List.length_cons, List.length_nil, List.replicate, List.cons_append, List.nil_append, Nat.reduceAdd, Nat.reduceSub])
  walk_at "ev"
  rw [run_is_line n w h]
  walk_at "ev"
/-- the line's heights -/
abbrev ht (p q c x : Int) : Int := (p * x + c) / q
theorem run_explains (n : Nat) {p q c : Int} {P : List Pt} (w : W) (h : LnOk p q c) (hP : Pts P) : run (n + 5) .f_explains [lnD p q c, pD P] w = .ok (.bl (P.all fun pt => decide (ht p q c pt.1 = pt.2))) w := by
  have hl : P.length ≤ 16000000 := by have := hP.most; omega
  (rw [run_def _ _ Bf_explains rfl, runD_eq Bf_explains _ _ _ _ ⟨rfl, by decide⟩ rfl rfl]; unfold Bf_explains; simp only [List.map_cons, List.map_nil, List.length_cons, List.length_nil, List.replicate, List.cons_append, List.nil_append, Nat.reduceAdd, Nat.reduceSub])
  walk_at "ev"
  rw [run_check_line (n + 1) w h]
  walk_at "ev"
  rw [run_check_points n w hP]
  walk_at "ev"
  rw [if_pos (sizeOk_le (by rw [List.length_map]; exact hl)), comp_map (step := fC (run (n + 4)) f_explains_s1) (w := w) ofPair (fun pt => .bool (decide (ht p q c pt.1 = pt.2))) P (fun pt hpt => by
    refine ⟨_, rfl, ?_⟩
    unfold fC f_explains_s1
    walk_at "ev"
    rw [mul_j (by have := hP.bnd pt hpt; omega)]
    walk_at "ev"
    rw [fdiv_i ⟨h.q0, by have := h.q1; omega⟩]
    walk_at "ev"
    rw [eq_i]
    walk_at "ev")]
  walk_at "ev"
  rw [all_b]
  walk_at "ev"
/-! ### what a line says of the bounds -/
theorem ht_bd {p q c x : Int} (h : 0 < q) : q * ht p q c x ≤ p * x + c ∧ p * x + c < q * ht p q c x + q := by
  obtain ⟨h1, h2⟩ := fl (a := p * x + c) h
  constructor <;> grind
theorem line_lo {p q c : Int} {P : List Pt} (h : 0 < q) (hP : ∀ pt ∈ P, ht p q c pt.1 = pt.2) {n d : Int} (f : FLo P P n d) : n * q < p * d := by
  obtain ⟨a, ha, b, hb, _, rfl, rfl⟩ := f
  have h1 := ht_bd (p := p) (c := c) (x := a.1) h
  have h2 := ht_bd (p := p) (c := c) (x := b.1) h
  rw [hP a ha] at h1
  rw [hP b hb] at h2
  grind
theorem line_hi {p q c : Int} {P : List Pt} (h : 0 < q) (hP : ∀ pt ∈ P, ht p q c pt.1 = pt.2) {n d : Int} (f : FHi P P n d) : p * d < n * q := by
  obtain ⟨a, ha, b, hb, _, rfl, rfl⟩ := f
  have h1 := ht_bd (p := p) (c := c) (x := a.1) h
  have h2 := ht_bd (p := p) (c := c) (x := b.1) h
  rw [hP a ha] at h1
  rw [hP b hb] at h2
  grind
theorem frac_lt3 {a b x y c d : Int} (hb : 0 < b) (hy : 0 < y) (hd : 0 < d) (h1 : a * y < x * b) (h2 : x * d < c * y) : a * d < c * b := by
  have k1 := mlt h1 hd
  have k2 := mlt h2 hb
  have : a * d * y < c * b * y := by grind
  exact ltm hy this
theorem line_str {p q c : Int} {P : List Pt} (h : 0 < q) (hP : ∀ pt ∈ P, ht p q c pt.1 = pt.2) : Str P := fun n d f n' d' f' =>
  frac_lt3 (Mx.pos n d f) h (Mn.pos n' d' f') (line_lo h hP f) (line_hi h hP f')
theorem line_mx {p q c : Int} {P : List Pt} {a b : Int} (h : 0 < q) (hP : ∀ pt ∈ P, ht p q c pt.1 = pt.2) (hm : Mx (FLo P P) (ofPair (a, b))) : 0 < b ∧ a * q < p * b := by
  rcases hm with ⟨e, _⟩ | ⟨a', b', e, b0, _, _, _, ⟨n, d, f1, f2⟩, _⟩
  · cases e
  · cases ofPair_inj e
    refine ⟨b0, ?_⟩
    have h1 := line_lo h hP f1
    have h2 := mlt h1 b0
    have e2 : a * d * q = n * b * q := by rw [f2]
    have : a * q * d < p * b * d := by grind
    exact ltm (Mx.pos n d f1) this
theorem line_mn {p q c : Int} {P : List Pt} {a b : Int} (h : 0 < q) (hP : ∀ pt ∈ P, ht p q c pt.1 = pt.2) (hm : Mn (FHi P P) (ofPair (a, b))) : 0 < b ∧ p * b < a * q := by
  rcases hm with ⟨e, _⟩ | ⟨a', b', e, b0, _, _, _, ⟨n, d, f1, f2⟩, _⟩
  · cases e
  · cases ofPair_inj e
    refine ⟨b0, ?_⟩
    have h1 := line_hi h hP f1
    have h2 := mlt h1 b0
    have e2 : a * d * q = n * b * q := by rw [f2]
    have : p * b * d < a * q * d := by grind
    exact ltm (Mn.pos n d f1) this
end Px

end

section
/-! Th_k01: slopes. -/
namespace Px
open PySem Ev
local macro_rules | `(tactic| walk_at "ev") => `(tactic| simp -implicitDefEqProofs only [e_var, e_non, e_call0, e_mkS, e_meth, e_meth0, e_srow, e_noPast, e_lenS, e_neO, s_setRow, s_appPast, s_popPast, s_popO, s_par3O, e_sset, e_fmt, e_fstr, e_join, e_split, e_bl, e_int, e_str, e_gint, e_bin, e_neg, e_not, e_cmp, e_chain, e_and, e_or, e_and1, e_or1, e_ite, e_call, e_bcall, e_isi, e_ix, e_sl, e_tup, e_lst, e_comp, e_compIf, e_lenO, e_ixO, e_ninO, e_index, e_count, e_lenum, e_lrng, e_slS, es_nil, es_cons, i_seq, i_r1, i_r2, i_r3, i_enum, i_zip, o_non, o_some, s_set, s_setO, s_parO, s_par, s_unp, s_aug, s_extO, s_app, s_stO, s_ife, s_for, s_while, s_ret, s_retN, s_expr, s_raise, s_pass, b_nil, b_cons, b_frz, lt_i, le_i, gt_i, ge_i, add_i, sub_i, neg_i, not_b, isN_p, isnN_p, isB, isnB, ix_p0, ix_p1, isN_none, isN_pair, isN_int, isN_tup, isN_lst, tup_pair, typ, len_p, u0, u1, u2, pl_nil, pl_cons, seq_l, seq_t, len_l, len_t, list_l, list_t, abs_i, enum_l, sds0, sdsC, svs0, svsC, nx_s, plainR_ok, toB_b, set0, setS, no_nil, no_c, no_v, no_o, no_u, wp_nil, wp_cons, tg1, tgT, tyi, tyib, tyil, tyit, tytt, tytl, tyll, tylt, tybb, rok, rokO, rex, rexO, finN, finT, finX, onx, ort, oex, lifs, tstb, tstbP, gv0, gvS, go0, goS, sv0, svS, Nat.reduceAdd, Option.map_some, Option.bind_some, Bool.not_true, Bool.not_false, if_true, if_false, Bool.false_eq_true, ↓reduceIte, reduceCtorEq, List.length_cons, List.length_nil, Option.map_none, decide_true, decide_false, Bool.true_and, Bool.false_and])
theorem PtsB.l {m : Nat} {P : List Pt} (h : PtsB m P) (hm : m ≤ 20) : PtsL P := (h.pts hm).l
theorem str1 {P : List Pt} (h : P.length = 1) : ∀ n d, ¬ FLo P P n d := fun n d ⟨a, ha, b, hb, z, _⟩ => by
  obtain ⟨p, rfl⟩ : ∃ p, P = [p] := by
    match P, h with
    | [p], _ => exact ⟨p, rfl⟩
  rw [List.mem_singleton] at ha hb
  subst ha hb
  omega
/-- the law's line and the points' places -/
theorem good_pts {p q c : Int} {m : Nat} (hL : LnB p q c) {P : List Pt} (h : PtsB m P) : PtsB m (P.map fun pt => (pt.1, ht p q c pt.1)) := by
  refine ⟨by rw [List.length_map]; exact h.one, by rw [List.length_map]; exact h.most, fun r hr => ?_, ?_⟩
  · obtain ⟨pt, hpt, rfl⟩ := List.mem_map.mp hr
    have := h.bnd pt hpt
    have h2 := height_bd hL this.1
    dsimp only [ht] at h2 ⊢
    omega
  · rw [List.pairwise_map]
    exact h.inc
theorem good_ht (p q c : Int) (P : List Pt) : ∀ pt ∈ P.map fun pt => (pt.1, ht p q c pt.1), ht p q c pt.1 = pt.2 := fun r hr => by
  obtain ⟨pt, _, rfl⟩ := List.mem_map.mp hr
  rfl
theorem pd_inj {P Q : List Pt} (h : P.map ofPair = Q.map ofPair) : P = Q := by
  have : ∀ {P Q : List Pt}, P.map ofPair = Q.map ofPair → P = Q := fun {P} => by
    induction P with
    | nil => intro Q h; cases Q with
      | nil => rfl
      | cons _ _ => cases h
    | cons p P ih => intro Q h; cases Q with
      | nil => cases h
      | cons q Q =>
        rw [List.map_cons, List.map_cons] at h
        injection h with h1 h2
        rw [ofPair_inj h1, ih h2]
  exact this h
theorem PL.pts (P : List Pt) : PL 2 (.list (P.map ofPair)) := PL.lst fun d hd => by
  obtain ⟨q, _, rfl⟩ := List.mem_map.mp hd
  exact PL.pair q
theorem eq_pts (P Q : List Pt) : cmpV .eq (pD P) (pD Q) = some (.bl (decide (P = Q))) := eq_b (PL.pts P) (PL.pts Q) (by decide) (by decide) (by
  rw [decide_eq_true_eq]
  exact ⟨fun h => by rw [h], fun h => pd_inj (by injection h)⟩)
theorem run_told_k01 (n : Nat) {P : List Pt} (w : W) (h : Pts P) : (Str P → ∃ lo hi, run (n + 7) .f_law_told [pD P] w = .ok (.tup [lo, hi]) w ∧ Bd P lo hi) ∧ (¬ Str P → run (n + 7) .f_law_told [pD P] w = .ok (.str "bent") w) := by
  constructor
  · intro hs
    obtain ⟨lo, hi, e, hb⟩ := run_slopes_ok n w h hs
    refine ⟨lo, hi, ?_, hb⟩
    (rw [run_def _ _ Bf_law_told rfl, runD_eq Bf_law_told _ _ _ _ ⟨rfl, by decide⟩ rfl rfl]; unfold Bf_law_told; simp only [List.map_cons, List.map_nil, List.length_cons, List.length_nil, List.replicate, List.cons_append, List.nil_append, Nat.reduceAdd, Nat.reduceSub])
    walk_at "ev"
    rw [try_ok (ρ' := [.val (pD P), .val (.tup [lo, hi]), .val .non, .un]) (w' := w) (by
      walk_at "ev"
      rw [e]
      walk_at "ev")]
    walk_at "ev"
  · intro hs
    have e := run_slopes_exc n w h hs
    (rw [run_def _ _ Bf_law_told rfl, runD_eq Bf_law_told _ _ _ _ ⟨rfl, by decide⟩ rfl rfl]; unfold Bf_law_told; simp only [List.map_cons, List.map_nil, List.length_cons, List.length_nil, List.replicate, List.cons_append, List.nil_append, Nat.reduceAdd, Nat.reduceSub])
    walk_at "ev"
    rw [try_exc (c := 5) (ρ' := [.val (pD P), .val .non, .val .non, .un]) (w' := w) (by
      walk_at "ev"
      rw [e]
      walk_at "ev") (by decide) (by simp)]
    walk_at "ev"
    rw [show cmpV .is_ (.exc 5) .non = some (.bl false) from rfl]
    walk_at "ev"
    rw [run_law_error (n + 5) 5 w (by decide)]
    rfl
theorem Mx.pl {F : Int → Int → Prop} {o : PyData} (h : Mx F o) : PL 1 o := by
  rcases h with ⟨rfl, _⟩ | ⟨a, b, rfl, _⟩
  · exact PL.none 1
  · exact PL.pair _
theorem Mn.pl {F : Int → Int → Prop} {o : PyData} (h : Mn F o) : PL 1 o := by
  rcases h with ⟨rfl, _⟩ | ⟨a, b, rfl, _⟩
  · exact PL.none 1
  · exact PL.pair _
theorem PL.tup2 {n : Nat} {a b : PyData} (h1 : PL n a) (h2 : PL n b) : PL (n + 1) (.tuple [a, b]) := PL.tup fun d hd => by
  simp only [List.mem_cons, List.not_mem_nil, or_false] at hd
  rcases hd with rfl | rfl
  · exact h1
  · exact h2
theorem PL.str {n : Nat} {x : PySem.Str} (h : PyData.strOk x = true) : PL n (.str x) := ⟨by unfold nb; exact h, by simp [PyData.depth]⟩
theorem bent_same : cmpV .ne (.str "bent") (.str "bent") = some (.bl false) := ne_same (PL.str (n := 0) (by decide +kernel)) (by decide)
theorem run_are_ptsB (n : Nat) {m : Nat} {P : List Pt} (w : W) (h : PtsB m P) (hm : m ≤ 20) : run (n + 3) .f_are_points [pD P] w = .ok (.bl true) w := run_are_points n w (h.pts hm)
/-- behind the line's draw -/
theorem end_k01 (n : Nat) (w : W) {p q c : Int} {P : List Pt} (hL : LnB p q c) (hP : PtsB 14 P) (s0 s1 s3 s4 s7 s8 : Slot) :
    isT (finR (evB (run (n + 9)) [s0, s1, .val (pD P), s3, s4, .val (lnD p q c), .un, s7, s8, .un, .un] (dropB 8 Bf_law_k01.body) w)) = true := by
  have hG := good_pts hL hP
  have gh := good_ht p q c P
  have hs : Str (P.map fun pt => (pt.1, ht p q c pt.1)) := line_str hL.q0 gh
  have gl : (P.map fun pt => (pt.1, ht p q c pt.1)).length = P.length := List.length_map _
  have hl : P.length ≤ 16000000 := by have := hP.most; omega
  have comp : ∀ s6 : Slot, compGo (fC (run (n + 9)) f_law_k01_s1) [noS s0, noS s1, .val (pD P), noS s3, noS s4, .val (lnD p q c), s6, noS s7, noS s8, .un, .un] (.tup [9, 10]) (P.map ofPair) w = .ok ((P.map fun pt => (pt.1, ht p q c pt.1)).map ofPair) w := fun s6 => by
    rw [comp_map (step := fC (run (n + 9)) f_law_k01_s1) (w := w) ofPair (fun pt => ofPair (pt.1, ht p q c pt.1)) P (fun pt hpt => by
      refine ⟨_, rfl, ?_⟩
      unfold fC f_law_k01_s1
      walk_at "ev"
      rw [run_height (n + 8) p q c pt.1 w hL (by have := hP.bnd pt hpt; omega)]
      walk_at "ev"), List.map_map]
    rfl
  have ex : (P.all fun pt => decide (ht p q c pt.1 = pt.2)) = decide (P = P.map fun pt => (pt.1, ht p q c pt.1)) := by
    rw [Bool.eq_iff_iff, List.all_eq_true, decide_eq_true_eq]
    constructor
    · intro h
      have : P.map (fun pt => (pt.1, ht p q c pt.1)) = P.map id := List.map_congr_left fun pt hpt => by
        have := of_decide_eq_true (h pt hpt)
        rw [this]
        rfl
      rw [this, List.map_id]
    · intro h pt hpt
      have hpt' := hpt
      rw [h] at hpt'
      exact decide_eq_true (gh pt hpt')
  obtain ⟨lo, hi, e, hb⟩ := run_slopes_ok (n + 3) w (hG.pts (by decide)) hs
  unfold Bf_law_k01
  simp only [dropB]
  generalize hg : (P.map fun pt => (pt.1, ht p q c pt.1)) = G at *
  walk_at "ev"
  rw [run_explains (n + 4) w hL.ok (hP.pts (by decide)), ex]
  walk_at "ev"
  rw [if_pos (sizeOk_le (by rw [List.length_map]; exact hl)), comp]
  walk_at "ev"
  rw [eq_pts]
  walk_at "ev"
  rw [run_law_true, decide_eq_true rfl]
  walk_at "ev"
  rw [if_pos (sizeOk_le (by rw [List.length_map]; exact hl)), comp]
  walk_at "ev"
  rw [run_is_straight (n + 4) w (hG.pts (by decide)), @decide_eq_true _ (Classical.propDecidable _) hs]
  walk_at "ev"
  rw [run_explains (n + 4) w hL.ok (hG.pts (by decide)), show (G.all fun pt => decide (ht p q c pt.1 = pt.2)) = true from List.all_eq_true.mpr fun pt hpt => decide_eq_true (gh pt hpt)]
  walk_at "ev"
  rw [eq_i]
  by_cases h1 : G.length = 1
  · rw [decide_eq_true (by rw [List.length_map]; omega)]
    walk_at "ev"
    rw [show run (n + 9) .f_slopes [pD G] w = _ from e]
    have e1 : lo = .none := by
      rcases hb.x with ⟨h, _⟩ | ⟨a, b, _, _, _, _, _, ⟨n', d, f, _⟩, _⟩
      · exact h
      · exact absurd f (str1 h1 n' d)
    have e2 : hi = .none := by
      rcases hb.n with ⟨h, _⟩ | ⟨a, b, _, _, _, _, _, ⟨n', d, ⟨a1, b1, a2, b2, z, _⟩, _⟩, _⟩
      · exact h
      · exact absurd ⟨a1, b1, a2, b2, z, rfl, rfl⟩ (str1 h1 _ _)
    subst e1 e2
    walk_at "ev"
    rw [eq_same (PL.tup2 (PL.none 1) (PL.none 1)) (by decide)]
    rfl
  · rw [decide_eq_false (by rw [List.length_map]; omega)]
    walk_at "ev"
    rw [show run (n + 9) .f_slopes [pD G] w = _ from e]
    walk_at "ev"
    rcases str_iff hb.x hb.n with ⟨h2, h3, _⟩ | ⟨a, b, c', d', rfl, rfl, ⟨b1, b2, b3, b4⟩, ⟨d1, d2, d3, d4⟩, _⟩
    · -- two points give a bound
      exfalso
      subst h2
      have hx := hb.x
      rcases hx with ⟨_, hx⟩ | ⟨a, b, e', _⟩
      · have hl2 : 2 ≤ G.length := by have := hG.one; omega
        have := List.pairwise_iff_getElem.mp hG.inc 0 1 (by omega) (by omega) (by decide)
        exact hx _ _ ⟨G[0], List.getElem_mem _, G[1], List.getElem_mem _, this, rfl, rfl⟩
      · cases e'
    · obtain ⟨_, k1⟩ := line_mx hL.q0 gh hb.x
      obtain ⟨_, k2⟩ := line_mn hL.q0 gh hb.n
      walk_at "ev"
      rw [mul_i (by omega)]
      walk_at "ev"
      rw [mul_j (by omega)]
      walk_at "ev"
      rw [decide_eq_true k1]
      walk_at "ev"
      rw [mul_j (by omega)]
      walk_at "ev"
      rw [mul_i (by omega)]
      walk_at "ev"
      rw [decide_eq_true k2]
      rfl
theorem law_k01 (a0 : Nat) (ns : List Int) : isT (run 60 .f_law_k01 [.scr a0] (w0 a0 ns)) = true := by
  rw [show (60 : Nat) = 59 + 1 from rfl, run_def _ _ Bf_law_k01 rfl, runD_eq Bf_law_k01 _ _ _ _ ⟨rfl, by decide⟩ rfl rfl]
  obtain ⟨w1, e1, d1⟩ := run_start 58 a0 ns
  obtain ⟨P, w2, e2, hP, d2⟩ := run_points 55 14 w1 d1 ⟨by decide, by decide⟩
  have e2 : run 59 .f_law_points [.drw, .int 14] w1 = .ok (pD P) w2 := e2
  have t := fun p q c w (hL : LnB p q c) s0 s1 s3 s4 s7 s8 => end_k01 50 w hL hP s0 s1 s3 s4 s7 s8
  simp only [List.map_cons, List.map_nil, List.length_cons, List.length_nil, List.replicate, List.cons_append, List.nil_append, Nat.reduceAdd, Nat.reduceSub, show Bf_law_k01.nn = 11 from rfl] at t ⊢
  obtain ⟨lo, hi, e3, h1, h2⟩ := run_law_bounds 58 w2 (hP.l (by decide))
  obtain ⟨p, q, c, w3, e4, hL, d3⟩ := run_line 56 w2 d2
  have hst := run_is_straight 54 w2 (hP.pts (by decide))
  obtain ⟨told1, told2⟩ := run_told_k01 52 w2 (hP.pts (by decide))
  rw [← take_drop 8 Bf_law_k01.body]
  generalize dropB 8 Bf_law_k01.body = T at t ⊢
  unfold Bf_law_k01
  simp only [takeB]
  walk_at "ev"
  rw [e1]
  walk_at "ev"
  rw [e2]
  walk_at "ev"
  rw [e3]
  walk_at "ev"
  have lN : Lw .none := fun a b e => nomatch e
  rcases str_iff h1 h2 with ⟨rfl, rfl, hs⟩ | ⟨a, b, c', d', rfl, rfl, ⟨b1, b2, b3, b4⟩, ⟨g1, g2, g3, g4⟩, hi⟩
  · rw [@decide_eq_true _ (Classical.propDecidable _) hs] at hst
    obtain ⟨lo, hi, e5, hb⟩ := told1 hs
    obtain ⟨rfl, rfl⟩ : lo = .none ∧ hi = .none := ⟨mx_uniq Mx.pos hb.x hb.l h1 lN, mn_uniq Mn.pos hb.n hb.h h2 lN⟩
    walk_at "ev"
    rw [run_are_ptsB 56 w2 hP (by decide)]
    walk_at "ev"
    rw [hst]
    walk_at "ev"
    rw [run_law_true, decide_eq_true rfl]
    walk_at "ev"
    rw [e5]
    walk_at "ev"
    rw [ne_same (PL.tup2 (PL.none 1) (PL.none 1)) (by decide)]
    walk_at "ev"
    rw [e4]
    walk_at "ev"
    exact t p q c w3 hL _ _ _ _ _ _
  · walk_at "ev"
    rw [mul_i (by omega)]
    walk_at "ev"
    rw [mul_i (by omega)]
    walk_at "ev"
    rw [show decide (a * d' < c' * b) = @decide (Str P) (Classical.propDecidable _) from Bool.eq_iff_iff.mpr (by simp only [decide_eq_true_eq]; exact hi)]
    rw [run_are_ptsB 56 w2 hP (by decide)]
    walk_at "ev"
    rw [hst]
    walk_at "ev"
    rw [run_law_true, decide_eq_true rfl]
    walk_at "ev"
    by_cases hs : Str P
    · rw [@decide_eq_true _ (Classical.propDecidable _) hs]
      obtain ⟨x, y, x1, x2, x3, x4⟩ := mx_low h1 b1 Mx.pos
      obtain ⟨u, v, u1, u2, u3, u4⟩ := mn_low h2 g1 Mn.pos
      obtain ⟨lo, hi, e5, hb⟩ := told1 hs
      obtain ⟨rfl, rfl⟩ : lo = ofPair (x, y) ∧ hi = ofPair (u, v) := ⟨mx_uniq Mx.pos hb.x hb.l x3 x4, mn_uniq Mn.pos hb.n hb.h u3 u4⟩
      walk_at "ev"
      rw [run_law_low 57 a b w2 ⟨b1, by omega⟩, x1, x2]
      walk_at "ev"
      rw [run_law_low 57 c' d' w2 ⟨g1, by omega⟩, u1, u2]
      walk_at "ev"
      rw [e5]
      walk_at "ev"
      rw [ne_same (PL.tup2 (PL.pair _) (PL.pair _)) (by decide)]
      walk_at "ev"
      rw [e4]
      walk_at "ev"
      exact t p q c w3 hL _ _ _ _ _ _
    · rw [@decide_eq_false _ (Classical.propDecidable _) hs]
      walk_at "ev"
      rw [told2 hs]
      walk_at "ev"
      rw [bent_same]
      walk_at "ev"
      rw [e4]
      walk_at "ev"
      exact t p q c w3 hL _ _ _ _ _ _
end Px
namespace K01
open PySem Ev Px
theorem law_true : ∀ (a : Nat) (ns : List Int), ns.length ≤ 63 → isT (run 60 .f_law_k01 [.scr a] (w0 a ns)) = true := fun a ns _ => law_k01 a ns
end K01

end

section
/-! LibT: turning. -/
namespace Px
open PySem Ev
local macro_rules | `(tactic| walk_at "ev") => `(tactic| simp -implicitDefEqProofs only [e_var, e_non, e_call0, e_mkS, e_meth, e_meth0, e_srow, e_noPast, e_lenS, e_neO, s_setRow, s_appPast, s_popPast, s_popO, s_par3O, e_sset, e_fmt, e_fstr, e_join, e_split, e_bl, e_int, e_str, e_gint, e_bin, e_neg, e_not, e_cmp, e_chain, e_and, e_or, e_and1, e_or1, e_ite, e_call, e_bcall, e_isi, e_ix, e_sl, e_tup, e_lst, e_comp, e_compIf, e_lenO, e_ixO, e_ninO, e_index, e_count, e_lenum, e_lrng, e_slS, es_nil, es_cons, i_seq, i_r1, i_r2, i_r3, i_enum, i_zip, o_non, o_some, s_set, s_setO, s_parO, s_par, s_unp, s_aug, s_extO, s_app, s_stO, s_ife, s_for, s_while, s_ret, s_retN, s_expr, s_raise, s_pass, b_nil, b_cons, b_frz, lt_i, le_i, gt_i, ge_i, add_i, sub_i, neg_i, not_b, isN_p, isnN_p, isB, isnB, ix_p0, ix_p1, isN_none, isN_pair, isN_int, isN_tup, isN_lst, tup_pair, typ, len_p, u0, u1, u2, pl_nil, pl_cons, seq_l, seq_t, len_l, len_t, list_l, list_t, abs_i, enum_l, sds0, sdsC, svs0, svsC, nx_s, plainR_ok, toB_b, set0, setS, no_nil, no_c, no_v, no_o, no_u, wp_nil, wp_cons, tg1, tgT, tyi, tyib, tyil, tyit, tytt, tytl, tyll, tylt, tybb, rok, rokO, rex, rexO, finN, finT, finX, onx, ort, oex, lifs, tstb, tstbP, gv0, gvS, go0, goS, sv0, svS, Nat.reduceAdd, Option.map_some, Option.bind_some, Bool.not_true, Bool.not_false, if_true, if_false, Bool.false_eq_true, ↓reduceIte, reduceCtorEq, List.length_cons, List.length_nil, Option.map_none, decide_true, decide_false, Bool.true_and, Bool.false_and])
theorem sizeOk_L {α : Type} (g : α → PyData) {P : List α} (h : P.length ≤ 100000) : sizeOk (P.map g).length = true := sizeOk_le (by rw [List.length_map]; omega)
/-- a map of points by a comprehension -/
theorem map_pts {φ : Fn → List D → W → Res D} {ρ : Ev.Env} {w : W} {elt : ME Fn} {i j : Nat} (f : Pt → Pt) (P : List Pt) (h : ∀ p ∈ P, fC φ elt (setV (setV ρ i (.int p.1)) j (.int p.2)) w = .ok (some (ofPair (f p))) w) :
    compGo (fC φ elt) ρ (.tup [i, j]) (P.map ofPair) w = .ok ((P.map f).map ofPair) w := by
  rw [comp_map (step := fC φ elt) (w := w) ofPair (fun p => ofPair (f p)) P (fun p hp => ⟨_, rfl, h p hp⟩), List.map_map]
  rfl
abbrev mvP (r u : Int) (p : Pt) : Pt := (p.1 + r, p.2 + u)
abbrev shP (b : Int) (p : Pt) : Pt := (p.1, p.2 + b * p.1)
abbrev ovP (p : Pt) : Pt := (p.1, -p.2)
abbrev bkP (p : Pt) : Pt := (-p.1, p.2)
theorem run_checked (n : Nat) {P : List Pt} (w : W) (h : Pts P) : run (n + 4) .f_checked [pD P] w = .ok (pD P) w := by
  (rw [run_def _ _ Bf_checked rfl, runD_eq Bf_checked _ _ _ _ ⟨rfl, by decide⟩ rfl rfl]; unfold Bf_checked; simp only [List.map_cons, List.map_nil, List.length_cons, List.length_nil, List.replicate, List.cons_append, List.nil_append, Nat.reduceAdd, Nat.reduceSub])
  walk_at "ev"
  rw [run_are_points n w h]
  walk_at "ev"
theorem run_moved (n : Nat) {P : List Pt} (w : W) (r u : Int) (hr : -1000 ≤ r ∧ r ≤ 1000) (hu : -1000 ≤ u ∧ u ≤ 1000) (h : Pts P) (h2 : Pts (P.map (mvP r u))) : run (n + 5) .f_moved [pD P, .int r, .int u] w = .ok (pD (P.map (mvP r u))) w := by
  (rw [run_def _ _ Bf_moved rfl, runD_eq Bf_moved _ _ _ _ ⟨rfl, by decide⟩ rfl rfl]; unfold Bf_moved; simp only [List.map_cons, List.map_nil, List.length_cons, List.length_nil, List.replicate, List.cons_append, List.nil_append, Nat.reduceAdd, Nat.reduceSub])
  walk_at "ev"
  rw [run_check_points n w h]
  walk_at "ev"
  rw [run_is_int, decide_eq_true hr.1, decide_eq_true hr.2]
  walk_at "ev"
  rw [run_is_int, decide_eq_true hu.1, decide_eq_true hu.2]
  walk_at "ev"
  rw [if_pos (sizeOk_L _ (by have := h.most; omega)), map_pts (mvP r u) P (fun p hp => by
    unfold fC f_moved_s1
    walk_at "ev")]
  walk_at "ev"
  rw [run_checked n w h2]
  walk_at "ev"
theorem run_sheared (n : Nat) {P : List Pt} (w : W) (b : Int) (hb : -1000 ≤ b ∧ b ≤ 1000) (h : Pts P) (h2 : Pts (P.map (shP b))) : run (n + 5) .f_sheared [pD P, .int b] w = .ok (pD (P.map (shP b))) w := by
  (rw [run_def _ _ Bf_sheared rfl, runD_eq Bf_sheared _ _ _ _ ⟨rfl, by decide⟩ rfl rfl]; unfold Bf_sheared; simp only [List.map_cons, List.map_nil, List.length_cons, List.length_nil, List.replicate, List.cons_append, List.nil_append, Nat.reduceAdd, Nat.reduceSub])
  walk_at "ev"
  rw [run_check_points n w h]
  walk_at "ev"
  rw [run_is_int, decide_eq_true hb.1, decide_eq_true hb.2]
  walk_at "ev"
  rw [if_pos (sizeOk_L _ (by have := h.most; omega)), map_pts (shP b) P (fun p hp => by
    unfold fC f_sheared_s1
    walk_at "ev"
    rw [mul_i (by omega)]
    walk_at "ev")]
  walk_at "ev"
  rw [run_checked n w h2]
  walk_at "ev"
theorem run_turned_over (n : Nat) {P : List Pt} (w : W) (h : Pts P) : run (n + 5) .f_turned_over [pD P] w = .ok (pD (P.map ovP)) w := by
  (rw [run_def _ _ Bf_turned_over rfl, runD_eq Bf_turned_over _ _ _ _ ⟨rfl, by decide⟩ rfl rfl]; unfold Bf_turned_over; simp only [List.map_cons, List.map_nil, List.length_cons, List.length_nil, List.replicate, List.cons_append, List.nil_append, Nat.reduceAdd, Nat.reduceSub])
  walk_at "ev"
  rw [run_check_points n w h]
  walk_at "ev"
  rw [if_pos (sizeOk_L _ (by have := h.most; omega)), map_pts ovP P (fun p hp => by
    unfold fC f_turned_over_s1
    walk_at "ev")]
  walk_at "ev"
theorem pick_rev {α : Type} (xs : List α) : pickL xs none (some (-1)) = xs.reverse := by
  unfold pickL pickI
  rw [PySem.W.krv_bounds]
  show (sliceRange ((xs.length : Int) - 1) (-1) (-1)).filterMap (fun i => xs[i]?) = _
  rw [PySem.W.krv_sliceRange, PySem.W.krv_range, List.filterMap_reverse]
  congr 1
  have := PySem.W.krv_all xs.toArray
  simpa using this
theorem slS_rev (xs : List PyData) (h : xs.length ≤ 16000000) : slSD (.list xs) none (-1) = some (.list xs.reverse) := by
  unfold slSD
  dsimp only
  rw [pick_rev, if_pos ⟨by decide, by rw [List.length_reverse]; exact h⟩]
theorem run_backward (n : Nat) {P : List Pt} (w : W) (h : Pts P) : run (n + 5) .f_backward [pD P] w = .ok (pD (P.reverse.map bkP)) w := by
  (rw [run_def _ _ Bf_backward rfl, runD_eq Bf_backward _ _ _ _ ⟨rfl, by decide⟩ rfl rfl]; unfold Bf_backward; simp only [List.map_cons, List.map_nil, List.length_cons, List.length_nil, List.replicate, List.cons_append, List.nil_append, Nat.reduceAdd, Nat.reduceSub])
  walk_at "ev"
  rw [run_check_points n w h]
  walk_at "ev"
  rw [slS_rev _ (by rw [List.length_map]; have := h.most; omega)]
  walk_at "ev"
  rw [← List.map_reverse, if_pos (sizeOk_L _ (by rw [List.length_reverse]; have := h.most; omega)), map_pts bkP P.reverse (fun p hp => by
    unfold fC f_backward_s1
    walk_at "ev")]
  walk_at "ev"
/-! ### what follows for the bounds -/
section
variable {P : List Pt} {n d : Int}
theorem flo_mv {r u : Int} : FLo (P.map (mvP r u)) (P.map (mvP r u)) n d ↔ FLo P P n d := by
  constructor
  · rintro ⟨p, hp, q, hq, h1, h2, h3⟩
    obtain ⟨a, ha, rfl⟩ := List.mem_map.mp hp
    obtain ⟨b, hb, rfl⟩ := List.mem_map.mp hq
    dsimp only at h1 h2 h3
    exact ⟨a, ha, b, hb, by omega, by omega, by omega⟩
  · rintro ⟨a, ha, b, hb, h1, h2, h3⟩
    exact ⟨_, List.mem_map_of_mem ha, _, List.mem_map_of_mem hb, by dsimp only; omega, by dsimp only; omega, by dsimp only; omega⟩
theorem fhi_flo {P : List Pt} {n d : Int} : FHi P P n d ↔ FLo P P (n - 2) d :=
  ⟨fun ⟨p, hp, q, hq, h, h1, h2⟩ => ⟨p, hp, q, hq, h, by omega, h2⟩, fun ⟨p, hp, q, hq, h, h1, h2⟩ => ⟨p, hp, q, hq, h, by omega, h2⟩⟩
theorem fhi_mv {r u : Int} : FHi (P.map (mvP r u)) (P.map (mvP r u)) n d ↔ FHi P P n d := by rw [fhi_flo, fhi_flo, flo_mv]
theorem flo_sh {b : Int} : FLo (P.map (shP b)) (P.map (shP b)) n d ↔ FLo P P (n - b * d) d := by
  constructor
  · rintro ⟨p, hp, q, hq, h1, h2, h3⟩
    obtain ⟨x, hx, rfl⟩ := List.mem_map.mp hp
    obtain ⟨y, hy, rfl⟩ := List.mem_map.mp hq
    dsimp only at h1 h2 h3
    refine ⟨x, hx, y, hy, h1, ?_, h3⟩
    rw [h2, h3]
    grind
  · rintro ⟨x, hx, y, hy, h1, h2, h3⟩
    refine ⟨_, List.mem_map_of_mem hx, _, List.mem_map_of_mem hy, h1, ?_, h3⟩
    dsimp only
    rw [h3] at h2
    grind
theorem fhi_sh {b : Int} : FHi (P.map (shP b)) (P.map (shP b)) n d ↔ FHi P P (n - b * d) d := by
  rw [fhi_flo, fhi_flo, flo_sh, show n - 2 - b * d = n - b * d - 2 by omega]
theorem flo_ov : FLo (P.map ovP) (P.map ovP) n d ↔ FHi P P (-n) d := by
  constructor
  · rintro ⟨p, hp, q, hq, h1, h2, h3⟩
    obtain ⟨x, hx, rfl⟩ := List.mem_map.mp hp
    obtain ⟨y, hy, rfl⟩ := List.mem_map.mp hq
    dsimp only at h1 h2 h3
    exact ⟨x, hx, y, hy, h1, by omega, h3⟩
  · rintro ⟨x, hx, y, hy, h1, h2, h3⟩
    exact ⟨_, List.mem_map_of_mem hx, _, List.mem_map_of_mem hy, h1, by dsimp only; omega, h3⟩
theorem fhi_ov : FHi (P.map ovP) (P.map ovP) n d ↔ FLo P P (-n) d := by
  rw [fhi_flo, flo_ov, fhi_flo, show -(n - 2) - 2 = -n by omega]
theorem flo_bk : FLo (P.reverse.map bkP) (P.reverse.map bkP) n d ↔ FHi P P (-n) d := by
  constructor
  · rintro ⟨p, hp, q, hq, h1, h2, h3⟩
    obtain ⟨x, hx, rfl⟩ := List.mem_map.mp hp
    obtain ⟨y, hy, rfl⟩ := List.mem_map.mp hq
    rw [List.mem_reverse] at hx hy
    dsimp only at h1 h2 h3
    exact ⟨y, hy, x, hx, by omega, by omega, by omega⟩
  · rintro ⟨x, hx, y, hy, h1, h2, h3⟩
    exact ⟨_, List.mem_map_of_mem (List.mem_reverse.mpr hy), _, List.mem_map_of_mem (List.mem_reverse.mpr hx), by dsimp only; omega, by dsimp only; omega, by dsimp only; omega⟩
theorem fhi_bk : FHi (P.reverse.map bkP) (P.reverse.map bkP) n d ↔ FLo P P (-n) d := by
  rw [fhi_flo, flo_bk, fhi_flo, show -(n - 2) - 2 = -n by omega]
end
theorem str_mv {P : List Pt} {r u : Int} : Str (P.map (mvP r u)) ↔ Str P :=
  ⟨fun h n d f n' d' f' => h n d (flo_mv.mpr f) n' d' (fhi_mv.mpr f'), fun h n d f n' d' f' => h n d (flo_mv.mp f) n' d' (fhi_mv.mp f')⟩
theorem str_sh {P : List Pt} {b : Int} : Str (P.map (shP b)) ↔ Str P := by
  constructor
  · intro h n d f n' d' f'
    have := h (n + b * d) d (flo_sh.mpr (by rw [Int.add_sub_cancel]; exact f)) (n' + b * d') d' (fhi_sh.mpr (by rw [Int.add_sub_cancel]; exact f'))
    grind
  · intro h n d f n' d' f'
    have := h _ d (flo_sh.mp f) _ d' (fhi_sh.mp f')
    grind
theorem str_ov {P : List Pt} : Str (P.map ovP) ↔ Str P := by
  constructor
  · intro h n d f n' d' f'
    have := h (-n') d' (flo_ov.mpr (by rw [Int.neg_neg]; exact f')) (-n) d (fhi_ov.mpr (by rw [Int.neg_neg]; exact f))
    grind
  · intro h n d f n' d' f'
    have := h _ d' (fhi_ov.mp f') _ d (flo_ov.mp f)
    grind
theorem str_bk {P : List Pt} : Str (P.reverse.map bkP) ↔ Str P := by
  constructor
  · intro h n d f n' d' f'
    have := h (-n') d' (flo_bk.mpr (by rw [Int.neg_neg]; exact f')) (-n) d (fhi_bk.mpr (by rw [Int.neg_neg]; exact f))
    grind
  · intro h n d f n' d' f'
    have := h _ d' (fhi_bk.mp f') _ d (flo_bk.mp f)
    grind
/-- the greatest, without bounds on the numbers -/
structure MxW (F : Int → Int → Prop) (a b : Int) : Prop where
  b0 : 0 < b
  at_ : ∃ n d, F n d ∧ a * d = n * b
  le : ∀ n d, F n d → n * b ≤ a * d
structure MnW (F : Int → Int → Prop) (a b : Int) : Prop where
  b0 : 0 < b
  at_ : ∃ n d, F n d ∧ a * d = n * b
  le : ∀ n d, F n d → a * d ≤ n * b
theorem Mx.w {F : Int → Int → Prop} {a b : Int} (h : Mx F (ofPair (a, b))) : MxW F a b := by
  rcases h with ⟨e, _⟩ | ⟨a', b', e, b0, _, _, _, h1, h2⟩
  · cases e
  · cases ofPair_inj e
    exact ⟨b0, h1, h2⟩
theorem Mn.w {F : Int → Int → Prop} {a b : Int} (h : Mn F (ofPair (a, b))) : MnW F a b := by
  rcases h with ⟨e, _⟩ | ⟨a', b', e, b0, _, _, _, h1, h2⟩
  · cases e
  · cases ofPair_inj e
    exact ⟨b0, h1, h2⟩
theorem mxw_eq {F : Int → Int → Prop} (hF : ∀ n d, F n d → 0 < d) {o : PyData} {a b : Int} (h : Mx F o) (l : Lw o) (h' : MxW F a b) (g : Int.gcd a b = 1) : o = ofPair (a, b) := by
  obtain ⟨b0, ⟨n, d, f1, f2⟩, f3⟩ := h'
  rcases h with ⟨rfl, e⟩ | ⟨a', b', rfl, b0', _, _, _, ⟨n', d', f1', f2'⟩, f3'⟩
  · exact absurd f1 (e n d)
  · have q1 : a' * b ≤ a * b' := frac_tr b0' (hF _ _ f1') b0 (by omega) (f3 n' d' f1')
    have q2 : a * b' ≤ a' * b := frac_tr b0 (hF _ _ f1) b0' (by omega) (f3' n d f1)
    obtain ⟨rfl, rfl⟩ := low_uniq b0' b0 (l a' b' rfl) g (by omega)
    rfl
theorem mnw_eq {F : Int → Int → Prop} (hF : ∀ n d, F n d → 0 < d) {o : PyData} {a b : Int} (h : Mn F o) (l : Lw o) (h' : MnW F a b) (g : Int.gcd a b = 1) : o = ofPair (a, b) := by
  obtain ⟨b0, ⟨n, d, f1, f2⟩, f3⟩ := h'
  rcases h with ⟨rfl, e⟩ | ⟨a', b', rfl, b0', _, _, _, ⟨n', d', f1', f2'⟩, f3'⟩
  · exact absurd f1 (e n d)
  · have q1 : a' * b ≤ a * b' := frac_tr b0' (hF _ _ f1) b0 (f3' n d f1) (by omega)
    have q2 : a * b' ≤ a' * b := frac_tr b0 (hF _ _ f1') b0' (f3 n' d' f1') (by omega)
    obtain ⟨rfl, rfl⟩ := low_uniq b0' b0 (l a' b' rfl) g (by omega)
    rfl
theorem gcd_sh (a b k : Int) : Int.gcd (a + k * b) b = Int.gcd a b := by
  rw [Int.add_comm, gcd_step, Int.gcd_comm]
/-- the bounds of the sheared ones -/
theorem bd_sh {P : List Pt} {k a b c e : Int} (h : Bd P (ofPair (a, b)) (ofPair (c, e))) {lo hi : PyData} (h' : Bd (P.map (shP k)) lo hi) : lo = ofPair (a + k * b, b) ∧ hi = ofPair (c + k * e, e) := by
  obtain ⟨b0, ⟨n, d, f1, f2⟩, f3⟩ := h.x.w
  obtain ⟨e0, ⟨n', d', f1', f2'⟩, f3'⟩ := h.n.w
  refine ⟨mxw_eq Mx.pos h'.x h'.l ⟨b0, ⟨n + k * d, d, flo_sh.mpr (by rw [Int.add_sub_cancel]; exact f1), by grind⟩, fun x y f => ?_⟩ (by rw [gcd_sh]; exact h.l a b rfl),
    mnw_eq Mn.pos h'.n h'.h ⟨e0, ⟨n' + k * d', d', fhi_sh.mpr (by rw [Int.add_sub_cancel]; exact f1'), by grind⟩, fun x y f => ?_⟩ (by rw [gcd_sh]; exact h.h c e rfl)⟩
  · have := f3 _ y (flo_sh.mp f)
    grind
  · have := f3' _ y (fhi_sh.mp f)
    grind
theorem bd_mv {P : List Pt} {r u : Int} {lo hi : PyData} (h : Bd P lo hi) {lo' hi' : PyData} (h' : Bd (P.map (mvP r u)) lo' hi') : lo' = lo ∧ hi' = hi := by
  have h2 : Bd P lo' hi' := ⟨Mx.iff h'.x fun n d => flo_mv, Mn.iff h'.n fun n d => fhi_mv, h'.l, h'.h⟩
  obtain ⟨z1, z2⟩ := h2.uniq h
  exact ⟨z1, z2⟩
theorem gcd_neg' (a b : Int) : Int.gcd (-a) b = Int.gcd a b := Int.neg_gcd
/-- the bounds of mirrored ones -/
theorem bd_neg {P Q : List Pt} {a b c e : Int} (h : Bd P (ofPair (a, b)) (ofPair (c, e))) {lo hi : PyData} (h' : Bd Q lo hi) (q1 : ∀ n d, FLo Q Q n d ↔ FHi P P (-n) d) (q2 : ∀ n d, FHi Q Q n d ↔ FLo P P (-n) d) : lo = ofPair (-c, e) ∧ hi = ofPair (-a, b) := by
  obtain ⟨b0, ⟨n, d, f1, f2⟩, f3⟩ := h.x.w
  obtain ⟨e0, ⟨n', d', f1', f2'⟩, f3'⟩ := h.n.w
  refine ⟨mxw_eq Mx.pos h'.x h'.l ⟨e0, ⟨-n', d', (q1 _ _).mpr (by rw [Int.neg_neg]; exact f1'), by grind⟩, fun x y f => ?_⟩ (by rw [gcd_neg']; exact h.h c e rfl),
    mnw_eq Mn.pos h'.n h'.h ⟨b0, ⟨-n, d, (q2 _ _).mpr (by rw [Int.neg_neg]; exact f1), by grind⟩, fun x y f => ?_⟩ (by rw [gcd_neg']; exact h.l a b rfl)⟩
  · have := f3' _ y ((q1 _ _).mp f)
    grind
  · have := f3 _ y ((q2 _ _).mp f)
    grind
end Px

end

section
/-! LibO: offsets, the leanest line. -/
namespace Px
open PySem Ev
local macro_rules | `(tactic| walk_at "ev") => `(tactic| simp -implicitDefEqProofs only [e_var, e_non, e_call0, e_mkS, e_meth, e_meth0, e_srow, e_noPast, e_lenS, e_neO, s_setRow, s_appPast, s_popPast, s_popO, s_par3O, e_sset, e_fmt, e_fstr, e_join, e_split, e_bl, e_int, e_str, e_gint, e_bin, e_neg, e_not, e_cmp, e_chain, e_and, e_or, e_and1, e_or1, e_ite, e_call, e_bcall, e_isi, e_ix, e_sl, e_tup, e_lst, e_comp, e_compIf, e_lenO, e_ixO, e_ninO, e_index, e_count, e_lenum, e_lrng, e_slS, es_nil, es_cons, i_seq, i_r1, i_r2, i_r3, i_enum, i_zip, o_non, o_some, s_set, s_setO, s_parO, s_par, s_unp, s_aug, s_extO, s_app, s_stO, s_ife, s_for, s_while, s_ret, s_retN, s_expr, s_raise, s_pass, b_nil, b_cons, b_frz, lt_i, le_i, gt_i, ge_i, add_i, sub_i, neg_i, not_b, isN_p, isnN_p, isB, isnB, ix_p0, ix_p1, isN_none, isN_pair, isN_int, isN_tup, isN_lst, tup_pair, typ, len_p, u0, u1, u2, pl_nil, pl_cons, seq_l, seq_t, len_l, len_t, list_l, list_t, abs_i, enum_l, sds0, sdsC, svs0, svsC, nx_s, plainR_ok, toB_b, set0, setS, no_nil, no_c, no_v, no_o, no_u, wp_nil, wp_cons, tg1, tgT, tyi, tyib, tyil, tyit, tytt, tytl, tyll, tylt, tybb, rok, rokO, rex, rexO, finN, finT, finX, onx, ort, oex, lifs, tstb, tstbP, gv0, gvS, go0, goS, sv0, svS, Nat.reduceAdd, Option.map_some, Option.bind_some, Bool.not_true, Bool.not_false, if_true, if_false, Bool.false_eq_true, ↓reduceIte, reduceCtorEq, List.length_cons, List.length_nil, Option.map_none, decide_true, decide_false, Bool.true_and, Bool.false_and])
theorem mxL_mem {l : List Int} (h : l ≠ []) : mxL l ∈ l := by
  cases l with
  | nil => exact absurd rfl h
  | cons x r => exact maxI_mem r x
theorem mxL_ge {l : List Int} {x : Int} (h : x ∈ l) : x ≤ mxL l := by
  cases l with
  | nil => cases h
  | cons y r => exact maxI_ge r y x h
theorem mnL_mem {l : List Int} (h : l ≠ []) : mnL l ∈ l := by
  cases l with
  | nil => exact absurd rfl h
  | cons x r => exact minI_mem r x
theorem mnL_le {l : List Int} {x : Int} (h : x ∈ l) : mnL l ≤ x := by
  cases l with
  | nil => cases h
  | cons y r => exact minI_le r y x h
/-- the least, the greatest c -/
def oL (P : List Pt) (p q : Int) : Int := mxL (P.map fun t => q * t.2 - p * t.1)
def oH (P : List Pt) (p q : Int) : Int := mnL (P.map fun t => q * (t.2 + 1) - p * t.1) - 1
section
variable {P : List Pt} {p q : Int}
theorem oL_le (c : Int) (h : 1 ≤ P.length) : oL P p q ≤ c ↔ ∀ t ∈ P, q * t.2 ≤ p * t.1 + c := by
  unfold oL
  have hne : (P.map fun t => q * t.2 - p * t.1) ≠ [] := fun z => by
    have := congrArg List.length z
    rw [List.length_map] at this
    simp at this
    simp [this] at h
  constructor
  · intro h t ht
    have := mxL_ge (List.mem_map_of_mem (f := fun t : Pt => q * t.2 - p * t.1) ht)
    omega
  · intro h
    obtain ⟨t, ht, e⟩ := List.mem_map.mp (mxL_mem hne)
    have := h t ht
    omega
theorem le_oH (c : Int) (h : 1 ≤ P.length) : c ≤ oH P p q ↔ ∀ t ∈ P, p * t.1 + c < q * (t.2 + 1) := by
  unfold oH
  have hne : (P.map fun t => q * (t.2 + 1) - p * t.1) ≠ [] := fun z => by
    have := congrArg List.length z
    rw [List.length_map] at this
    simp at this
    simp [this] at h
  constructor
  · intro h t ht
    have := mnL_le (List.mem_map_of_mem (f := fun t : Pt => q * (t.2 + 1) - p * t.1) ht)
    omega
  · intro h
    obtain ⟨t, ht, e⟩ := List.mem_map.mp (mnL_mem hne)
    have := h t ht
    omega
theorem ht_iff {x y c : Int} (hq : 0 < q) : ht p q c x = y ↔ q * y ≤ p * x + c ∧ p * x + c < q * (y + 1) := by
  have h := ht_bd (p := p) (c := c) (x := x) hq
  constructor
  · rintro rfl
    constructor
    · exact h.1
    · grind
  · intro ⟨h1, h2⟩
    generalize ht p q c x = z at h ⊢
    have e1 : q * z < q * (y + 1) := by omega
    have e2 : q * y < q * (z + 1) := by rw [Int.mul_add, Int.mul_one]; omega
    have := Int.lt_of_mul_lt_mul_left e1 (Int.le_of_lt hq)
    have := Int.lt_of_mul_lt_mul_left e2 (Int.le_of_lt hq)
    omega
/-- a c explains exactly between the least and the greatest -/
theorem ex_iff {c : Int} (hq : 0 < q) (h : 1 ≤ P.length) : (∀ t ∈ P, ht p q c t.1 = t.2) ↔ oL P p q ≤ c ∧ c ≤ oH P p q := by
  rw [oL_le c h, le_oH c h]
  exact ⟨fun g => ⟨fun t m => ((ht_iff hq).mp (g t m)).1, fun t m => ((ht_iff hq).mp (g t m)).2⟩, fun g t m => (ht_iff hq).mpr ⟨g.1 t m, g.2 t m⟩⟩
theorem pts_inj (h : P.Pairwise fun p q => p.1 < q.1) {s t : Pt} (hs : s ∈ P) (ht : t ∈ P) (z : s.1 = t.1) : s = t := by
  obtain ⟨i, hi, rfl⟩ := List.getElem_of_mem hs
  obtain ⟨j, hj, rfl⟩ := List.getElem_of_mem ht
  rw [List.pairwise_iff_getElem] at h
  rcases Nat.lt_trichotomy i j with g | g | g
  · have := h i j hi hj g
    omega
  · subst g
    rfl
  · have := h j i hj hi g
    omega
/-- there is one exactly for a slope between the bounds -/
theorem off_iff (hq : 0 < q) (h : 1 ≤ P.length) (hi : P.Pairwise fun p q => p.1 < q.1) : oL P p q ≤ oH P p q ↔ (∀ n d, FLo P P n d → n * q < p * d) ∧ ∀ n d, FHi P P n d → p * d < n * q := by
  constructor
  · intro g
    have := (ex_iff (c := oL P p q) hq h).mpr ⟨Int.le_refl _, g⟩
    exact ⟨fun n d f => line_lo hq this f, fun n d f => line_hi hq this f⟩
  · intro ⟨g1, g2⟩
    refine (oL_le _ h).mpr fun s hs => ?_
    have k : ∀ t ∈ P, p * t.1 + (q * s.2 - p * s.1) < q * (t.2 + 1) := fun t ht => by
      rcases Int.lt_trichotomy s.1 t.1 with z | z | z
      · have := g2 _ _ ⟨s, hs, t, ht, z, rfl, rfl⟩
        grind
      · rw [pts_inj hi hs ht z]
        grind
      · have := g1 _ _ ⟨t, ht, s, hs, z, rfl, rfl⟩
        grind
    have := (le_oH (q * s.2 - p * s.1) h).mpr k
    omega
end
/-- a slope's offsets -/
theorem run_offsetsG (n : Nat) {P : List Pt} {p q : Int} (w : W) (h1 : 1 ≤ P.length) (hP : PtsG P) (hp : -(2 ^ 60) < p ∧ p < 2 ^ 60) (hq : -(2 ^ 60) < q ∧ q < 2 ^ 60) : run (n + 1) .f_offsets [pD P, .p (ofPair (p, q))] w = .ok (.tup [.int (oL P p q), .int (oH P p q)]) w := by
  have h2 := hP.most
  have ne : ∀ f : Pt → Int, P.map f ≠ [] := fun f z => by
    have := congrArg List.length z
    rw [List.length_map, List.length_nil] at this
    omega
  (rw [run_def _ _ Bf_offsets rfl, runD_eq Bf_offsets _ _ _ _ ⟨rfl, by decide⟩ rfl rfl]; unfold Bf_offsets; simp only [List.map_cons, List.map_nil, List.length_cons, List.length_nil, List.replicate, List.cons_append, List.nil_append, Nat.reduceAdd, Nat.reduceSub])
  walk_at "ev"
  rw [show ofPair (p, q) = .tuple [.int p, .int q] from rfl]
  dsimp only
  walk_at "ev"
  rw [if_pos (sizeOk_L _ (by omega)), comp_map (step := fC (run n) f_offsets_s1) (w := w) ofPair (fun t => .int (q * t.2 - p * t.1)) P (fun t ht => by
    refine ⟨_, rfl, ?_⟩
    unfold fC f_offsets_s1
    walk_at "ev"
    rw [mul_i (by omega)]
    walk_at "ev"
    rw [mul_i (by omega)]
    walk_at "ev")]
  walk_at "ev"
  rw [show P.map (fun t => PyData.int (q * t.2 - p * t.1)) = (P.map fun t => q * t.2 - p * t.1).map PyData.int by rw [List.map_map]; rfl, max_L _ (ne _)]
  walk_at "ev"
  rw [if_pos (sizeOk_L _ (by omega)), comp_map (step := fC (run n) f_offsets_s2) (w := w) ofPair (fun t => .int (q * (t.2 + 1) - p * t.1)) P (fun t ht => by
    refine ⟨_, rfl, ?_⟩
    unfold fC f_offsets_s2
    walk_at "ev"
    rw [mul_i (by omega)]
    walk_at "ev"
    rw [mul_i (by omega)]
    walk_at "ev")]
  walk_at "ev"
  rw [show P.map (fun t => PyData.int (q * (t.2 + 1) - p * t.1)) = (P.map fun t => q * (t.2 + 1) - p * t.1).map PyData.int by rw [List.map_map]; rfl, min_L _ (ne _)]
  walk_at "ev"
  rfl
theorem run_offsets (n : Nat) {P : List Pt} {p q : Int} (w : W) (hP : Pts P) (hp : -(2 ^ 60) < p ∧ p < 2 ^ 60) (hq : -(2 ^ 60) < q ∧ q < 2 ^ 60) : run (n + 1) .f_offsets [pD P, .p (ofPair (p, q))] w = .ok (.tup [.int (oL P p q), .int (oH P p q)]) w := run_offsetsG n w hP.one hP.g hp hq
theorem mx_lt {F : Int → Int → Prop} (hF : ∀ n d, F n d → 0 < d) {a b x y : Int} (h : MxW F a b) (hy : 0 < y) : (∀ n d, F n d → n * y < x * d) ↔ a * y < x * b := by
  obtain ⟨b0, ⟨n, d, f, e⟩, le⟩ := h
  constructor
  · intro g
    have h1 := g n d f
    have hd := hF n d f
    refine ltm hd ?_
    have h2 : n * y * b < x * d * b := mlt h1 b0
    have : a * y * d = n * y * b := by grind
    have : x * b * d = x * d * b := by grind
    omega
  · intro g n' d' f'
    have hd := hF n' d' f'
    have h1 : n' * b * y ≤ a * d' * y := mle (le n' d' f') (Int.le_of_lt hy)
    have h2 : a * y * d' < x * b * d' := mlt g hd
    refine ltm b0 ?_
    have : n' * y * b = n' * b * y := by grind
    have : a * d' * y = a * y * d' := by grind
    have : x * d' * b = x * b * d' := by grind
    omega
theorem mn_lt {F : Int → Int → Prop} (hF : ∀ n d, F n d → 0 < d) {a b x y : Int} (h : MnW F a b) (hy : 0 < y) : (∀ n d, F n d → x * d < n * y) ↔ x * b < a * y := by
  obtain ⟨b0, ⟨n, d, f, e⟩, le⟩ := h
  constructor
  · intro g
    have h1 := g n d f
    have hd := hF n d f
    refine ltm hd ?_
    have h2 : x * d * b < n * y * b := mlt h1 b0
    have : a * y * d = n * y * b := by grind
    have : x * b * d = x * d * b := by grind
    omega
  · intro g n' d' f'
    have hd := hF n' d' f'
    have h1 : a * d' * y ≤ n' * b * y := mle (le n' d' f') (Int.le_of_lt hy)
    have h2 : x * b * d' < a * y * d' := mlt g hd
    refine ltm b0 ?_
    have : n' * y * b = n' * b * y := by grind
    have : a * d' * y = a * y * d' := by grind
    have : x * d' * b = x * b * d' := by grind
    omega
/-- the slopes that explain: those between the bounds -/
def Slp (P : List Pt) (x y : Int) : Prop := (∀ n d, FLo P P n d → n * y < x * d) ∧ ∀ n d, FHi P P n d → x * d < n * y
theorem slp_bt {P : List Pt} {a b c d x y : Int} (h1 : Mx (FLo P P) (ofPair (a, b))) (h2 : Mn (FHi P P) (ofPair (c, d))) (hy : 0 < y) : Slp P x y ↔ Bt a b c d x y := by
  unfold Slp Bt
  rw [mx_lt Mx.pos h1.w hy, mn_lt Mn.pos h2.w hy]
/-- the leanest slope -/
structure Lean (P : List Pt) (x y : Int) : Prop where
  q0 : 0 < y
  q1 : y ≤ 4000
  g : Int.gcd x y = 1
  slp : Slp P x y
  min : ∀ x' y', 0 < y' → Slp P x' y' → y ≤ y'
  num : ∀ x', Slp P x' y → x.natAbs ≤ x'.natAbs
theorem run_leanestG (n : Nat) {P : List Pt} (w : W) (ho : 1 ≤ P.length) (hP : PtsG P) (hs : Str P) : ∃ x y, run (n + 27) .f_leanest [pD P] w = .ok (lnD x y (oL P x y)) w ∧ Lean P x y ∧ -1600000000000 ≤ x ∧ x ≤ 1600000000000 := by
  obtain ⟨lo, hi, e, h1, h2, _, _⟩ := run_boundsG (n + 23) w hP
  rcases str_iff h1 h2 with ⟨rfl, rfl, _⟩ | ⟨a, b, c, d, rfl, rfl, ⟨b1, b2, b3, b4⟩, ⟨d1, d2, d3, d4⟩, st⟩
  · refine ⟨0, 1, ?_, ⟨by decide, by decide, rfl, ?_, ?_, ?_⟩, by decide, by decide⟩
    · (rw [run_def _ _ Bf_leanest rfl, runD_eq Bf_leanest _ _ _ _ ⟨rfl, by decide⟩ rfl rfl]; unfold Bf_leanest; simp only [List.map_cons, List.map_nil, List.length_cons, List.length_nil, List.replicate, List.cons_append, List.nil_append, Nat.reduceAdd, Nat.reduceSub])
      walk_at "ev"
      rw [e]
      walk_at "ev"
      rw [run_offsetsG (n + 25) w ho hP (by decide) (by decide)]
      walk_at "ev"
    · rcases h1 with ⟨_, h1⟩ | ⟨_, _, z, _⟩
      · rcases h2 with ⟨_, h2⟩ | ⟨_, _, z, _⟩
        · exact ⟨fun n d f => absurd f (h1 n d), fun n d f => absurd f (h2 n d)⟩
        · cases z
      · cases z
    · intro x' y' h _
      omega
    · intro x' _
      exact Nat.zero_le _
  · obtain ⟨x, y, e2, sm, g⟩ := run_simplest_in n a b c d w ⟨b1, by omega⟩ ⟨d1, by omega⟩ (by omega) (by omega) (st.mpr hs)
    have hy := sm.pos
    have hy2 : y ≤ b + d := sm.min _ _ (by omega) (bt_mid (st.mpr hs))
    obtain ⟨k1, k2⟩ := sm.bt
    have hx : -1600000000000 ≤ x ∧ x ≤ 1600000000000 := by
      have m1 : -200000001 * y ≤ a * y := mle (by omega) (by omega)
      have m2 : c * y ≤ 200000001 * y := mle (by omega) (by omega)
      constructor
      · rcases Int.lt_or_le x 0 with z | z
        · have : x * b ≤ x * 1 := Int.mul_le_mul_of_nonpos_left (by omega) (by omega)
          omega
        · omega
      · rcases Int.lt_or_le 0 x with z | z
        · have : x * 1 ≤ x * d := Int.mul_le_mul_of_nonneg_left (by omega) (by omega)
          omega
        · omega
    refine ⟨x, y, ?_, ⟨hy, by omega, g, (slp_bt h1 h2 hy).mpr sm.bt, fun x' y' h f => sm.min x' y' h ((slp_bt h1 h2 h).mp f), fun x' f => sm.num x' ((slp_bt h1 h2 hy).mp f)⟩, by omega, by omega⟩
    (rw [run_def _ _ Bf_leanest rfl, runD_eq Bf_leanest _ _ _ _ ⟨rfl, by decide⟩ rfl rfl]; unfold Bf_leanest; simp only [List.map_cons, List.map_nil, List.length_cons, List.length_nil, List.replicate, List.cons_append, List.nil_append, Nat.reduceAdd, Nat.reduceSub])
    walk_at "ev"
    rw [e]
    walk_at "ev"
    rw [e2]
    walk_at "ev"
    rw [run_offsetsG (n + 25) w ho hP (by omega) (by omega)]
    walk_at "ev"
theorem run_leanest (n : Nat) {P : List Pt} (w : W) (hP : Pts P) (hs : Str P) : ∃ x y, run (n + 27) .f_leanest [pD P] w = .ok (lnD x y (oL P x y)) w ∧ Lean P x y ∧ -1600000000000 ≤ x ∧ x ≤ 1600000000000 := run_leanestG n w hP.one hP.g hs
theorem run_leanest_line (n : Nat) {P : List Pt} (w : W) (hP : Pts P) (hs : Str P) : ∃ x y, run (n + 28) .f_leanest_line [pD P] w = .ok (lnD x y (oL P x y)) w ∧ Lean P x y ∧ -1600000000000 ≤ x ∧ x ≤ 1600000000000 := by
  obtain ⟨x, y, e, h, x1, x2⟩ := run_leanest n w hP hs
  refine ⟨x, y, ?_, h, by omega, by omega⟩
  (rw [run_def _ _ Bf_leanest_line rfl, runD_eq Bf_leanest_line _ _ _ _ ⟨rfl, by decide⟩ rfl rfl]; unfold Bf_leanest_line; simp only [List.map_cons, List.map_nil, List.length_cons, List.length_nil, List.replicate, List.cons_append, List.nil_append, Nat.reduceAdd, Nat.reduceSub])
  walk_at "ev"
  rw [run_check_points (n + 23) w hP]
  walk_at "ev"
  rw [run_check_straight (n + 22) w hP, if_pos hs]
  walk_at "ev"
  rw [e]
  walk_at "ev"
theorem run_leanest_line_exc (n : Nat) {P : List Pt} (w : W) (hP : Pts P) (hs : ¬ Str P) : run (n + 6) .f_leanest_line [pD P] w = .exc 5 w := by
  (rw [run_def _ _ Bf_leanest_line rfl, runD_eq Bf_leanest_line _ _ _ _ ⟨rfl, by decide⟩ rfl rfl]; unfold Bf_leanest_line; simp only [List.map_cons, List.map_nil, List.length_cons, List.length_nil, List.replicate, List.cons_append, List.nil_append, Nat.reduceAdd, Nat.reduceSub])
  walk_at "ev"
  rw [run_check_points (n + 1) w hP]
  walk_at "ev"
  rw [run_check_straight n w hP, if_neg hs]
  walk_at "ev"
theorem run_offsets_for (n : Nat) {P : List Pt} {p q : Int} (w : W) (hP : Pts P) (hp : -1000000000 ≤ p ∧ p ≤ 1000000000) (hq : 1 ≤ q ∧ q < 1000000) (hg : Int.gcd p q = 1) : run (n + 5) .f_offsets_for [pD P, .p (ofPair (p, q))] w = if oL P p q ≤ oH P p q then .ok (.tup [.int (oL P p q), .int (oH P p q)]) w else .exc 6 w := by
  (rw [run_def _ _ Bf_offsets_for rfl, runD_eq Bf_offsets_for _ _ _ _ ⟨rfl, by decide⟩ rfl rfl]; unfold Bf_offsets_for; simp only [List.map_cons, List.map_nil, List.length_cons, List.length_nil, List.replicate, List.cons_append, List.nil_append, Nat.reduceAdd, Nat.reduceSub])
  walk_at "ev"
  rw [run_check_points n w hP]
  walk_at "ev"
  rw [run_check_fraction (n + 1) p q w hp hq hg]
  walk_at "ev"
  rw [run_offsets (n + 3) w hP (by omega) (by omega)]
  walk_at "ev"
  simp only [ofPair]
  walk_at "ev"
  by_cases h : oL P p q ≤ oH P p q
  · rw [decide_eq_false (by omega), if_pos h]
    walk_at "ev"
  · rw [decide_eq_true (by omega), if_neg h]
    walk_at "ev"
theorem run_told_k02 (n : Nat) {P : List Pt} {p q : Int} (w : W) (hP : Pts P) (hp : -1000000000 ≤ p ∧ p ≤ 1000000000) (hq : 1 ≤ q ∧ q < 1000000) (hg : Int.gcd p q = 1) : run (n + 6) .f_law_told_k02 [pD P, .p (ofPair (p, q))] w = .ok (if oL P p q ≤ oH P p q then .tup [.int (oL P p q), .int (oH P p q)] else .str "none") w := by
  have e := run_offsets_for n w hP hp hq hg
  by_cases h : oL P p q ≤ oH P p q
  · rw [if_pos h] at e ⊢
    (rw [run_def _ _ Bf_law_told_k02 rfl, runD_eq Bf_law_told_k02 _ _ _ _ ⟨rfl, by decide⟩ rfl rfl]; unfold Bf_law_told_k02; simp only [List.map_cons, List.map_nil, List.length_cons, List.length_nil, List.replicate, List.cons_append, List.nil_append, Nat.reduceAdd, Nat.reduceSub])
    walk_at "ev"
    rw [try_ok (ρ' := [.val (pD P), .val (.p (ofPair (p, q))), .val (.tup [.int (oL P p q), .int (oH P p q)]), .val .non, .un]) (w' := w) (by
      walk_at "ev"
      rw [e]
      walk_at "ev")]
    walk_at "ev"
  · rw [if_neg h] at e ⊢
    (rw [run_def _ _ Bf_law_told_k02 rfl, runD_eq Bf_law_told_k02 _ _ _ _ ⟨rfl, by decide⟩ rfl rfl]; unfold Bf_law_told_k02; simp only [List.map_cons, List.map_nil, List.length_cons, List.length_nil, List.replicate, List.cons_append, List.nil_append, Nat.reduceAdd, Nat.reduceSub])
    walk_at "ev"
    rw [try_exc (ρ' := [.val (pD P), .val (.p (ofPair (p, q))), .val .non, .val .non, .un]) (w' := w) (c := 6) (by
      walk_at "ev"
      rw [e]
      walk_at "ev") (by decide) (by simp)]
    walk_at "ev"
    rw [show cmpV .is_ (.exc 6) .non = some (.bl false) from rfl]
    walk_at "ev"
    rw [run_law_error (n + 4) 6 w (by decide)]
    rfl
theorem run_told_k03 (n : Nat) {P : List Pt} (w : W) (hP : Pts P) : (Str P → ∃ x y, run (n + 29) .f_law_told_k03 [pD P] w = .ok (lnD x y (oL P x y)) w ∧ Lean P x y ∧ -1600000000000 ≤ x ∧ x ≤ 1600000000000) ∧ (¬ Str P → run (n + 7) .f_law_told_k03 [pD P] w = .ok (.str "bent") w) := by
  constructor
  · intro hs
    obtain ⟨x, y, e, h⟩ := run_leanest_line n w hP hs
    refine ⟨x, y, ?_, h⟩
    (rw [run_def _ _ Bf_law_told_k03 rfl, runD_eq Bf_law_told_k03 _ _ _ _ ⟨rfl, by decide⟩ rfl rfl]; unfold Bf_law_told_k03; simp only [List.map_cons, List.map_nil, List.length_cons, List.length_nil, List.replicate, List.cons_append, List.nil_append, Nat.reduceAdd, Nat.reduceSub])
    walk_at "ev"
    rw [try_ok (ρ' := [.val (pD P), .val (lnD x y (oL P x y)), .val .non, .un]) (w' := w) (by
      walk_at "ev"
      rw [e]
      walk_at "ev")]
    walk_at "ev"
  · intro hs
    have e := run_leanest_line_exc n w hP hs
    (rw [run_def _ _ Bf_law_told_k03 rfl, runD_eq Bf_law_told_k03 _ _ _ _ ⟨rfl, by decide⟩ rfl rfl]; unfold Bf_law_told_k03; simp only [List.map_cons, List.map_nil, List.length_cons, List.length_nil, List.replicate, List.cons_append, List.nil_append, Nat.reduceAdd, Nat.reduceSub])
    walk_at "ev"
    rw [try_exc (ρ' := [.val (pD P), .val .non, .val .non, .un]) (w' := w) (c := 5) (by
      walk_at "ev"
      rw [e]
      walk_at "ev") (by decide) (by simp)]
    walk_at "ev"
    rw [show cmpV .is_ (.exc 5) .non = some (.bl false) from rfl]
    walk_at "ev"
    rw [run_law_error (n + 5) 5 w (by decide)]
    rfl
theorem run_height_at (n : Nat) {p q c x : Int} (w : W) (h : LnOk p q c) (hx : -1000000000 ≤ x ∧ x ≤ 1000000000) : run (n + 4) .f_height_at [lnD p q c, .int x] w = .ok (.int (ht p q c x)) w := by
  (rw [run_def _ _ Bf_height_at rfl, runD_eq Bf_height_at _ _ _ _ ⟨rfl, by decide⟩ rfl rfl]; unfold Bf_height_at; simp only [List.map_cons, List.map_nil, List.length_cons, List.length_nil, List.replicate, List.cons_append, List.nil_append, Nat.reduceAdd, Nat.reduceSub])
  walk_at "ev"
  rw [run_check_line n w h]
  walk_at "ev"
  rw [run_is_int, decide_eq_true (show (-1000000000 : Int) ≤ x by omega), decide_eq_true (show x ≤ 1000000000 by omega)]
  walk_at "ev"
  rw [mul_i (by have := h.p0; have := h.p1; omega)]
  walk_at "ev"
  rw [fdiv_i ⟨h.q0, by have := h.q1; omega⟩]
  walk_at "ev"
theorem run_law_height (n : Nat) {p q c x : Int} (w : W) (h : LnOk p q c) : run (n + 1) .f_law_height [lnD p q c, .int x] w = .ok (.int (ht p q c x)) w := by
  (rw [run_def _ _ Bf_law_height rfl, runD_eq Bf_law_height _ _ _ _ ⟨rfl, by decide⟩ rfl rfl]; unfold Bf_law_height; simp only [List.map_cons, List.map_nil, List.length_cons, List.length_nil, List.replicate, List.cons_append, List.nil_append, Nat.reduceAdd, Nat.reduceSub])
  walk_at "ev"
  rw [mul_i (by have := h.p0; have := h.p1; omega)]
  walk_at "ev"
  rw [fdiv_i ⟨h.q0, by have := h.q1; omega⟩]
  walk_at "ev"
/-- of the drawn points: the slopes that explain are small -/
theorem slp_bd {m : Nat} {P : List Pt} (h : PtsB m P) {x y : Int} (hy : 0 < y) (f1 : Slp P x y) (h2 : 2 ≤ P.length) : -621 * y < x ∧ x < 621 * y := by
  have hlt : (P[0]'(by omega)).1 < (P[1]'(by omega)).1 := List.pairwise_iff_getElem.mp h.inc 0 1 (by omega) (by omega) (by decide)
  have b0 := h.bnd (P[0]'(by omega)) (List.getElem_mem _)
  have b1 := h.bnd (P[1]'(by omega)) (List.getElem_mem _)
  have g1 := f1.1 _ _ ⟨_, List.getElem_mem (by omega), _, List.getElem_mem (by omega), hlt, rfl, rfl⟩
  have g2 := f1.2 _ _ ⟨_, List.getElem_mem (by omega), _, List.getElem_mem (by omega), hlt, rfl, rfl⟩
  generalize P[0] = s at *
  generalize P[1] = t at *
  have m1 : -621 * y ≤ (t.2 - s.2 - 1) * y := mle (by omega) (by omega)
  have m2 : (t.2 - s.2 + 1) * y ≤ 621 * y := mle (by omega) (by omega)
  constructor
  · rcases Int.lt_or_le x 0 with z | z
    · have : x * (t.1 - s.1) ≤ x * 1 := Int.mul_le_mul_of_nonpos_left (by omega) (by omega)
      omega
    · omega
  · rcases Int.lt_or_le 0 x with z | z
    · have : x * 1 ≤ x * (t.1 - s.1) := Int.mul_le_mul_of_nonneg_left (by omega) (by omega)
      omega
    · omega
end Px

end

section
/-! LibP: turned points in bounds, slopes in bounds (shared by the later laws; parts of Th_k12, Th_k02, which this text is not imported with). -/
namespace Px
open PySem Ev
local macro_rules | `(tactic| walk_at "ev") => `(tactic| simp -implicitDefEqProofs only [e_var, e_non, e_call0, e_mkS, e_meth, e_meth0, e_srow, e_noPast, e_lenS, e_neO, s_setRow, s_appPast, s_popPast, s_popO, s_par3O, e_sset, e_fmt, e_fstr, e_join, e_split, e_bl, e_int, e_str, e_gint, e_bin, e_neg, e_not, e_cmp, e_chain, e_and, e_or, e_and1, e_or1, e_ite, e_call, e_bcall, e_isi, e_ix, e_sl, e_tup, e_lst, e_comp, e_compIf, e_lenO, e_ixO, e_ninO, e_index, e_count, e_lenum, e_lrng, e_slS, es_nil, es_cons, i_seq, i_r1, i_r2, i_r3, i_enum, i_zip, o_non, o_some, s_set, s_setO, s_parO, s_par, s_unp, s_aug, s_extO, s_app, s_stO, s_ife, s_for, s_while, s_ret, s_retN, s_expr, s_raise, s_pass, b_nil, b_cons, b_frz, lt_i, le_i, gt_i, ge_i, add_i, sub_i, neg_i, not_b, isN_p, isnN_p, isB, isnB, ix_p0, ix_p1, isN_none, isN_pair, isN_int, isN_tup, isN_lst, tup_pair, typ, len_p, u0, u1, u2, pl_nil, pl_cons, seq_l, seq_t, len_l, len_t, list_l, list_t, abs_i, enum_l, sds0, sdsC, svs0, svsC, nx_s, plainR_ok, toB_b, set0, setS, no_nil, no_c, no_v, no_o, no_u, wp_nil, wp_cons, tg1, tgT, tyi, tyib, tyil, tyit, tytt, tytl, tyll, tylt, tybb, rok, rokO, rex, rexO, finN, finT, finX, onx, ort, oex, lifs, tstb, tstbP, gv0, gvS, go0, goS, sv0, svS, Nat.reduceAdd, Option.map_some, Option.bind_some, Bool.not_true, Bool.not_false, if_true, if_false, Bool.false_eq_true, ↓reduceIte, reduceCtorEq, List.length_cons, List.length_nil, Option.map_none, decide_true, decide_false, Bool.true_and, Bool.false_and])
theorem pts_bk {P : List Pt} (h : Pts P) : Pts (P.reverse.map bkP) := by
  refine ⟨by simp; exact h.one, by simp; exact h.most, fun p hp => ?_, ?_⟩
  · obtain ⟨q, hq, rfl⟩ := List.mem_map.mp hp
    have := h.bnd q (List.mem_reverse.mp hq)
    dsimp only
    omega
  · rw [List.pairwise_map, List.pairwise_reverse]
    exact h.inc.imp fun {a b} z => by dsimp only; omega
theorem sorted_bk {P : List Pt} (h : Pts P) : bV .sorted [pD (P.map bkP)] = some (pD (P.reverse.map bkP)) := by
  have e1 : intsOf ((P.map bkP).map ofPair) = none := by
    cases P with
    | nil => exact absurd h.one (by simp)
    | cons p P => rfl
  have e2 : ∀ l : List Pt, pairsOf (l.map ofPair) = some l := fun l => by
    induction l with
    | nil => rfl
    | cons p l ih =>
      show (pairsOf (l.map ofPair)).map _ = _
      rw [ih]
      rfl
  show Option.map D.p (bD .sorted [.list ((P.map bkP).map ofPair)]) = _
  unfold bD
  dsimp only
  rw [e1]
  dsimp only
  rw [e2]
  show some (D.lst ((sortP (P.map bkP)).map ofPair)) = _
  have e3 : sortP (P.map bkP) = P.reverse.map bkP := by
    refine List.Perm.eq_of_pairwise (le := leP) (fun a b _ _ q1 q2 => ?_) (sortP_sorted _) ?_ ?_
    · unfold leP at q1 q2
      exact Prod.ext (by omega) (by omega)
    · exact (pts_bk h).inc.imp fun {a b} z => .inl z
    · exact (sortP_perm _).trans ((List.reverse_perm P).symm.map bkP)
  rw [e3]
/-! ### every so-manieth -/
def thin (P : List Pt) (s f : Nat) : List Pt := (List.range ((P.length - 1 - f) / s + 1)).map fun k : Nat => ((k : Int), (P.getD (f + k * s) (0, 0)).2)
theorem thin_in {n s f k : Nat} (hs : 1 ≤ s) (hf : f < n) (hk : k < (n - 1 - f) / s + 1) : f + k * s < n := by
  have h1 : k * s ≤ (n - 1 - f) / s * s := Nat.mul_le_mul_right s (by omega)
  have h2 := Nat.div_mul_le_self (n - 1 - f) s
  omega
theorem pick_step {α : Type} (xs : List α) (s f : Nat) (hs : 1 ≤ s) (hf : f < xs.length) : pickL xs (some (f : Int)) (some (s : Int)) = (List.range ((xs.length - 1 - f) / s + 1)).filterMap fun k => xs[f + k * s]? := by
  unfold pickL pickI
  have hb : sliceBounds (some (f : Int)) none (some (s : Int)) xs.length = ((f : Int), (xs.length : Int), (s : Int)) := by
    unfold sliceBounds
    simp only [Option.getD_some, show ¬ ((f : Int) < 0) by omega, show (s : Int) > 0 by omega, if_true, if_false]
    simp only [Prod.mk.injEq, and_true]
    omega
  rw [hb]
  dsimp only
  unfold sliceRange
  dsimp only
  rw [if_pos (by omega), if_pos (by omega)]
  have hc : (((xs.length : Int) - (f : Int) + (s : Int) - 1) / (s : Int)).toNat = (xs.length - 1 - f) / s + 1 := by
    have e : (xs.length : Int) - (f : Int) + (s : Int) - 1 = ((xs.length - 1 - f + s : Nat) : Int) := by omega
    rw [e, ← Int.natCast_ediv, Int.toNat_natCast, Nat.add_div_right _ (by omega)]
  rw [hc, List.filterMap_map]
  congr 1
  funext k
  simp only [Function.comp]
  congr 1
  rw [show (f : Int) + (s : Int) * (k : Int) = ((f + k * s : Nat) : Int) by push_cast; rw [Int.mul_comm]]
  exact Int.toNat_natCast _
theorem fm_map {α β : Type} {f : α → Option β} {g : α → β} : ∀ {l : List α}, (∀ a ∈ l, f a = some (g a)) → l.filterMap f = l.map g
  | [], _ => rfl
  | a :: l, h => by rw [List.filterMap_cons, h a List.mem_cons_self, List.map_cons, fm_map fun b hb => h b (List.mem_cons_of_mem _ hb)]
theorem gd_at (P : List Pt) (k : Nat) (h : k < P.length) : P.getD k (0, 0) = P[k] := by simp [List.getD, h]
theorem pick_pts (P : List Pt) (s f : Nat) (hs : 1 ≤ s) (hf : f < P.length) : pickL (P.map ofPair) (some (f : Int)) (some (s : Int)) = ((List.range ((P.length - 1 - f) / s + 1)).map fun k => P.getD (f + k * s) (0, 0)).map ofPair := by
  rw [pick_step _ s f hs (by rw [List.length_map]; exact hf), List.length_map, List.map_map]
  refine fm_map fun k hk => ?_
  have := thin_in hs hf (List.mem_range.mp hk)
  simp [this]
theorem run_every (n : Nat) {P : List Pt} (w : W) (s f : Nat) (h : Pts P) (hs : 1 ≤ s) (hs2 : s ≤ P.length) (hf : f < P.length) : run (n + 5) .f_every [pD P, .int (s : Int), .int (f : Int)] w = .ok (pD (thin P s f)) w := by
  have hm := h.most
  have hc : (P.length - 1 - f) / s + 1 ≤ 20 := by
    have := Nat.div_le_self (P.length - 1 - f) s
    omega
  (rw [run_def _ _ Bf_every rfl, runD_eq Bf_every _ _ _ _ ⟨rfl, by decide⟩ rfl rfl]; unfold Bf_every; simp only [List.map_cons, List.map_nil, List.length_cons, List.length_nil, List.replicate, List.cons_append, List.nil_append, Nat.reduceAdd, Nat.reduceSub])
  walk_at "ev"
  rw [run_check_points n w h]
  walk_at "ev"
  rw [run_is_int, decide_eq_true (show (1 : Int) ≤ (s : Int) by omega), decide_eq_true (show (s : Int) ≤ ((P.map ofPair).length : Int) by rw [List.length_map]; omega)]
  walk_at "ev"
  rw [run_is_int, decide_eq_true (show (0 : Int) ≤ (f : Int) by omega), decide_eq_true (show (f : Int) ≤ ((P.map ofPair).length : Int) - 1 by rw [List.length_map]; omega)]
  walk_at "ev"
  rw [show slSD (.list (P.map ofPair)) (some (f : Int)) (s : Int) = some (.list (((List.range ((P.length - 1 - f) / s + 1)).map fun k => P.getD (f + k * s) (0, 0)).map ofPair)) by
    unfold slSD
    dsimp only
    rw [pick_pts P s f hs hf, if_pos ⟨by omega, by simp; omega⟩]]
  walk_at "ev"
  rw [enum_pts]
  rw [if_pos (sizeOk_le (by simp; omega)), comp_map (step := fC (run (n + 4)) f_every_s1) (w := w) (fun q : Pt × Nat => .tuple [.int ((q.2 : Nat) : Int), ofPair q.1]) (fun q => ofPair ((q.2 : Int), q.1.2)) _ (fun q hq => by
    refine ⟨_, rfl, ?_⟩
    unfold fC f_every_s1
    walk_at "ev")]
  walk_at "ev"
  congr 2
  unfold thin
  rw [List.map_map]
  apply List.ext_getElem
  · simp
  · intro i h1 h2
    simp
theorem thin_pts {P : List Pt} (h : Pts P) (s f : Nat) (hs : 1 ≤ s) (hf : f < P.length) : Pts (thin P s f) := by
  have hm := h.most
  have hc : (P.length - 1 - f) / s + 1 ≤ 20 := by
    have := Nat.div_le_self (P.length - 1 - f) s
    omega
  refine ⟨by unfold thin; simp, by unfold thin; simp; omega, fun p hp => ?_, ?_⟩
  · obtain ⟨k, hk, rfl⟩ := List.mem_map.mp hp
    have hk := List.mem_range.mp hk
    have hi := thin_in hs hf hk
    have := h.bnd P[f + k * s] (List.getElem_mem _)
    rw [gd_at P _ hi]
    dsimp only
    omega
  · unfold thin
    rw [List.pairwise_map]
    exact List.pairwise_lt_range.imp fun {a b} z => by dsimp only; omega
/-- of neighbouring places: straight stays straight -/
theorem thin_str {P : List Pt} (h : Str P) (s f : Nat) (hs : 1 ≤ s) (hf : f < P.length) (hx : ∀ i j : Nat, i ≤ j → j < P.length → (P.getD j (0, 0)).1 - (P.getD i (0, 0)).1 = (j : Int) - (i : Int)) : Str (thin P s f) := by
  have key : ∀ n d, FLo (thin P s f) (thin P s f) n d → FLo P P n (d * s) := by
    rintro n d ⟨p, hp, q, hq, h1, rfl, rfl⟩
    obtain ⟨i, hi, rfl⟩ := List.mem_map.mp hp
    obtain ⟨j, hj, rfl⟩ := List.mem_map.mp hq
    have hi := thin_in hs hf (List.mem_range.mp hi)
    have hj := thin_in hs hf (List.mem_range.mp hj)
    dsimp only at h1 ⊢
    have hij : i < j := by omega
    have hle : f + i * s ≤ f + j * s := Nat.add_le_add_left (Nat.mul_le_mul_right s (Nat.le_of_lt hij)) f
    have hx' := hx _ _ hle hj
    have e : ((f + j * s : Nat) : Int) - ((f + i * s : Nat) : Int) = ((j : Int) - (i : Int)) * (s : Int) := by
      push_cast
      grind
    rw [e] at hx'
    have hp : 0 < ((j : Int) - (i : Int)) * (s : Int) := Int.mul_pos (by omega) (by omega)
    refine ⟨P.getD (f + i * s) (0, 0), by rw [gd_at P _ hi]; exact List.getElem_mem _, P.getD (f + j * s) (0, 0), by rw [gd_at P _ hj]; exact List.getElem_mem _, by omega, rfl, by omega⟩
  intro n d f1 n' d' f2
  have k1 := key n d f1
  have k2 := key (n' - 2) d' (fhi_flo.mp f2)
  have := h n _ k1 n' _ (fhi_flo.mpr k2)
  have e1 : n * (d' * (s : Int)) = n * d' * s := by grind
  have e2 : n' * (d * (s : Int)) = n' * d * s := by grind
  rw [e1, e2] at this
  exact ltm (by omega) this
section
variable {P : List Pt} (h : PtsB 12 P)
include h
theorem PtsB.mv {r u : Int} (hr : -100 ≤ r ∧ r ≤ 100) (hu : -100 ≤ u ∧ u ≤ 100) : Pts (P.map (mvP r u)) := ⟨by rw [List.length_map]; exact h.one, by rw [List.length_map]; have := h.most; omega, fun p hp => by
  obtain ⟨q, hq, rfl⟩ := List.mem_map.mp hp
  have := h.bnd q hq
  dsimp only
  omega, by
  rw [List.pairwise_map]
  exact h.inc.imp fun {a b} z => by dsimp only; omega⟩
theorem PtsB.sh {b : Int} (hb : -3 ≤ b ∧ b ≤ 3) : Pts (P.map (shP b)) := ⟨by rw [List.length_map]; exact h.one, by rw [List.length_map]; have := h.most; omega, fun p hp => by
  obtain ⟨q, hq, rfl⟩ := List.mem_map.mp hp
  have := h.bnd q hq
  have : b = -3 ∨ b = -2 ∨ b = -1 ∨ b = 0 ∨ b = 1 ∨ b = 2 ∨ b = 3 := by omega
  dsimp only
  rcases this with rfl | rfl | rfl | rfl | rfl | rfl | rfl <;> omega, by
  rw [List.pairwise_map]
  exact h.inc.imp fun {a b} z => z⟩
theorem PtsB.ov : Pts (P.map ovP) := ⟨by rw [List.length_map]; exact h.one, by rw [List.length_map]; have := h.most; omega, fun p hp => by
  obtain ⟨q, hq, rfl⟩ := List.mem_map.mp hp
  have := h.bnd q hq
  dsimp only
  omega, by
  rw [List.pairwise_map]
  exact h.inc.imp fun {a b} z => z⟩
end
theorem map_undo {f g : Pt → Pt} (h : ∀ p, g (f p) = p) (P : List Pt) : (P.map f).map g = P := by
  rw [List.map_map]
  exact (List.map_congr_left (f := g ∘ f) (g := id) (fun p _ => h p)).trans (List.map_id P)
theorem sh_back (P : List Pt) (b : Int) : (P.map (shP b)).map (shP (0 - b)) = P := map_undo (fun p => Prod.ext rfl (by
  dsimp only
  rw [Int.sub_mul]
  omega)) P
theorem ov_back (P : List Pt) : (P.map ovP).map ovP = P := map_undo (fun p => Prod.ext rfl (by dsimp only; omega)) P
theorem bk_back (P : List Pt) : ((P.reverse.map bkP).reverse).map bkP = P := by
  rw [← List.map_reverse, List.reverse_reverse]
  exact map_undo (fun p => Prod.ext (by dsimp only; omega) rfl) P
theorem ne_bl4 (a : Bool) : cmpV .ne (.lst [.bool a, .bool a, .bool a, .bool a]) (.lst [.bool a, .bool a, .bool a, .bool a]) = some (.bl false) := by cases a <;> rfl
theorem ne_pts (P : List Pt) : cmpV .ne (pD P) (pD P) = some (.bl false) := ne_same (PL.pts P) (by decide)
theorem ixg (P : List Pt) (k : Nat) (h : k < P.length) : ixV (pD P) (.int (k : Int)) = some (.p (ofPair (P.getD k (0, 0)))) := by
  rw [gd_at _ _ h]
  exact ix_l ofPair P k h
theorem ones_mul (k : Nat) (h : k ≤ 100) : binV .mul (.lst [.int 1]) (.int (k : Int)) = some (.lst ((List.replicate k (1 : Int)).map PyData.int)) := by
  unfold binV
  dsimp only
  unfold binD
  dsimp only
  rw [if_pos ⟨by omega, by omega, small_line (by rw [Int.toNat_natCast]; simp; omega)⟩, Int.toNat_natCast]
  have : (List.replicate k [PyData.int 1]).flatten = (List.replicate k (1 : Int)).map PyData.int := by
    rw [List.map_replicate]
    induction k with
    | zero => rfl
    | succ k ih => rw [List.replicate_succ, List.flatten_cons, ih (by omega), List.replicate_succ]; rfl
  rw [this]
  rfl
theorem int_inj : ∀ {l m : List Int}, l.map PyData.int = m.map PyData.int → l = m
  | [], [], _ => rfl
  | [], _ :: _, h => nomatch h
  | _ :: _, [], h => nomatch h
  | a :: l, b :: m, h => by
    rw [List.map_cons, List.map_cons, List.cons.injEq] at h
    rw [PyData.int.inj h.1, int_inj h.2]
theorem eq_ints (l m : List Int) : cmpV .eq (.lst (l.map PyData.int)) (.lst (m.map PyData.int)) = some (.bl (decide (l = m))) := eq_b (PL.ints l) (PL.ints m) (by decide) (by decide) (by
  rw [decide_eq_true_eq]
  exact ⟨fun h => by rw [h], fun h => int_inj (PyData.list.inj h)⟩)
theorem steps_xs {P : List Pt} (hd : (List.range (P.length - 1)).map (fun k : Nat => (P.getD (k + 1) (0, 0)).1 - (P.getD k (0, 0)).1) = List.replicate (P.length - 1) 1) : ∀ i j : Nat, i ≤ j → j < P.length → (P.getD j (0, 0)).1 - (P.getD i (0, 0)).1 = (j : Int) - (i : Int) := by
  have h1 : ∀ k : Nat, k + 1 < P.length → (P.getD (k + 1) (0, 0)).1 - (P.getD k (0, 0)).1 = 1 := fun k hk => by
    have : (P.getD (k + 1) (0, 0)).1 - (P.getD k (0, 0)).1 ∈ List.replicate (P.length - 1) (1 : Int) := by
      rw [← hd]
      exact List.mem_map.mpr ⟨k, List.mem_range.mpr (by omega), rfl⟩
    exact (List.mem_replicate.mp this).2
  intro i j
  induction j with
  | zero => intro h _; rw [show i = 0 by omega]; omega
  | succ j ih =>
    intro h hj
    rcases Nat.eq_or_lt_of_le h with rfl | h
    · omega
    · have := ih (by omega) (by omega)
      have := h1 j hj
      omega
theorem steps_eq (P : List Pt) : cmpV .eq (.lst ((List.range (P.length - 1)).map fun k : Nat => PyData.int ((P.getD (k + 1) (0, 0)).1 - (P.getD k (0, 0)).1))) (.lst ((List.replicate (P.length - 1) (1 : Int)).map PyData.int)) = some (.bl (decide ((List.range (P.length - 1)).map (fun k : Nat => (P.getD (k + 1) (0, 0)).1 - (P.getD k (0, 0)).1) = List.replicate (P.length - 1) 1))) := by
  rw [← eq_ints, List.map_map]
  rfl
theorem add_line (x y c : Int) : binV .add (.p (ofPair (x, y))) (.tup [.int c]) = some (lnD x y c) := by
  unfold binV ofPair
  dsimp only
  unfold binD
  dsimp only
  rw [if_pos (small_line (by simp))]
  rfl
theorem map_ne {P : List Pt} (h : 1 ≤ P.length) (f : Pt → Int) : P.map f ≠ [] := fun z => by
  have := congrArg List.length z
  rw [List.length_map, List.length_nil] at this
  omega
structure SlpOk (x y : Int) : Prop where
  y0 : 1 ≤ y
  y1 : y ≤ 4000
  x0 : -2484000 ≤ x
  x1 : x ≤ 2484000
  g : Int.gcd x y = 1
theorem prod_bd {x t : Int} (h : -2484000 ≤ x ∧ x ≤ 2484000) (ht : -140 ≤ t ∧ t ≤ 140) : -347760000 ≤ x * t ∧ x * t ≤ 347760000 := by
  have h1 := Int.natAbs_mul x t
  have h2 : x.natAbs * t.natAbs ≤ 2484000 * 140 := Nat.mul_le_mul (by omega) (by omega)
  rw [← h1] at h2
  omega
theorem prod_bd' {x t : Int} (h : 0 ≤ x ∧ x ≤ 4000) (ht : -311 ≤ t ∧ t ≤ 311) : -1244000 ≤ x * t ∧ x * t ≤ 1244000 := by
  have h1 := Int.natAbs_mul x t
  have h2 : x.natAbs * t.natAbs ≤ 4000 * 311 := Nat.mul_le_mul (by omega) (by omega)
  rw [← h1] at h2
  omega
theorem oL_bd {m : Nat} {P : List Pt} (h : PtsB m P) {x y : Int} (s : SlpOk x y) : -400000000 ≤ oL P x y ∧ oL P x y ≤ 400000000 := by
  have hne := map_ne h.one fun t => y * t.2 - x * t.1
  obtain ⟨t, ht, e⟩ := List.mem_map.mp (mxL_mem hne)
  have hb := h.bnd t ht
  have k1 := prod_bd (x := x) (t := t.1) ⟨s.x0, s.x1⟩ (by omega)
  have k2 := prod_bd' (x := y) (t := t.2) ⟨by have := s.y0; omega, s.y1⟩ (by omega)
  unfold oL
  omega
theorem oH_bd {m : Nat} {P : List Pt} (h : PtsB m P) {x y : Int} (s : SlpOk x y) : -400000000 ≤ oH P x y ∧ oH P x y ≤ 400000000 := by
  have hne := map_ne h.one fun t => y * (t.2 + 1) - x * t.1
  obtain ⟨t, ht, e⟩ := List.mem_map.mp (mnL_mem hne)
  have hb := h.bnd t ht
  have k1 := prod_bd (x := x) (t := t.1) ⟨s.x0, s.x1⟩ (by omega)
  have k2 := prod_bd' (x := y) (t := t.2 + 1) ⟨by have := s.y0; omega, s.y1⟩ (by omega)
  unfold oH
  omega
theorem lean_ok {m : Nat} {P : List Pt} (hP : PtsB m P) {x y : Int} (hL : Lean P x y) : SlpOk x y := by
  have b : -621 * y ≤ x ∧ x ≤ 621 * y := by
    have := hL.q0
    by_cases h2 : 2 ≤ P.length
    · have := slp_bd hP hL.q0 hL.slp h2
      omega
    · have h1 : P.length = 1 := by have := hP.one; omega
      have hn := hL.num 0 ⟨fun n d f => absurd f (str1 h1 n d), fun n d f => absurd (fhi_flo.mp f) (str1 h1 _ _)⟩
      omega
  have := hL.q0
  have := hL.q1
  exact ⟨by omega, by omega, by omega, by omega, hL.g⟩
theorem PL.ln (x y c : Int) : PL 1 (.tuple [.int x, .int y, .int c]) := PL.tup fun d hd => by
  simp only [List.mem_cons, List.not_mem_nil, or_false] at hd
  rcases hd with rfl | rfl | rfl <;> exact PL.int _ _
theorem ne_ln (x y c : Int) : cmpV .ne (lnD x y c) (lnD x y c) = some (.bl false) := ne_same (PL.ln x y c) (by decide)
theorem ex_all {P : List Pt} {x y c : Int} (h : ∀ t ∈ P, ht x y c t.1 = t.2) : (P.all fun pt => decide (ht x y c pt.1 = pt.2)) = true := List.all_eq_true.mpr fun t m => decide_eq_true (h t m)
theorem lean_ex {P : List Pt} {x y : Int} (h1 : 1 ≤ P.length) (hi : P.Pairwise fun p q => p.1 < q.1) (hL : Lean P x y) : ∀ t ∈ P, ht x y (oL P x y) t.1 = t.2 :=
  (ex_iff hL.q0 h1).mpr ⟨Int.le_refl _, (off_iff hL.q0 h1 hi).mpr hL.slp⟩
end Px

end

section
/-! LibH: heights that another place can have. -/
namespace Px
open PySem Ev
local macro_rules | `(tactic| walk_at "ev") => `(tactic| simp -implicitDefEqProofs only [e_var, e_non, e_call0, e_mkS, e_meth, e_meth0, e_srow, e_noPast, e_lenS, e_neO, s_setRow, s_appPast, s_popPast, s_popO, s_par3O, e_sset, e_fmt, e_fstr, e_join, e_split, e_bl, e_int, e_str, e_gint, e_bin, e_neg, e_not, e_cmp, e_chain, e_and, e_or, e_and1, e_or1, e_ite, e_call, e_bcall, e_isi, e_ix, e_sl, e_tup, e_lst, e_comp, e_compIf, e_lenO, e_ixO, e_ninO, e_index, e_count, e_lenum, e_lrng, e_slS, es_nil, es_cons, i_seq, i_r1, i_r2, i_r3, i_enum, i_zip, o_non, o_some, s_set, s_setO, s_parO, s_par, s_unp, s_aug, s_extO, s_app, s_stO, s_ife, s_for, s_while, s_ret, s_retN, s_expr, s_raise, s_pass, b_nil, b_cons, b_frz, lt_i, le_i, gt_i, ge_i, add_i, sub_i, neg_i, not_b, isN_p, isnN_p, isB, isnB, ix_p0, ix_p1, isN_none, isN_pair, isN_int, isN_tup, isN_lst, tup_pair, typ, len_p, u0, u1, u2, pl_nil, pl_cons, seq_l, seq_t, len_l, len_t, list_l, list_t, abs_i, enum_l, sds0, sdsC, svs0, svsC, nx_s, plainR_ok, toB_b, set0, setS, no_nil, no_c, no_v, no_o, no_u, wp_nil, wp_cons, tg1, tgT, tyi, tyib, tyil, tyit, tytt, tytl, tyll, tylt, tybb, rok, rokO, rex, rexO, finN, finT, finX, onx, ort, oex, lifs, tstb, tstbP, gv0, gvS, go0, goS, sv0, svS, Nat.reduceAdd, Option.map_some, Option.bind_some, Bool.not_true, Bool.not_false, if_true, if_false, Bool.false_eq_true, ↓reduceIte, reduceCtorEq, List.length_cons, List.length_nil, Option.map_none, decide_true, decide_false, Bool.true_and, Bool.false_and])
theorem aff {A B y1 y y2 : Int} (h1 : y1 ≤ y) (h2 : y ≤ y2) (k1 : 0 < A * y1 + B) (k2 : 0 < A * y2 + B) : 0 < A * y + B := by
  rcases Int.lt_or_le A 0 with h | h
  · have : A * y2 ≤ A * y := Int.mul_le_mul_of_nonpos_left (by omega) h2
    omega
  · have : A * y1 ≤ A * y := Int.mul_le_mul_of_nonneg_left h1 h
    omega
theorem mem_rep {P : List Pt} {x y : Int} {t : Pt} (h : t ∈ P ++ [(x, y)]) : ∃ a b, t.2 = a + b * y ∧ ∀ z, (t.1, a + b * z) ∈ P ++ [(x, z)] := by
  rcases List.mem_append.mp h with h | h
  · refine ⟨t.2, 0, by omega, fun z => List.mem_append_left _ ?_⟩
    rw [Int.zero_mul, Int.add_zero]
    exact h
  · rw [List.mem_singleton] at h
    subst h
    refine ⟨0, 1, by dsimp only; omega, fun z => List.mem_append_right _ ?_⟩
    rw [Int.one_mul, Int.zero_add]
    exact List.mem_singleton_self _
/-- between two possible heights all are possible -/
theorem str_mid {P : List Pt} {x y1 y y2 : Int} (h1 : Str (P ++ [(x, y1)])) (h2 : Str (P ++ [(x, y2)])) (l1 : y1 ≤ y) (l2 : y ≤ y2) : Str (P ++ [(x, y)]) := by
  rintro n d ⟨p, hp, q, hq, hpq, rfl, rfl⟩ n' d' ⟨r, hr, s, hs, hrs, rfl, rfl⟩
  obtain ⟨ap, bp, ep, mp⟩ := mem_rep hp
  obtain ⟨aq, bq, eq, mq⟩ := mem_rep hq
  obtain ⟨ar, br, er, mr⟩ := mem_rep hr
  obtain ⟨as, bs, es, ms⟩ := mem_rep hs
  have k1 := h1 _ _ ⟨_, mp y1, _, mq y1, hpq, rfl, rfl⟩ _ _ ⟨_, mr y1, _, ms y1, hrs, rfl, rfl⟩
  have k2 := h2 _ _ ⟨_, mp y2, _, mq y2, hpq, rfl, rfl⟩ _ _ ⟨_, mr y2, _, ms y2, hrs, rfl, rfl⟩
  dsimp only at k1 k2
  rw [ep, eq, er, es]
  generalize s.1 - r.1 = D at *
  generalize q.1 - p.1 = E at *
  have := aff (A := (bs - br) * E - (bq - bp) * D) (B := (as - ar + 1) * E - (aq - ap - 1) * D) l1 l2 (by grind) (by grind)
  grind
theorem str_congr {P Q : List Pt} (h : ∀ t, t ∈ P ↔ t ∈ Q) : Str P ↔ Str Q := by
  have : ∀ {P Q : List Pt}, (∀ t, t ∈ P ↔ t ∈ Q) → Str P → Str Q := fun h k n d ⟨p, hp, q, hq, z⟩ n' d' ⟨r, hr, s, hs, z'⟩ => k n d ⟨p, (h p).mpr hp, q, (h q).mpr hq, z⟩ n' d' ⟨r, (h r).mpr hr, s, (h s).mpr hs, z'⟩
  exact ⟨this h, this fun t => (h t).symm⟩
/-- two lines through the same points differ little -/
theorem two_lines {p q c p' q' c' x0 y0 x1 y1 x y m e : Int} (hq : 0 < q) (hq' : 0 < q') (hx : x0 < x1)
    (a0 : ht p q c x0 = y0) (a1 : ht p q c x1 = y1) (b0 : ht p' q' c' x0 = y0) (b1 : ht p' q' c' x1 = y1) (hy : ht p q c x = y) (hm : ht p' q' c' x = m) (he : 0 ≤ e) (e0 : x0 - e ≤ x) (e1 : x ≤ x1 + e) : y - m ≤ 2 * e + 1 := by
  obtain ⟨a0, a0'⟩ := (ht_iff hq).mp a0
  obtain ⟨a1, a1'⟩ := (ht_iff hq).mp a1
  obtain ⟨b0, b0'⟩ := (ht_iff hq').mp b0
  obtain ⟨b1, b1'⟩ := (ht_iff hq').mp b1
  obtain ⟨hy, _⟩ := (ht_iff hq).mp hy
  obtain ⟨_, hm⟩ := (ht_iff hq').mp hm
  -- g t = q' (p t + c) - q (p' t + c')
  have g0 : q' * (p * x0 + c) - q * (p' * x0 + c') < q * q' := by
    have := Int.mul_lt_mul_of_pos_left a0' hq'
    have := Int.mul_le_mul_of_nonneg_left b0 (Int.le_of_lt hq)
    grind
  have g0' : -(q * q') < q' * (p * x0 + c) - q * (p' * x0 + c') := by
    have := Int.mul_le_mul_of_nonneg_left a0 (Int.le_of_lt hq')
    have := Int.mul_lt_mul_of_pos_left b0' hq
    grind
  have g1 : q' * (p * x1 + c) - q * (p' * x1 + c') < q * q' := by
    have := Int.mul_lt_mul_of_pos_left a1' hq'
    have := Int.mul_le_mul_of_nonneg_left b1 (Int.le_of_lt hq)
    grind
  have g1' : -(q * q') < q' * (p * x1 + c) - q * (p' * x1 + c') := by
    have := Int.mul_le_mul_of_nonneg_left a1 (Int.le_of_lt hq')
    have := Int.mul_lt_mul_of_pos_left b1' hq
    grind
  have gx : q * q' * (y - m - 1) < q' * (p * x + c) - q * (p' * x + c') := by
    have := Int.mul_le_mul_of_nonneg_left hy (Int.le_of_lt hq')
    have := Int.mul_lt_mul_of_pos_left hm hq
    grind
  have hK : 0 < q * q' := Int.mul_pos hq hq'
  -- g is A t + B
  generalize hA : q' * p - q * p' = A
  generalize hB : q' * c - q * c' = B
  have r0 : q' * (p * x0 + c) - q * (p' * x0 + c') = A * x0 + B := by subst hA hB; grind
  have r1 : q' * (p * x1 + c) - q * (p' * x1 + c') = A * x1 + B := by subst hA hB; grind
  have rx : q' * (p * x + c) - q * (p' * x + c') = A * x + B := by subst hA hB; grind
  rw [r0] at g0 g0'
  rw [r1] at g1 g1'
  rw [rx] at gx
  generalize q * q' = K at *
  -- D (A x + B) < D K (1 + 2 e)
  have hup : A * x + B < K * (2 * e + 1) := by
    rcases Int.lt_or_le A 0 with s | s
    · -- falling: greatest at the left end
      have w1 : A * (x1 - x0) > -(2 * K) := by grind
      have w2 : -A ≤ -A * (x1 - x0) := by
        have : -A * 1 ≤ -A * (x1 - x0) := Int.mul_le_mul_of_nonneg_left (by omega) (by omega)
        omega
      have w3 : -A < 2 * K := by grind
      have w4 : -A * (x0 - x) ≤ -A * e := Int.mul_le_mul_of_nonneg_left (by omega) (by omega)
      have w5 : -A * e ≤ 2 * K * e := Int.mul_le_mul_of_nonneg_right (by omega) he
      grind
    · have w1 : A * (x1 - x0) < 2 * K := by grind
      have w2 : A ≤ A * (x1 - x0) := by
        have : A * 1 ≤ A * (x1 - x0) := Int.mul_le_mul_of_nonneg_left (by omega) (by omega)
        omega
      have w3 : A < 2 * K := by omega
      have w4 : A * (x - x1) ≤ A * e := Int.mul_le_mul_of_nonneg_left (by omega) (by omega)
      have w5 : A * e ≤ 2 * K * e := Int.mul_le_mul_of_nonneg_right (by omega) he
      grind
  have : K * (y - m - 1) < K * (2 * e + 1) := by omega
  have := Int.lt_of_mul_lt_mul_left this (Int.le_of_lt hK)
  omega
/-! ### one more point -/
def ins (P : List Pt) (x y : Int) : List Pt := sortP (P ++ [(x, y)])
theorem ins_perm (P : List Pt) (x y : Int) : (ins P x y).Perm (P ++ [(x, y)]) := sortP_perm _
theorem ins_str (P : List Pt) (x y : Int) : Str (ins P x y) ↔ Str (P ++ [(x, y)]) := str_congr fun t => (ins_perm P x y).mem_iff
theorem ins_g {P : List Pt} (h : PtsG P) (hl : P.length ≤ 100) {x y : Int} (hx : -1000 ≤ x ∧ x ≤ 1000) (hy : -100000000 ≤ y ∧ y ≤ 100000000) (hn : ∀ t ∈ P, t.1 ≠ x) : PtsG (ins P x y) := by
  refine ⟨by rw [(ins_perm P x y).length_eq, List.length_append, List.length_singleton]; omega, fun t ht => ?_, ?_⟩
  · rcases List.mem_append.mp ((ins_perm P x y).mem_iff.mp ht) with ht | ht
    · exact h.bnd t ht
    · rw [List.mem_singleton] at ht
      subst ht
      exact ⟨hx, hy⟩
  · have nd : ((P ++ [(x, y)]).map (·.1)).Nodup := by
      rw [List.map_append, List.nodup_append]
      refine ⟨?_, by simp, fun a ha b hb e => ?_⟩
      · unfold List.Nodup
        rw [List.pairwise_map]
        exact h.inc.imp fun {a b} z => by omega
      · obtain ⟨t, ht, rfl⟩ := List.mem_map.mp ha
        have hb : b = x := by simpa using hb
        exact hn t ht (by omega)
    have nd2 : ((ins P x y).map (·.1)).Nodup := ((ins_perm P x y).map _).nodup_iff.mpr nd
    unfold List.Nodup at nd2
    rw [List.pairwise_map] at nd2
    have so := sortP_sorted (P ++ [(x, y)])
    refine (nd2.and so).imp fun {a b} z => ?_
    obtain ⟨z1, z2⟩ := z
    unfold leP at z2
    omega
theorem pairs_of : ∀ l : List Pt, pairsOf (l.map ofPair) = some l
  | [] => rfl
  | p :: l => by
    show (pairsOf (l.map ofPair)).map _ = _
    rw [pairs_of l]
    rfl
theorem sorted_pts (P : List Pt) (h : P ≠ []) : bV .sorted [pD P] = some (pD (sortP P)) := by
  have e1 : intsOf (P.map ofPair) = none := by
    cases P with
    | nil => exact absurd rfl h
    | cons p P => rfl
  show Option.map D.p (bD .sorted [.list (P.map ofPair)]) = _
  unfold bD
  dsimp only
  rw [e1]
  dsimp only
  rw [pairs_of]
  rfl
theorem add_pts (P : List Pt) (x y : Int) (h : P.length ≤ 100) : binV .add (pD P) (.lst [ofPair (x, y)]) = some (pD (P ++ [(x, y)])) := by
  unfold binV
  dsimp only
  unfold binD
  dsimp only
  rw [if_pos (small_line (by simp; omega))]
  rw [show P.map ofPair ++ [ofPair (x, y)] = (P ++ [(x, y)]).map ofPair by rw [List.map_append]; rfl]
  rfl
theorem filter_out {P : List Pt} {x : Int} (hn : ∀ t ∈ P, t.1 ≠ x) : P.filter (fun t => !decide (t.1 = x)) = P := List.filter_eq_self.mpr fun t ht => by rw [decide_eq_false (hn t ht)]; rfl
theorem run_with_point (n : Nat) {P : List Pt} (w : W) (x y : Int) (hl : P.length ≤ 100) (hn : ∀ t ∈ P, t.1 ≠ x) : run (n + 1) .f_with_point [pD P, .int x, .int y] w = .ok (pD (ins P x y)) w := by
  (rw [run_def _ _ Bf_with_point rfl, runD_eq Bf_with_point _ _ _ _ ⟨rfl, by decide⟩ rfl rfl]; unfold Bf_with_point; simp only [List.map_cons, List.map_nil, List.length_cons, List.length_nil, List.replicate, List.cons_append, List.nil_append, Nat.reduceAdd, Nat.reduceSub])
  walk_at "ev"
  rw [if_pos (sizeOk_L _ (by omega)), comp_filter (step := fCI (run n) f_with_point_s2 f_with_point_s1) (w := w) ofPair ofPair (fun t => !decide (t.1 = x)) P (fun t ht => by
    refine ⟨_, rfl, ?_⟩
    unfold fCI f_with_point_s1 f_with_point_s2
    walk_at "ev"
    rw [ne_i]
    cases decide (t.1 = x) <;> walk_at "ev"), filter_out hn]
  walk_at "ev"
  rw [add_pts P x y hl]
  walk_at "ev"
  rw [sorted_pts _ (by simp)]
  walk_at "ev"
  rfl
/-! ### the heights -/
structure Hts (P : List Pt) (x l m : Int) : Prop where
  le : l ≤ m
  iff : ∀ y, Str (P ++ [(x, y)]) ↔ l ≤ y ∧ y ≤ m
abbrev hsL (l m : Int) : List Int := (List.range (m + 1 - l).toNat).map fun k : Nat => l + (k : Int)
theorem ne_nil_i (l : List Int) : cmpV .ne (.lst (l.map PyData.int)) (.lst []) = some (.bl (!decide (l = []))) := ne_b (PL.ints l) PL.nil (by decide) (by decide) (by
  cases l <;> simp)
/-- one at least has been seen there -/
theorem ht_bds {P : List Pt} (h : Pts P) (h2 : 2 ≤ P.length) {p q c x y : Int} (hq : 0 < q) (hx : -1000 ≤ x ∧ x ≤ 1000) (he : ∀ t ∈ P, ht p q c t.1 = t.2) (hy : ht p q c x = y) : -10000000 ≤ y ∧ y ≤ 10000000 := by
  have hlt : (P[0]'(by omega)).1 < (P[1]'(by omega)).1 := List.pairwise_iff_getElem.mp h.inc 0 1 (by omega) (by omega) (by decide)
  have b0 := h.bnd (P[0]'(by omega)) (List.getElem_mem _)
  have b1 := h.bnd (P[1]'(by omega)) (List.getElem_mem _)
  have e0 := he _ (List.getElem_mem (show 0 < P.length by omega))
  have e1 := he _ (List.getElem_mem (show 1 < P.length by omega))
  generalize P[0] = s at *
  generalize P[1] = t at *
  obtain ⟨a0, a0'⟩ := (ht_iff hq).mp e0
  obtain ⟨a1, a1'⟩ := (ht_iff hq).mp e1
  obtain ⟨ay, ay'⟩ := (ht_iff hq).mp hy
  -- |p| < 2001 q
  have p1 : p < 2001 * q := by
    rcases Int.lt_or_le 0 p with z | z
    · have : p * 1 ≤ p * (t.1 - s.1) := Int.mul_le_mul_of_nonneg_left (by omega) (by omega)
      have : q * (t.2 - s.2 + 1) ≤ q * 2001 := Int.mul_le_mul_of_nonneg_left (by omega) (by omega)
      grind
    · omega
  have p2 : -(2001 * q) < p := by
    rcases Int.lt_or_le p 0 with z | z
    · have : p * (t.1 - s.1) ≤ p * 1 := Int.mul_le_mul_of_nonpos_left (by omega) (by omega)
      have : q * (-2001) ≤ q * (t.2 - s.2 - 1) := Int.mul_le_mul_of_nonneg_left (by omega) (by omega)
      grind
    · omega
  have p3 : (p * (x - s.1)).natAbs ≤ (2001 * q).natAbs * 2000 := by
    rw [Int.natAbs_mul]
    exact Nat.mul_le_mul (by omega) (by omega)
  have p4 : -(4002000 * q) ≤ p * (x - s.1) ∧ p * (x - s.1) ≤ 4002000 * q := by omega
  have f1 : q * y < q * (s.2 + 1 + 4002000) := by grind
  have f2 : q * (s.2 - 4002000) < q * (y + 1) := by grind
  have := Int.lt_of_mul_lt_mul_left f1 (Int.le_of_lt hq)
  have := Int.lt_of_mul_lt_mul_left f2 (Int.le_of_lt hq)
  omega
theorem lin_end {n d n' d' : Int} (hd : 1 ≤ d') (hn : n' ≤ 2001) (hd2 : 0 < d ∧ d ≤ 2000) (h : n * d' < n' * d) : n < 4002000 := by
  rcases Int.lt_or_le 0 n with z | z
  · have : n * 1 ≤ n * d' := Int.mul_le_mul_of_nonneg_left hd (by omega)
    have : n' * d ≤ 2001 * d := Int.mul_le_mul_of_nonneg_right hn (by omega)
    omega
  · omega
theorem str_bds {P : List Pt} (h : Pts P) (h2 : 2 ≤ P.length) {x y : Int} (hx : -1000 ≤ x ∧ x ≤ 1000) (hn : ∀ t ∈ P, t.1 ≠ x) (hs : Str (P ++ [(x, y)])) : -10000000 ≤ y ∧ y ≤ 10000000 := by
  have hlt : (P[0]'(by omega)).1 < (P[1]'(by omega)).1 := List.pairwise_iff_getElem.mp h.inc 0 1 (by omega) (by omega) (by decide)
  have b0 := h.bnd (P[0]'(by omega)) (List.getElem_mem _)
  have b1 := h.bnd (P[1]'(by omega)) (List.getElem_mem _)
  have m0 : P[0]'(by omega) ∈ P ++ [(x, y)] := List.mem_append_left _ (List.getElem_mem _)
  have m1 : P[1]'(by omega) ∈ P ++ [(x, y)] := List.mem_append_left _ (List.getElem_mem _)
  have mx : (x, y) ∈ P ++ [(x, y)] := List.mem_append_right _ (List.mem_singleton_self _)
  have hn := hn _ (List.getElem_mem (show 0 < P.length by omega))
  generalize P[0] = s at *
  generalize P[1] = t at *
  rcases Int.lt_or_le s.1 x with z | z
  · have k1 := hs _ _ ⟨s, m0, _, mx, z, rfl, rfl⟩ _ _ ⟨s, m0, t, m1, hlt, rfl, rfl⟩
    have k2 := hs _ _ ⟨s, m0, t, m1, hlt, rfl, rfl⟩ _ _ ⟨s, m0, _, mx, z, rfl, rfl⟩
    dsimp only at k1 k2
    have e1 := lin_end (by omega) (by omega) (by omega) k1
    have e2 := lin_end (n := -(y - s.2 + 1)) (d' := t.1 - s.1) (n' := -(t.2 - s.2 - 1)) (d := x - s.1) (by omega) (by omega) (by omega) (by grind)
    omega
  · have k1 := hs _ _ ⟨_, mx, s, m0, by dsimp only; omega, rfl, rfl⟩ _ _ ⟨s, m0, t, m1, hlt, rfl, rfl⟩
    have k2 := hs _ _ ⟨s, m0, t, m1, hlt, rfl, rfl⟩ _ _ ⟨_, mx, s, m0, by dsimp only; omega, rfl, rfl⟩
    dsimp only at k1 k2
    have e1 := lin_end (by omega) (by omega) (by omega) k1
    have e2 := lin_end (n := -(s.2 - y + 1)) (d' := t.1 - s.1) (n' := -(t.2 - s.2 - 1)) (d := s.1 - x) (by omega) (by omega) (by omega) (by grind)
    omega
/-- possible heights lie near those of each line that explains the others -/
theorem poss_near {P : List Pt} (w : W) (h : Pts P) (h2 : 2 ≤ P.length) {x y p q c e : Int} (hx : -1000 ≤ x ∧ x ≤ 1000) (hn : ∀ t ∈ P, t.1 ≠ x) (hs : Str (P ++ [(x, y)])) (hq : 0 < q) (hL : ∀ t ∈ P, ht p q c t.1 = t.2)
    (he : 0 ≤ e) {s t : Pt} (hs1 : s ∈ P) (ht1 : t ∈ P) (hst : s.1 < t.1) (e0 : s.1 - e ≤ x) (e1 : x ≤ t.1 + e) : y - ht p q c x ≤ 2 * e + 1 ∧ ht p q c x - y ≤ 2 * e + 1 := by
  have hb := str_bds h h2 hx hn hs
  have hg := ins_g h.g (by have := h.most; omega) hx (y := y) (by omega) hn
  have ho : 1 ≤ (ins P x y).length := by
    rw [(ins_perm P x y).length_eq, List.length_append, List.length_singleton]
    omega
  obtain ⟨p', q', _, hL', _⟩ := run_leanestG 0 w ho hg ((ins_str P x y).mpr hs)
  have ex := lean_ex ho hg.inc hL'
  generalize oL (ins P x y) p' q' = c' at ex
  have mem : ∀ t, t ∈ P ++ [(x, y)] → ht p' q' c' t.1 = t.2 := fun t m => ex t ((ins_perm P x y).mem_iff.mpr m)
  have m1 := mem s (List.mem_append_left _ hs1)
  have m2 := mem t (List.mem_append_left _ ht1)
  have m3 := mem (x, y) (List.mem_append_right _ (List.mem_singleton_self _))
  exact ⟨two_lines hL'.q0 hq hst m1 m2 (hL s hs1) (hL t ht1) m3 rfl he e0 e1, two_lines hq hL'.q0 hst (hL s hs1) (hL t ht1) m1 m2 rfl m3 he e0 e1⟩
theorem run_possible_in (n : Nat) {P : List Pt} (w : W) (x : Int) (h : PtsG P) (hl : P.length ≤ 100) (he : ∃ t ∈ P, t.1 = x) : run (n + 1) .f_possible [pD P, .int x] w = .ok (.lst (((P.filter fun t => decide (t.1 = x)).map (·.2)).map PyData.int)) w := by
  (rw [run_def _ _ Bf_possible rfl, runD_eq Bf_possible _ _ _ _ ⟨rfl, by decide⟩ rfl rfl]; unfold Bf_possible; simp only [List.map_cons, List.map_nil, List.length_cons, List.length_nil, List.replicate, List.cons_append, List.nil_append, Nat.reduceAdd, Nat.reduceSub])
  walk_at "ev"
  rw [if_pos (sizeOk_L _ (by omega)), comp_filter (step := fCI (run n) f_possible_s2 f_possible_s1) (w := w) ofPair (fun t => .int t.2) (fun t => decide (t.1 = x)) P (fun t ht => by
    refine ⟨_, rfl, ?_⟩
    unfold fCI f_possible_s1 f_possible_s2
    walk_at "ev"
    rw [eq_i]
    cases decide (t.1 = x) <;> walk_at "ev")]
  walk_at "ev"
  rw [show (P.filter fun t => decide (t.1 = x)).map (fun t => PyData.int t.2) = ((P.filter fun t => decide (t.1 = x)).map (·.2)).map PyData.int by rw [List.map_map]; rfl, ne_nil_i]
  have : (P.filter fun t => decide (t.1 = x)).map (·.2) ≠ [] := fun z => by
    obtain ⟨t, ht, e⟩ := he
    have : t ∈ P.filter fun t => decide (t.1 = x) := List.mem_filter.mpr ⟨ht, decide_eq_true e⟩
    rw [List.map_eq_nil_iff.mp z] at this
    cases this
  rw [decide_eq_false this]
  walk_at "ev"
theorem run_possible (n : Nat) {P : List Pt} (w : W) (x : Int) (h : Pts P) (h2 : 2 ≤ P.length) (hs : Str P) (hx : -1000 ≤ x ∧ x ≤ 1000) (hn : ∀ t ∈ P, t.1 ≠ x) : ∃ l m, run (n + 28) .f_possible [pD P, .int x] w = .ok (.lst ((hsL l m).map PyData.int)) w ∧ Hts P x l m ∧ -10000000 ≤ l ∧ m ≤ 10000000 := by
  have hm := h.most
  obtain ⟨p, q, e1, hL, _⟩ := run_leanest n w h hs
  have ex := lean_ex h.one h.inc hL
  have q0 := hL.q0
  have q1 := hL.q1
  generalize oL P p q = c at e1 ex
  have hmid : Str (P ++ [(x, ht p q c x)]) := line_str (p := p) (q := q) (c := c) hL.q0 fun t m => by
    rcases List.mem_append.mp m with m | m
    · exact ex t m
    · rw [List.mem_singleton] at m
      subst m
      rfl
  have near : ∀ y, Str (P ++ [(x, y)]) → y - ht p q c x ≤ 4001 ∧ ht p q c x - y ≤ 4001 := fun y hy => by
    have hlt : (P[0]'(by omega)).1 < (P[1]'(by omega)).1 := List.pairwise_iff_getElem.mp h.inc 0 1 (by omega) (by omega) (by decide)
    have b0 := h.bnd (P[0]'(by omega)) (List.getElem_mem _)
    have b1 := h.bnd (P[1]'(by omega)) (List.getElem_mem _)
    have := poss_near w h h2 hx hn hy hL.q0 ex (e := 2000) (by omega) (List.getElem_mem (show 0 < P.length by omega)) (List.getElem_mem (show 1 < P.length by omega)) hlt (by omega) (by omega)
    omega
  have bds := fun y hy => str_bds h h2 hx hn (y := y) hy
  have hbm := bds _ hmid
  (rw [run_def _ _ Bf_possible rfl, runD_eq Bf_possible _ _ _ _ ⟨rfl, by decide⟩ rfl rfl]; unfold Bf_possible; simp only [List.map_cons, List.map_nil, List.length_cons, List.length_nil, List.replicate, List.cons_append, List.nil_append, Nat.reduceAdd, Nat.reduceSub])
  walk_at "ev"
  rw [if_pos (sizeOk_L _ (by omega)), comp_filter (step := fCI (run (n + 27)) f_possible_s2 f_possible_s1) (w := w) ofPair (fun t => .int t.2) (fun t => decide (t.1 = x)) P (fun t ht => by
    refine ⟨_, rfl, ?_⟩
    unfold fCI f_possible_s1 f_possible_s2
    walk_at "ev"
    rw [eq_i]
    cases decide (t.1 = x) <;> walk_at "ev"), show P.filter (fun t => decide (t.1 = x)) = [] from List.filter_eq_nil_iff.mpr fun t ht => by rw [decide_eq_true_eq]; exact hn t ht]
  walk_at "ev"
  rw [show cmpV .ne (.lst (List.map (fun t : Pt => PyData.int t.2) [])) (.lst []) = some (.bl false) from rfl]
  walk_at "ev"
  rw [e1]
  walk_at "ev"
  rw [mul_j (by omega)]
  walk_at "ev"
  rw [fdiv_i ⟨q0, by omega⟩]
  walk_at "ev"
  generalize hmd : ht p q c x = md at hmid near hbm
  rw [show (p * x + c) / q = md from hmd]
  obtain ⟨ρ', w', E1, rfl, l, rfl, sl, ll, nl⟩ := while_inv (test := fE (run (n + 27)) f_possible_s3) (body := fB (run (n + 27)) f_possible_s4)
    (fun ρ w' => w' = w ∧ ∃ a, ρ = [.val (pD P), .val (.int x), .val (.lst (List.map (fun t : Pt => PyData.int t.2) [])), .val (.int md), .val (.int p), .val (.int q), .val (.int c), .val (.int a), .val (.int md), .un, .un] ∧ Str (P ++ [(x, a)]) ∧ a ≤ md)
    (fun ρ _ => match ρ[7]? with | some (Ev.Slot.val (D.p (PyData.int a))) => (a - (md - 4002)).toNat | _ => 0)
    (fun ρ w' => w' = w ∧ ∃ a, ρ = [.val (pD P), .val (.int x), .val (.lst (List.map (fun t : Pt => PyData.int t.2) [])), .val (.int md), .val (.int p), .val (.int q), .val (.int c), .val (.int a), .val (.int md), .un, .un] ∧ Str (P ++ [(x, a)]) ∧ a ≤ md ∧ ¬ Str (P ++ [(x, a - 1)]))
    (fun ρ w' ⟨hw, a, hr, sa, la⟩ => by
      subst hw hr
      have ba := bds a sa
      have na := near a sa
      have hg := ins_g h.g (by omega) hx (y := a - 1) (by omega) hn
      have et : fE (run (n + 27)) f_possible_s3 [.val (pD P), .val (.int x), .val (.lst (List.map (fun t : Pt => PyData.int t.2) [])), .val (.int md), .val (.int p), .val (.int q), .val (.int c), .val (.int a), .val (.int md), .un, .un] w' = .ok (.bl (@decide (Str (ins P x (a - 1))) (Classical.propDecidable _))) w' := by
        unfold fE f_possible_s3
        walk_at "ev"
        rw [run_with_point (n + 26) w' x (a - 1) (by omega) hn]
        walk_at "ev"
        rw [run_straightG (n + 23) w' hg]
      by_cases hs1 : Str (P ++ [(x, a - 1)])
      · refine .inr ⟨w', [.val (pD P), .val (.int x), .val (.lst (List.map (fun t : Pt => PyData.int t.2) [])), .val (.int md), .val (.int p), .val (.int q), .val (.int c), .val (.int (a - 1)), .val (.int md), .un, .un], w', ?_, ?_, ⟨rfl, a - 1, rfl, hs1, by omega⟩, ?_⟩
        · rw [et, @decide_eq_true _ (Classical.propDecidable _) ((ins_str P x (a - 1)).mpr hs1)]
        · unfold fB f_possible_s4
          walk_at "ev"
          rfl
        · show (a - 1 - (md - 4002)).toNat < (a - (md - 4002)).toNat
          omega
      · refine .inl ⟨w', ?_, rfl, a, rfl, sa, la, hs1⟩
        rw [et, @decide_eq_false _ (Classical.propDecidable _) (fun z => hs1 ((ins_str P x (a - 1)).mp z))])
    whileMost [.val (pD P), .val (.int x), .val (.lst (List.map (fun t : Pt => PyData.int t.2) [])), .val (.int md), .val (.int p), .val (.int q), .val (.int c), .val (.int md), .val (.int md), .un, .un] w ⟨rfl, md, rfl, hmid, Int.le_refl _⟩ (by
      show (md - (md - 4002)).toNat < 1000000
      omega)
  rw [E1]
  walk_at "ev"
  obtain ⟨ρ', w'', E2, rfl, m, rfl, sm, lm, nm⟩ := while_inv (test := fE (run (n + 27)) f_possible_s5) (body := fB (run (n + 27)) f_possible_s6)
    (fun ρ w'' => w'' = w' ∧ ∃ a, ρ = [.val (pD P), .val (.int x), .val (.lst (List.map (fun t : Pt => PyData.int t.2) [])), .val (.int md), .val (.int p), .val (.int q), .val (.int c), .val (.int l), .val (.int a), .un, .un] ∧ Str (P ++ [(x, a)]) ∧ md ≤ a)
    (fun ρ _ => match ρ[8]? with | some (Ev.Slot.val (D.p (PyData.int a))) => (md + 4002 - a).toNat | _ => 0)
    (fun ρ w'' => w'' = w' ∧ ∃ a, ρ = [.val (pD P), .val (.int x), .val (.lst (List.map (fun t : Pt => PyData.int t.2) [])), .val (.int md), .val (.int p), .val (.int q), .val (.int c), .val (.int l), .val (.int a), .un, .un] ∧ Str (P ++ [(x, a)]) ∧ md ≤ a ∧ ¬ Str (P ++ [(x, a + 1)]))
    (fun ρ w'' ⟨hw, a, hr, sa, la⟩ => by
      subst hw hr
      have ba := bds a sa
      have na := near a sa
      have hg := ins_g h.g (by omega) hx (y := a + 1) (by omega) hn
      have et : fE (run (n + 27)) f_possible_s5 [.val (pD P), .val (.int x), .val (.lst (List.map (fun t : Pt => PyData.int t.2) [])), .val (.int md), .val (.int p), .val (.int q), .val (.int c), .val (.int l), .val (.int a), .un, .un] w'' = .ok (.bl (@decide (Str (ins P x (a + 1))) (Classical.propDecidable _))) w'' := by
        unfold fE f_possible_s5
        walk_at "ev"
        rw [run_with_point (n + 26) w'' x (a + 1) (by omega) hn]
        walk_at "ev"
        rw [run_straightG (n + 23) w'' hg]
      by_cases hs1 : Str (P ++ [(x, a + 1)])
      · refine .inr ⟨w'', [.val (pD P), .val (.int x), .val (.lst (List.map (fun t : Pt => PyData.int t.2) [])), .val (.int md), .val (.int p), .val (.int q), .val (.int c), .val (.int l), .val (.int (a + 1)), .un, .un], w'', ?_, ?_, ⟨rfl, a + 1, rfl, hs1, by omega⟩, ?_⟩
        · rw [et, @decide_eq_true _ (Classical.propDecidable _) ((ins_str P x (a + 1)).mpr hs1)]
        · unfold fB f_possible_s6
          walk_at "ev"
          rfl
        · show (md + 4002 - (a + 1)).toNat < (md + 4002 - a).toNat
          omega
      · refine .inl ⟨w'', ?_, rfl, a, rfl, sa, la, hs1⟩
        rw [et, @decide_eq_false _ (Classical.propDecidable _) (fun z => hs1 ((ins_str P x (a + 1)).mp z))])
    whileMost [.val (pD P), .val (.int x), .val (.lst (List.map (fun t : Pt => PyData.int t.2) [])), .val (.int md), .val (.int p), .val (.int q), .val (.int c), .val (.int l), .val (.int md), .un, .un] w' ⟨rfl, md, rfl, hmid, Int.le_refl _⟩ (by
      show (md + 4002 - md).toNat < 1000000
      omega)
  rw [E2]
  walk_at "ev"
  have bl := bds l sl
  have nl2 := near l sl
  have nm2 := near m sm
  have bm := bds m sm
  rw [show lrngV (.int l) (.int (m + 1)) = some (.lst (rngL l (m + 1 - l).toNat)) from if_pos ⟨decide_eq_true (by omega), decide_eq_true (by omega), by omega⟩, rngL_eq]
  walk_at "ev"
  refine ⟨l, m, ?_, ⟨by omega, fun y => ⟨fun hy => ⟨?_, ?_⟩, fun hy => str_mid sl sm hy.1 hy.2⟩⟩, by omega, by omega⟩
  · rw [show (hsL l m).map PyData.int = (List.range (m + 1 - l).toNat).map fun k : Nat => PyData.int (l + (k : Int)) by rw [List.map_map]; rfl]
  · rcases Int.lt_or_le y l with z | z
    · exact absurd (str_mid hy hmid (y := l - 1) (by omega) (by omega)) nl
    · exact z
  · rcases Int.lt_or_le m y with z | z
    · exact absurd (str_mid hmid hy (y := m + 1) (by omega) (by omega)) nm
    · exact z
end Px

end

section
/-! LibZ: the strip's methods. -/
namespace Px
open PySem Ev
local macro_rules | `(tactic| walk_at "ev") => `(tactic| simp -implicitDefEqProofs only [e_var, e_non, e_call0, e_mkS, e_meth, e_meth0, e_srow, e_noPast, e_lenS, e_neO, s_setRow, s_appPast, s_popPast, s_popO, s_par3O, e_sset, e_fmt, e_fstr, e_join, e_split, e_bl, e_int, e_str, e_gint, e_bin, e_neg, e_not, e_cmp, e_chain, e_and, e_or, e_and1, e_or1, e_ite, e_call, e_bcall, e_isi, e_ix, e_sl, e_tup, e_lst, e_comp, e_compIf, e_lenO, e_ixO, e_ninO, e_index, e_count, e_lenum, e_lrng, e_slS, es_nil, es_cons, i_seq, i_r1, i_r2, i_r3, i_enum, i_zip, o_non, o_some, s_set, s_setO, s_parO, s_par, s_unp, s_aug, s_extO, s_app, s_stO, s_ife, s_for, s_while, s_ret, s_retN, s_expr, s_raise, s_pass, b_nil, b_cons, b_frz, lt_i, le_i, gt_i, ge_i, add_i, sub_i, neg_i, not_b, isN_p, isnN_p, isB, isnB, ix_p0, ix_p1, isN_none, isN_pair, isN_int, isN_tup, isN_lst, tup_pair, typ, len_p, u0, u1, u2, pl_nil, pl_cons, seq_l, seq_t, len_l, len_t, list_l, list_t, abs_i, enum_l, sds0, sdsC, svs0, svsC, nx_s, plainR_ok, toB_b, set0, setS, no_nil, no_c, no_v, no_o, no_u, wp_nil, wp_cons, tg1, tgT, tyi, tyib, tyil, tyit, tytt, tytl, tyll, tylt, tybb, rok, rokO, rex, rexO, finN, finT, finX, onx, ort, oex, lifs, tstb, tstbP, gv0, gvS, go0, goS, sv0, svS, Nat.reduceAdd, Option.map_some, Option.bind_some, Bool.not_true, Bool.not_false, if_true, if_false, Bool.false_eq_true, ↓reduceIte, reduceCtorEq, List.length_cons, List.length_nil, Option.map_none, decide_true, decide_false, Bool.true_and, Bool.false_and])
abbrev rdD (R : List Pt) : PyData := .list (R.map ofPair)
structure OkR (t : Nat) (R : List Pt) : Prop where
  most : R.length ≤ t
  bnd : ∀ p ∈ R, (-1000 ≤ p.1 ∧ p.1 ≤ 1000) ∧ (-1000 ≤ p.2 ∧ p.2 ≤ 1000)
  inc : R.Pairwise fun p q => p.1 < q.1
  str : Str R
theorem OkR.g {t : Nat} {R : List Pt} (h : OkR t R) (ht : t ≤ 20) : PtsG R := ⟨by have := h.most; omega, fun p hp => by have := h.bnd p hp; omega, h.inc⟩
theorem OkR.pts {t : Nat} {R : List Pt} (h : OkR t R) (ht : t ≤ 20) (hn : R ≠ []) : Pts R := ⟨by have := List.length_pos_iff.mpr hn; omega, by have := h.most; omega, h.bnd, h.inc⟩
theorem in_intsZ (x : Int) (l : List Int) : cmpV .in_ (.int x) (.lst (l.map PyData.int)) = some (.bl (decide (x ∈ l))) := by
  have := in_b (n := 0) (m := 0) (d := .int x) (xs := l.map PyData.int) (b := decide (x ∈ l)) (PL.int 0 x) (fun d hd => by
    obtain ⟨i, _, rfl⟩ := List.mem_map.mp hd
    exact PL.int 0 i) (by decide) (by decide) (by
    rw [decide_eq_true_eq, List.mem_map]
    constructor
    · exact fun h => ⟨x, h, rfl⟩
    · rintro ⟨i, h, e⟩
      cases e
      exact h)
  exact this.1
theorem in_ptsZ (t : Pt) (Q : List Pt) : cmpV .in_ (.p (ofPair t)) (pD Q) = some (.bl (decide (t ∈ Q))) ∧ cmpV .nin (.p (ofPair t)) (pD Q) = some (.bl (!decide (t ∈ Q))) := by
  have := in_b (n := 1) (m := 1) (d := ofPair t) (xs := Q.map ofPair) (b := decide (t ∈ Q)) (PL.pair t) (fun d hd => by
    obtain ⟨i, _, rfl⟩ := List.mem_map.mp hd
    exact PL.pair i) (by decide) (by decide) (by
    rw [decide_eq_true_eq, List.mem_map]
    constructor
    · exact fun h => ⟨t, h, rfl⟩
    · rintro ⟨i, h, e⟩
      rw [← ofPair_inj e]
      exact h)
  exact ⟨this.1, this.2.1⟩
/-- the places -/
abbrev xsOf (R : List Pt) : List Int := R.map (·.1)
theorem ins_ok {t : Nat} {R : List Pt} (h : OkR t R) (ht : t ≤ 19) {x y : Int} (hx : -1000 ≤ x ∧ x ≤ 1000) (hy : -1000 ≤ y ∧ y ≤ 1000) (hn : x ∉ xsOf R) (hs : Str (ins R x y)) : OkR (t + 1) (ins R x y) ∧ (ins R x y).length = R.length + 1 := by
  have hl : (ins R x y).length = R.length + 1 := by rw [(ins_perm R x y).length_eq, List.length_append, List.length_singleton]
  have hn' : ∀ t ∈ R, t.1 ≠ x := fun t ht e => hn (List.mem_map.mpr ⟨t, ht, e⟩)
  refine ⟨⟨by have := h.most; omega, fun p hp => ?_, (ins_g (h.g (by omega)) (by have := h.most; omega) hx (by omega) hn').inc, hs⟩, hl⟩
  rcases List.mem_append.mp ((ins_perm R x y).mem_iff.mp hp) with hp | hp
  · exact h.bnd p hp
  · rw [List.mem_singleton] at hp
    subst hp
    exact ⟨hx, hy⟩
theorem ins_G {t : Nat} {R : List Pt} (h : OkR t R) (ht : t ≤ 19) {x y : Int} (hx : -1000 ≤ x ∧ x ≤ 1000) (hy : -1000 ≤ y ∧ y ≤ 1000) (hn : x ∉ xsOf R) : PtsG (ins R x y) :=
  ins_g (h.g (by omega)) (by have := h.most; omega) hx (by omega) fun t ht e => hn (List.mem_map.mpr ⟨t, ht, e⟩)
section
variable {dr : Option (List Int × Int)} {sc : Option (Nat × List Int)} {H : List PyData} {t : Nat} {R : List Pt}
open Classical in
theorem run_m_fits (n : Nat) (h : OkR t R) (ht : t ≤ 19) {x y : Int} (hx : -1000 ≤ x ∧ x ≤ 1000) (hy : -1000 ≤ y ∧ y ≤ 1000) :
    run (n + 6) .m_fits [.stp, .p (ofPair (x, y))] ⟨dr, some (rdD R, H), sc⟩ = .ok (.bl (if x ∈ xsOf R then decide ((x, y) ∈ R) else decide (Str (ins R x y)))) ⟨dr, some (rdD R, H), sc⟩ := by
  have hl := h.most
  (rw [run_def _ _ Bm_fits rfl, runD_eq Bm_fits _ _ _ _ ⟨rfl, by decide⟩ rfl rfl]; unfold Bm_fits; simp only [List.map_cons, List.map_nil, List.length_cons, List.length_nil, List.replicate, List.cons_append, List.nil_append, Nat.reduceAdd, Nat.reduceSub])
  walk_at "ev"
  rw [run_is_point (n + 3) (x, y) _ ⟨hx, hy⟩]
  walk_at "ev"
  rw [if_pos (sizeOk_le (by rw [List.length_map]; omega)), comp_map (step := fC (run (n + 5)) m_fits_s1) ofPair (fun t : Pt => .int t.1) R (fun t ht => by
    refine ⟨_, rfl, ?_⟩
    unfold fC m_fits_s1
    walk_at "ev")]
  walk_at "ev"
  rw [show (R.map fun t : Pt => PyData.int t.1) = (xsOf R).map PyData.int by rw [List.map_map]; rfl, in_intsZ]
  walk_at "ev"
  by_cases hn : x ∈ xsOf R
  · rw [decide_eq_true hn, if_pos hn]
    walk_at "ev"
    rw [(in_ptsZ _ _).1]
    walk_at "ev"
  · rw [decide_eq_false hn, if_neg hn]
    walk_at "ev"
    rw [List.length_map, decide_eq_true (show (R.length : Int) < 20 by omega)]
    walk_at "ev"
    rw [add_pts R x y (by omega)]
    walk_at "ev"
    rw [sorted_pts _ (by simp)]
    walk_at "ev"
    rw [show sortP (R ++ [(x, y)]) = ins R x y from rfl, run_straightG (n + 1) _ (ins_G h ht hx hy hn)]
    walk_at "ev"
open Classical in
theorem run_m_add (n : Nat) (h : OkR t R) (ht : t ≤ 19) (hH : H.length ≤ 1000) {x y : Int} (hx : -1000 ≤ x ∧ x ≤ 1000) (hy : -1000 ≤ y ∧ y ≤ 1000) :
    run (n + 6) .m_add [.stp, .p (ofPair (x, y))] ⟨dr, some (rdD R, H), sc⟩ = if x ∈ xsOf R then .exc 0 ⟨dr, some (rdD R, H), sc⟩ else if Str (ins R x y) then .ok (.int ((R.length : Int) + 1)) ⟨dr, some (rdD (ins R x y), H ++ [rdD R]), sc⟩ else .exc 5 ⟨dr, some (rdD R, H), sc⟩ := by
  have hl := h.most
  (rw [run_def _ _ Bm_add rfl, runD_eq Bm_add _ _ _ _ ⟨rfl, by decide⟩ rfl rfl]; unfold Bm_add; simp only [List.map_cons, List.map_nil, List.length_cons, List.length_nil, List.replicate, List.cons_append, List.nil_append, Nat.reduceAdd, Nat.reduceSub])
  walk_at "ev"
  rw [run_is_point (n + 3) (x, y) _ ⟨hx, hy⟩]
  walk_at "ev"
  rw [if_pos (sizeOk_le (by rw [List.length_map]; omega)), comp_map (step := fC (run (n + 5)) m_add_s1) ofPair (fun t : Pt => .int t.1) R (fun t ht => by
    refine ⟨_, rfl, ?_⟩
    unfold fC m_add_s1
    walk_at "ev")]
  walk_at "ev"
  rw [show (R.map fun t : Pt => PyData.int t.1) = (xsOf R).map PyData.int by rw [List.map_map]; rfl, in_intsZ]
  walk_at "ev"
  by_cases hn : x ∈ xsOf R
  · rw [decide_eq_true hn, if_pos hn]
    walk_at "ev"
  · rw [decide_eq_false hn, if_neg hn]
    walk_at "ev"
    rw [List.length_map, eq_i, decide_eq_false (show ¬ (R.length : Int) = 20 by omega)]
    walk_at "ev"
    rw [add_pts R x y (by omega)]
    walk_at "ev"
    rw [sorted_pts _ (by simp)]
    walk_at "ev"
    rw [show sortP (R ++ [(x, y)]) = ins R x y from rfl, run_straightG (n + 1) _ (ins_G h ht hx hy hn)]
    walk_at "ev"
    by_cases hs : Str (ins R x y)
    · rw [decide_eq_true hs, if_pos hs]
      walk_at "ev"
      rw [if_pos (sizeOk_le (by omega))]
      walk_at "ev"
      rw [List.length_map, show (ins R x y).length = R.length + 1 by rw [(ins_perm R x y).length_eq, List.length_append, List.length_singleton]]
      rfl
    · rw [decide_eq_false hs, if_neg hs]
      walk_at "ev"
theorem run_m_slopes (n : Nat) (h : OkR t R) (ht : t ≤ 19) : ∃ lo hi, run (n + 4) .m_slopes [.stp] ⟨dr, some (rdD R, H), sc⟩ = .ok (.tup [lo, hi]) ⟨dr, some (rdD R, H), sc⟩ ∧ run (n + 3) .f_bounds [pD R] ⟨dr, some (rdD R, H), sc⟩ = .ok (.tup [lo, hi]) ⟨dr, some (rdD R, H), sc⟩ := by
  obtain ⟨lo, hi, e, _⟩ := run_boundsG n (w := ⟨dr, some (rdD R, H), sc⟩) (h.g (by omega))
  refine ⟨lo, hi, ?_, e⟩
  (rw [run_def _ _ Bm_slopes rfl, runD_eq Bm_slopes _ _ _ _ ⟨rfl, by decide⟩ rfl rfl]; unfold Bm_slopes; simp only [List.map_cons, List.map_nil, List.length_cons, List.length_nil, List.replicate, List.cons_append, List.nil_append, Nat.reduceAdd, Nat.reduceSub])
  walk_at "ev"
  rw [e]
  walk_at "ev"
theorem run_m_points (n : Nat) : run (n + 1) .m_points [.stp] ⟨dr, some (rdD R, H), sc⟩ = .ok (pD R) ⟨dr, some (rdD R, H), sc⟩ := by
  (rw [run_def _ _ Bm_points rfl, runD_eq Bm_points _ _ _ _ ⟨rfl, by decide⟩ rfl rfl]; unfold Bm_points; simp only [List.map_cons, List.map_nil, List.length_cons, List.length_nil, List.replicate, List.cons_append, List.nil_append, Nat.reduceAdd, Nat.reduceSub])
  walk_at "ev"
theorem run_m_line (n : Nat) : run (n + 1) .m_line [.stp] ⟨dr, some (rdD R, H), sc⟩ = if R = [] then .exc 6 ⟨dr, some (rdD R, H), sc⟩ else run n .f_leanest [pD R] ⟨dr, some (rdD R, H), sc⟩ := by
  (rw [run_def _ _ Bm_line rfl, runD_eq Bm_line _ _ _ _ ⟨rfl, by decide⟩ rfl rfl]; unfold Bm_line; simp only [List.map_cons, List.map_nil, List.length_cons, List.length_nil, List.replicate, List.cons_append, List.nil_append, Nat.reduceAdd, Nat.reduceSub])
  walk_at "ev"
  rw [show cmpV .eq (pD R) (.lst []) = some (.bl (decide (R = []))) from eq_b (PL.pts _) PL.nil (by decide) (by decide) (by simp)]
  walk_at "ev"
  by_cases hR : R = []
  · rw [decide_eq_true hR, if_pos hR]
    walk_at "ev"
  · rw [decide_eq_false hR, if_neg hR]
    walk_at "ev"
    cases run n .f_leanest [pD R] ⟨dr, some (rdD R, H), sc⟩ <;> rfl
theorem run_m_undo (n : Nat) (H : List (List Pt)) : run (n + 1) .m_undo [.stp] ⟨dr, some (rdD R, H.map rdD), sc⟩ = match H.getLast? with
    | none => .exc 6 ⟨dr, some (rdD R, H.map rdD), sc⟩
    | some Q => .ok .non ⟨dr, some (rdD Q, (H.dropLast).map rdD), sc⟩ := by
  (rw [run_def _ _ Bm_undo rfl, runD_eq Bm_undo _ _ _ _ ⟨rfl, by decide⟩ rfl rfl]; unfold Bm_undo; simp only [List.map_cons, List.map_nil, List.length_cons, List.length_nil, List.replicate, List.cons_append, List.nil_append, Nat.reduceAdd, Nat.reduceSub])
  walk_at "ev"
  have pl : PL 3 (.list (H.map rdD)) := PL.lst fun d hd => by
    obtain ⟨Q, _, rfl⟩ := List.mem_map.mp hd
    exact PL.pts Q
  rw [show cmpD .eq (.list (H.map rdD)) (.list []) = some (decide (H = [])) by
    have := eq_b (d := .list (H.map rdD)) (e := .list []) (b := decide (H = [])) pl PL.nil (by decide) (by decide) (by simp)
    have e2 : (cmpD .eq (.list (H.map rdD)) (.list [])).map D.bl = some (.bl (decide (H = []))) := this
    cases hc : cmpD .eq (.list (H.map rdD)) (.list []) with
    | none => rw [hc] at e2; cases e2
    | some b => rw [hc] at e2; cases e2; rfl]
  walk_at "ev"
  by_cases hH : H = []
  · subst hH
    rw [decide_eq_true rfl]
    walk_at "ev"
    rfl
  · rw [decide_eq_false hH]
    walk_at "ev"
    rw [List.length_map, List.getElem?_map, List.getLast?_eq_getElem?]
    have : H.length - 1 < H.length := by have := List.length_pos_iff.mpr hH; omega
    rw [List.getElem?_eq_getElem this]
    dsimp only [Option.map_some]
    walk_at "ev"
    rw [List.map_dropLast]
theorem run_m_drop (n : Nat) (h : OkR t R) (ht : t ≤ 19) (hH : H.length ≤ 1000) (x : Int) :
    run (n + 1) .m_drop [.stp, .int x] ⟨dr, some (rdD R, H), sc⟩ = match (R.filter fun t => decide (t.1 = x)) with
      | [] => .exc 6 ⟨dr, some (rdD R, H), sc⟩
      | p :: _ => .ok (.int p.2) ⟨dr, some (rdD (R.filter fun t => !decide (t.1 = x)), H ++ [rdD R]), sc⟩ := by
  have hl := h.most
  (rw [run_def _ _ Bm_drop rfl, runD_eq Bm_drop _ _ _ _ ⟨rfl, by decide⟩ rfl rfl]; unfold Bm_drop; simp only [List.map_cons, List.map_nil, List.length_cons, List.length_nil, List.replicate, List.cons_append, List.nil_append, Nat.reduceAdd, Nat.reduceSub])
  walk_at "ev"
  rw [if_pos (sizeOk_le (by rw [List.length_map]; omega)), comp_filter (step := fCI (run n) m_drop_s2 m_drop_s1) ofPair ofPair (fun t : Pt => decide (t.1 = x)) R (fun t ht => by
    refine ⟨_, rfl, ?_⟩
    unfold fCI m_drop_s1 m_drop_s2
    walk_at "ev"
    rw [eq_i]
    walk_at "ev"
    cases decide (t.1 = x) <;> walk_at "ev")]
  walk_at "ev"
  generalize hF : (R.filter fun t : Pt => decide (t.1 = x)) = F
  have hmem : ∀ q ∈ R, (q ∈ F ↔ q.1 = x) := fun q hq => by
    rw [← hF, List.mem_filter, decide_eq_true_eq]
    exact ⟨fun z => z.2, fun z => ⟨hq, z⟩⟩
  rw [show cmpV .eq (pD F) (.lst []) = some (.bl (decide (F = []))) from eq_b (PL.pts _) PL.nil (by decide) (by decide) (by simp)]
  walk_at "ev"
  cases F with
  | nil =>
    rw [decide_eq_true rfl]
    walk_at "ev"
  | cons p F =>
    rw [decide_eq_false (show ¬ p :: F = [] from fun z => nomatch z)]
    walk_at "ev"
    rw [if_pos (sizeOk_le (by omega))]
    walk_at "ev"
    rw [if_pos (sizeOk_le (by rw [List.length_map]; omega)), comp_filter (step := fCI (run n) m_drop_s2 m_drop_s3) ofPair ofPair (fun t : Pt => !decide (t.1 = x)) R (fun t ht => by
      refine ⟨_, rfl, ?_⟩
      unfold fCI m_drop_s3 m_drop_s2
      walk_at "ev"
      rw [(in_ptsZ t (p :: F)).2, show decide (t ∈ p :: F) = decide (t.1 = x) from decide_eq_decide.mpr (hmem t ht)]
      walk_at "ev"
      cases decide (t.1 = x) <;> walk_at "ev")]
    walk_at "ev"
    rw [show ixV (pD (p :: F)) (.int 0) = some (.p (ofPair p)) from ix_l ofPair (p :: F) 0 (by simp)]
    walk_at "ev"
end
end Px

end

section
/-! LibZ2: the strip's calls as the law makes them; draws that leave the strip alone. -/
namespace Px
open PySem Ev
local macro_rules | `(tactic| walk_at "ev") => `(tactic| simp -implicitDefEqProofs only [e_var, e_non, e_call0, e_mkS, e_meth, e_meth0, e_srow, e_noPast, e_lenS, e_neO, s_setRow, s_appPast, s_popPast, s_popO, s_par3O, e_sset, e_fmt, e_fstr, e_join, e_split, e_bl, e_int, e_str, e_gint, e_bin, e_neg, e_not, e_cmp, e_chain, e_and, e_or, e_and1, e_or1, e_ite, e_call, e_bcall, e_isi, e_ix, e_sl, e_tup, e_lst, e_comp, e_compIf, e_lenO, e_ixO, e_ninO, e_index, e_count, e_lenum, e_lrng, e_slS, es_nil, es_cons, i_seq, i_r1, i_r2, i_r3, i_enum, i_zip, o_non, o_some, s_set, s_setO, s_parO, s_par, s_unp, s_aug, s_extO, s_app, s_stO, s_ife, s_for, s_while, s_ret, s_retN, s_expr, s_raise, s_pass, b_nil, b_cons, b_frz, lt_i, le_i, gt_i, ge_i, add_i, sub_i, neg_i, not_b, isN_p, isnN_p, isB, isnB, ix_p0, ix_p1, isN_none, isN_pair, isN_int, isN_tup, isN_lst, tup_pair, typ, len_p, u0, u1, u2, pl_nil, pl_cons, seq_l, seq_t, len_l, len_t, list_l, list_t, abs_i, enum_l, sds0, sdsC, svs0, svsC, nx_s, plainR_ok, toB_b, set0, setS, no_nil, no_c, no_v, no_o, no_u, wp_nil, wp_cons, tg1, tgT, tyi, tyib, tyil, tyit, tytt, tytl, tyll, tylt, tybb, rok, rokO, rex, rexO, finN, finT, finX, onx, ort, oex, lifs, tstb, tstbP, gv0, gvS, go0, goS, sv0, svS, Nat.reduceAdd, Option.map_some, Option.bind_some, Bool.not_true, Bool.not_false, if_true, if_false, Bool.false_eq_true, ↓reduceIte, reduceCtorEq, List.length_cons, List.length_nil, Option.map_none, decide_true, decide_false, Bool.true_and, Bool.false_and])
theorem isnX (c : Nat) : cmpV .is_ (.exc c) .non = some (.bl false) := rfl
theorem isNN : cmpV .is_ .non .non = some (.bl true) := rfl
theorem call0_ok (n : Nat) {x : PyData} {d : D} {w w' : W} (h : run n .m_add [.stp, .p x] w = .ok d w') : run (n + 1) .f_law_call [.stp, .int 0, .p x] w = .ok d w' := by
  (rw [run_def _ _ Bf_law_call rfl, runD_eq Bf_law_call _ _ _ _ ⟨rfl, by decide⟩ rfl rfl]; unfold Bf_law_call; simp only [List.map_cons, List.map_nil, List.length_cons, List.length_nil, List.replicate, List.cons_append, List.nil_append, Nat.reduceAdd, Nat.reduceSub])
  walk_at "ev"
  rw [s_try]
  walk_at "ev"
  rw [show cmpV .eq (.int 0) (.int 0) = some (.bl true) from rfl]
  walk_at "ev"
  rw [h]
  walk_at "ev"
theorem call0_exc (n : Nat) {x : PyData} {c : Nat} {w w' : W} (h : run (n + 1) .m_add [.stp, .p x] w = .exc c w') (hc : c ≤ 6) : run (n + 2) .f_law_call [.stp, .int 0, .p x] w = .ok (.str (exT c)) w' := by
  (rw [run_def _ _ Bf_law_call rfl, runD_eq Bf_law_call _ _ _ _ ⟨rfl, by decide⟩ rfl rfl]; unfold Bf_law_call; simp only [List.map_cons, List.map_nil, List.length_cons, List.length_nil, List.replicate, List.cons_append, List.nil_append, Nat.reduceAdd, Nat.reduceSub])
  walk_at "ev"
  rw [s_try]
  walk_at "ev"
  rw [show cmpV .eq (.int 0) (.int 0) = some (.bl true) from rfl]
  walk_at "ev"
  rw [h]
  walk_at "ev"
  rw [if_pos ⟨hc, by decide⟩]
  walk_at "ev"
  rw [isnX]
  walk_at "ev"
  rw [run_law_error n c w' hc]
  walk_at "ev"
theorem call1_ok (n : Nat) {x : PyData} {d : D} {w w' : W} (h : run n .m_drop [.stp, .p x] w = .ok d w') : run (n + 1) .f_law_call [.stp, .int 1, .p x] w = .ok d w' := by
  (rw [run_def _ _ Bf_law_call rfl, runD_eq Bf_law_call _ _ _ _ ⟨rfl, by decide⟩ rfl rfl]; unfold Bf_law_call; simp only [List.map_cons, List.map_nil, List.length_cons, List.length_nil, List.replicate, List.cons_append, List.nil_append, Nat.reduceAdd, Nat.reduceSub])
  walk_at "ev"
  rw [s_try]
  walk_at "ev"
  rw [show cmpV .eq (.int 1) (.int 0) = some (.bl false) from rfl]
  walk_at "ev"
  rw [show cmpV .eq (.int 1) (.int 1) = some (.bl true) from rfl]
  walk_at "ev"
  rw [h]
  walk_at "ev"
theorem call1_exc (n : Nat) {x : PyData} {c : Nat} {w w' : W} (h : run (n + 1) .m_drop [.stp, .p x] w = .exc c w') (hc : c ≤ 6) : run (n + 2) .f_law_call [.stp, .int 1, .p x] w = .ok (.str (exT c)) w' := by
  (rw [run_def _ _ Bf_law_call rfl, runD_eq Bf_law_call _ _ _ _ ⟨rfl, by decide⟩ rfl rfl]; unfold Bf_law_call; simp only [List.map_cons, List.map_nil, List.length_cons, List.length_nil, List.replicate, List.cons_append, List.nil_append, Nat.reduceAdd, Nat.reduceSub])
  walk_at "ev"
  rw [s_try]
  walk_at "ev"
  rw [show cmpV .eq (.int 1) (.int 0) = some (.bl false) from rfl]
  walk_at "ev"
  rw [show cmpV .eq (.int 1) (.int 1) = some (.bl true) from rfl]
  walk_at "ev"
  rw [h]
  walk_at "ev"
  rw [if_pos ⟨hc, by decide⟩]
  walk_at "ev"
  rw [isnX]
  walk_at "ev"
  rw [run_law_error n c w' hc]
  walk_at "ev"
theorem call2_ok (n : Nat) {x : PyData} {d : D} {w w' : W} (h : run n .m_undo [.stp] w = .ok d w') : run (n + 1) .f_law_call [.stp, .int 2, .p x] w = .ok d w' := by
  (rw [run_def _ _ Bf_law_call rfl, runD_eq Bf_law_call _ _ _ _ ⟨rfl, by decide⟩ rfl rfl]; unfold Bf_law_call; simp only [List.map_cons, List.map_nil, List.length_cons, List.length_nil, List.replicate, List.cons_append, List.nil_append, Nat.reduceAdd, Nat.reduceSub])
  walk_at "ev"
  rw [s_try]
  walk_at "ev"
  rw [show cmpV .eq (.int 2) (.int 0) = some (.bl false) from rfl]
  walk_at "ev"
  rw [show cmpV .eq (.int 2) (.int 1) = some (.bl false) from rfl]
  walk_at "ev"
  rw [show cmpV .eq (.int 2) (.int 2) = some (.bl true) from rfl]
  walk_at "ev"
  rw [h]
  walk_at "ev"
theorem call2_exc (n : Nat) {x : PyData} {c : Nat} {w w' : W} (h : run (n + 1) .m_undo [.stp] w = .exc c w') (hc : c ≤ 6) : run (n + 2) .f_law_call [.stp, .int 2, .p x] w = .ok (.str (exT c)) w' := by
  (rw [run_def _ _ Bf_law_call rfl, runD_eq Bf_law_call _ _ _ _ ⟨rfl, by decide⟩ rfl rfl]; unfold Bf_law_call; simp only [List.map_cons, List.map_nil, List.length_cons, List.length_nil, List.replicate, List.cons_append, List.nil_append, Nat.reduceAdd, Nat.reduceSub])
  walk_at "ev"
  rw [s_try]
  walk_at "ev"
  rw [show cmpV .eq (.int 2) (.int 0) = some (.bl false) from rfl]
  walk_at "ev"
  rw [show cmpV .eq (.int 2) (.int 1) = some (.bl false) from rfl]
  walk_at "ev"
  rw [show cmpV .eq (.int 2) (.int 2) = some (.bl true) from rfl]
  walk_at "ev"
  rw [h]
  walk_at "ev"
  rw [if_pos ⟨hc, by decide⟩]
  walk_at "ev"
  rw [isnX]
  walk_at "ev"
  rw [run_law_error n c w' hc]
  walk_at "ev"
theorem call3_ok (n : Nat) {x : PyData} {d : D} {w w' : W} (h : run n .m_line [.stp] w = .ok d w') : run (n + 1) .f_law_call [.stp, .int 3, .p x] w = .ok d w' := by
  (rw [run_def _ _ Bf_law_call rfl, runD_eq Bf_law_call _ _ _ _ ⟨rfl, by decide⟩ rfl rfl]; unfold Bf_law_call; simp only [List.map_cons, List.map_nil, List.length_cons, List.length_nil, List.replicate, List.cons_append, List.nil_append, Nat.reduceAdd, Nat.reduceSub])
  walk_at "ev"
  rw [s_try]
  walk_at "ev"
  rw [show cmpV .eq (.int 3) (.int 0) = some (.bl false) from rfl]
  walk_at "ev"
  rw [show cmpV .eq (.int 3) (.int 1) = some (.bl false) from rfl]
  walk_at "ev"
  rw [show cmpV .eq (.int 3) (.int 2) = some (.bl false) from rfl]
  walk_at "ev"
  rw [h]
  walk_at "ev"
theorem call3_exc (n : Nat) {x : PyData} {c : Nat} {w w' : W} (h : run (n + 1) .m_line [.stp] w = .exc c w') (hc : c ≤ 6) : run (n + 2) .f_law_call [.stp, .int 3, .p x] w = .ok (.str (exT c)) w' := by
  (rw [run_def _ _ Bf_law_call rfl, runD_eq Bf_law_call _ _ _ _ ⟨rfl, by decide⟩ rfl rfl]; unfold Bf_law_call; simp only [List.map_cons, List.map_nil, List.length_cons, List.length_nil, List.replicate, List.cons_append, List.nil_append, Nat.reduceAdd, Nat.reduceSub])
  walk_at "ev"
  rw [s_try]
  walk_at "ev"
  rw [show cmpV .eq (.int 3) (.int 0) = some (.bl false) from rfl]
  walk_at "ev"
  rw [show cmpV .eq (.int 3) (.int 1) = some (.bl false) from rfl]
  walk_at "ev"
  rw [show cmpV .eq (.int 3) (.int 2) = some (.bl false) from rfl]
  walk_at "ev"
  rw [h]
  walk_at "ev"
  rw [if_pos ⟨hc, by decide⟩]
  walk_at "ev"
  rw [isnX]
  walk_at "ev"
  rw [run_law_error n c w' hc]
  walk_at "ev"
/-! ### draws -/
def DrS (sp : Option (PyData × List PyData)) (w : W) : Prop := DrOk w ∧ w.sp = sp
section
variable {sp : Option (PyData × List PyData)}
theorem run_drawS (n : Nat) (lim : Int) (w : W) (h : DrS sp w) (h1 : 0 < lim ∧ lim < 1073741824) : ∃ v w', run (n + 1) .f_law_draw [.drw, .int lim] w = .ok (.int v) w' ∧ (0 ≤ v ∧ v < lim) ∧ DrS sp w' := by
  obtain ⟨h, hs⟩ := h
  obtain ⟨v, w', e, hv, hd⟩ := run_draw n lim w h h1
  refine ⟨v, w', e, hv, hd, ?_⟩
  obtain ⟨ns, c, hdr, hn⟩ := h
  have e2 : drawG [.drw, .int lim] w = .ok (.int v) w' := e
  unfold drawG at e2
  dsimp only at e2
  rw [hdr] at e2
  dsimp only at e2
  rw [if_pos ⟨hn, h1.1, h1.2⟩] at e2
  cases e2
  exact hs
theorem run_pickS (n : Nat) (xs : List PyData) (w : W) (h : DrS sp w) (h1 : xs ≠ []) (h2 : xs.length < 1000000) : ∃ x w', run (n + 2) .f_law_pick [.drw, .lst xs] w = .ok (.p x) w' ∧ x ∈ xs ∧ DrS sp w' := by
  have h0 : 0 < xs.length := List.length_pos_iff.mpr h1
  obtain ⟨v, w', e, hv, hw⟩ := run_drawS n (xs.length : Int) w h ⟨by omega, by omega⟩
  obtain ⟨k, rfl⟩ : ∃ k : Nat, v = k := ⟨v.toNat, by omega⟩
  refine ⟨xs[k]'(by omega), w', ?_, List.getElem_mem _, hw⟩
  (rw [run_def _ _ Bf_law_pick rfl, runD_eq Bf_law_pick _ _ _ _ ⟨rfl, by decide⟩ rfl rfl]; unfold Bf_law_pick; simp only [List.map_cons, List.map_nil, List.length_cons, List.length_nil, List.replicate, List.cons_append, List.nil_append, Nat.reduceAdd, Nat.reduceSub])
  walk_at "ev"
  rw [e]
  walk_at "ev"
  have := ix_l (fun x : PyData => x) xs k (by omega)
  rw [List.map_id'] at this
  rw [this]
  walk_at "ev"
theorem run_lineS (n : Nat) (w : W) (h : DrS sp w) : ∃ p q c w', run (n + 3) .f_law_line [.drw] w = .ok (.tup [.int p, .int q, .int c]) w' ∧ LnB p q c ∧ DrS sp w' := by
  obtain ⟨p, q, c, w', e, hL, hd⟩ := run_line n w h.1
  refine ⟨p, q, c, w', e, hL, hd, ?_⟩
  -- the same walk again, for the strip alone
  revert e
  (rw [run_def _ _ Bf_law_line rfl, runD_eq Bf_law_line _ _ _ _ ⟨rfl, by decide⟩ rfl rfl]; unfold Bf_law_line; simp only [List.map_cons, List.map_nil, List.length_cons, List.length_nil, List.replicate, List.cons_append, List.nil_append, Nat.reduceAdd, Nat.reduceSub])
  walk_at "ev"
  obtain ⟨x, w1, e1, hx, d1⟩ := run_pickS n [.int 2, .int 6, .int 12] w h (by simp) (by decide)
  rw [e1]
  obtain ⟨m, rfl, m1, m2⟩ : ∃ m : Int, x = .int m ∧ 2 ≤ m ∧ m ≤ 12 := by
    simp only [List.mem_cons, List.not_mem_nil, or_false] at hx
    rcases hx with rfl | rfl | rfl
    · exact ⟨2, rfl, by decide, by decide⟩
    · exact ⟨6, rfl, by decide, by decide⟩
    · exact ⟨12, rfl, by decide, by decide⟩
  walk_at "ev"
  obtain ⟨u, w2, e2, ⟨u1, u2⟩, d2⟩ := run_drawS (n + 1) m w1 d1 ⟨by omega, by omega⟩
  rw [e2]
  walk_at "ev"
  rw [mul_i (by omega)]
  walk_at "ev"
  obtain ⟨t, w3, e3, ⟨t1, t2⟩, d3⟩ := run_drawS (n + 1) (4 * (1 + u) + 1) w2 d2 ⟨by omega, by omega⟩
  rw [e3]
  walk_at "ev"
  rw [mul_i (by omega)]
  walk_at "ev"
  rw [run_law_low n (t - 2 * (1 + u)) (1 + u) w3 ⟨by omega, by omega⟩]
  walk_at "ev"
  obtain ⟨v, w4, e4, ⟨v1, v2⟩, d4⟩ := run_drawS (n + 1) 40 w3 d3 ⟨by omega, by omega⟩
  rw [e4]
  walk_at "ev"
  intro e
  have : w4 = w' := by
    first
      | exact (Res.ok.inj e).2
      | (cases e; rfl)
  rw [← this]
  exact d4.2
end
end Px

end

section
/-! LibY: a block in parts. -/
namespace Px
open PySem Ev
local macro_rules | `(tactic| walk_at "ev") => `(tactic| simp -implicitDefEqProofs only [e_var, e_non, e_call0, e_mkS, e_meth, e_meth0, e_srow, e_noPast, e_lenS, e_neO, s_setRow, s_appPast, s_popPast, s_popO, s_par3O, e_sset, e_fmt, e_fstr, e_join, e_split, e_bl, e_int, e_str, e_gint, e_bin, e_neg, e_not, e_cmp, e_chain, e_and, e_or, e_and1, e_or1, e_ite, e_call, e_bcall, e_isi, e_ix, e_sl, e_tup, e_lst, e_comp, e_compIf, e_lenO, e_ixO, e_ninO, e_index, e_count, e_lenum, e_lrng, e_slS, es_nil, es_cons, i_seq, i_r1, i_r2, i_r3, i_enum, i_zip, o_non, o_some, s_set, s_setO, s_parO, s_par, s_unp, s_aug, s_extO, s_app, s_stO, s_ife, s_for, s_while, s_ret, s_retN, s_expr, s_raise, s_pass, b_nil, b_cons, b_frz, lt_i, le_i, gt_i, ge_i, add_i, sub_i, neg_i, not_b, isN_p, isnN_p, isB, isnB, ix_p0, ix_p1, isN_none, isN_pair, isN_int, isN_tup, isN_lst, tup_pair, typ, len_p, u0, u1, u2, pl_nil, pl_cons, seq_l, seq_t, len_l, len_t, list_l, list_t, abs_i, enum_l, sds0, sdsC, svs0, svsC, nx_s, plainR_ok, toB_b, set0, setS, no_nil, no_c, no_v, no_o, no_u, wp_nil, wp_cons, tg1, tgT, tyi, tyib, tyil, tyit, tytt, tytl, tyll, tylt, tybb, rok, rokO, rex, rexO, finN, finT, finX, onx, ort, oex, lifs, tstb, tstbP, gv0, gvS, go0, goS, sv0, svS, Nat.reduceAdd, Option.map_some, Option.bind_some, Bool.not_true, Bool.not_false, if_true, if_false, Bool.false_eq_true, ↓reduceIte, reduceCtorEq, List.length_cons, List.length_nil, Option.map_none, decide_true, decide_false, Bool.true_and, Bool.false_and])
theorem evB_take {φ : Fn → List D → W → Res D} {ρ : Ev.Env} {w : W} (n : Nat) (b : MB Fn) : evB φ ρ b w = evB φ ρ (takeB n b (dropB n b)) w := by rw [take_drop]
theorem drop_add : ∀ (n m : Nat) (b : MB Fn), dropB m (dropB n b) = dropB (n + m) b
  | 0, m, b => by rw [dropB, Nat.zero_add]
  | n + 1, m, .nil => by
    have h : ∀ k, dropB k (.nil : MB Fn) = .nil := fun k => by cases k <;> rfl
    rw [h, h, h]
  | n + 1, m, .cons s b => by rw [dropB, drop_add n m b, show n + 1 + m = (n + m) + 1 by omega, dropB]
  | n + 1, m, .frz s b => by rw [dropB, drop_add n m b, show n + 1 + m = (n + m) + 1 by omega, dropB]
end Px

end

section
/-! LibX13: the end of a turn. -/
namespace Px
open PySem Ev
local macro_rules | `(tactic| walk_at "ev") => `(tactic| simp -implicitDefEqProofs only [e_var, e_non, e_call0, e_mkS, e_meth, e_meth0, e_srow, e_noPast, e_lenS, e_neO, s_setRow, s_appPast, s_popPast, s_popO, s_par3O, e_sset, e_fmt, e_fstr, e_join, e_split, e_bl, e_int, e_str, e_gint, e_bin, e_neg, e_not, e_cmp, e_chain, e_and, e_or, e_and1, e_or1, e_ite, e_call, e_bcall, e_isi, e_ix, e_sl, e_tup, e_lst, e_comp, e_compIf, e_lenO, e_ixO, e_ninO, e_index, e_count, e_lenum, e_lrng, e_slS, es_nil, es_cons, i_seq, i_r1, i_r2, i_r3, i_enum, i_zip, o_non, o_some, s_set, s_setO, s_parO, s_par, s_unp, s_aug, s_extO, s_app, s_stO, s_ife, s_for, s_while, s_ret, s_retN, s_expr, s_raise, s_pass, b_nil, b_cons, b_frz, lt_i, le_i, gt_i, ge_i, add_i, sub_i, neg_i, not_b, isN_p, isnN_p, isB, isnB, ix_p0, ix_p1, isN_none, isN_pair, isN_int, isN_tup, isN_lst, tup_pair, typ, len_p, u0, u1, u2, pl_nil, pl_cons, seq_l, seq_t, len_l, len_t, list_l, list_t, abs_i, enum_l, sds0, sdsC, svs0, svsC, nx_s, plainR_ok, toB_b, set0, setS, no_nil, no_c, no_v, no_o, no_u, wp_nil, wp_cons, tg1, tgT, tyi, tyib, tyil, tyit, tytt, tytl, tyll, tylt, tybb, rok, rokO, rex, rexO, finN, finT, finX, onx, ort, oex, lifs, tstb, tstbP, gv0, gvS, go0, goS, sv0, svS, Nat.reduceAdd, Option.map_some, Option.bind_some, Bool.not_true, Bool.not_false, if_true, if_false, Bool.false_eq_true, ↓reduceIte, reduceCtorEq, List.length_cons, List.length_nil, Option.map_none, decide_true, decide_false, Bool.true_and, Bool.false_and])
section
variable {dr : Option (List Int × Int)} {sc : Option (Nat × List Int)} {H : List PyData} {t : Nat} {R : List Pt}
theorem k13_line {ρ : Ev.Env} (hρ : getV ρ 5 = some (pD R)) (h : OkR t R) (ht : t ≤ 19) : ∃ d : PyData, PL 1 d ∧ run 59 .f_law_call [.stp, .int 3, .int 0] ⟨dr, some (rdD R, H), sc⟩ = .ok (.p d) ⟨dr, some (rdD R, H), sc⟩ ∧
    evE (run 59) ρ (.ite (.cmp .ne (.var 5) (.lst .nil)) (.call .f_leanest_line (.cons (.var 5) .nil)) (.str "none")) ⟨dr, some (rdD R, H), sc⟩ = .ok (.p d) ⟨dr, some (rdD R, H), sc⟩ := by
  have ne : cmpV .ne (pD R) (.lst []) = some (.bl (!decide (R = []))) := ne_b (PL.pts _) PL.nil (by decide) (by decide) (by simp)
  by_cases hR : R = []
  · refine ⟨.str "none", ?_, ?_, ?_⟩
    · exact ⟨by kernel_rfl, by decide⟩
    · have e : run (57 + 1) .m_line [.stp] ⟨dr, some (rdD R, H), sc⟩ = .exc 6 ⟨dr, some (rdD R, H), sc⟩ := by rw [run_m_line 57, if_pos hR]
      exact call3_exc 57 e (by decide)
    · walk_at "ev"
      rw [hρ]
      walk_at "ev"
      rw [ne, decide_eq_true hR]
      walk_at "ev"
  · have hP := h.pts (by omega) hR
    obtain ⟨x, y, e, _⟩ := run_leanest 29 ⟨dr, some (rdD R, H), sc⟩ hP h.str
    refine ⟨.tuple [.int x, .int y, .int (oL R x y)], ?_, ?_, ?_⟩
    · exact PL.tup fun d hd => by
        simp only [List.mem_cons, List.not_mem_nil, or_false] at hd
        rcases hd with rfl | rfl | rfl <;> exact PL.int _ _
    · have e2 : run (57 + 1) .m_line [.stp] ⟨dr, some (rdD R, H), sc⟩ = .ok (lnD x y (oL R x y)) ⟨dr, some (rdD R, H), sc⟩ := by
        rw [run_m_line 57, if_neg hR]
        exact callN_up e (by omega)
      exact call3_ok 58 e2
    · walk_at "ev"
      rw [hρ]
      walk_at "ev"
      rw [ne, decide_eq_false hR]
      walk_at "ev"
      have e3 : run (58 + 1) .f_leanest_line [pD R] ⟨dr, some (rdD R, H), sc⟩ = .ok (lnD x y (oL R x y)) ⟨dr, some (rdD R, H), sc⟩ := by
        (rw [run_def _ _ Bf_leanest_line rfl, runD_eq Bf_leanest_line _ _ _ _ ⟨rfl, by decide⟩ rfl rfl]; unfold Bf_leanest_line; simp only [List.map_cons, List.map_nil, List.length_cons, List.length_nil, List.replicate, List.cons_append, List.nil_append, Nat.reduceAdd, Nat.reduceSub])
        walk_at "ev"
        rw [run_check_points 54 _ hP]
        walk_at "ev"
        rw [run_check_straight 53 _ hP, if_pos h.str]
        walk_at "ev"
        have e4 : run 58 .f_leanest [pD R] ⟨dr, some (rdD R, H), sc⟩ = .ok (lnD x y (oL R x y)) ⟨dr, some (rdD R, H), sc⟩ := callN_up e (by omega)
        rw [e4]
        walk_at "ev"
      rw [e3]
theorem k13_slopes {ρ : Ev.Env} (hρ : getV ρ 5 = some (pD R)) (h : OkR t R) (ht : t ≤ 19) : ∃ d : PyData, PL 2 d ∧ run 59 .m_slopes [.stp] ⟨dr, some (rdD R, H), sc⟩ = .ok (.p d) ⟨dr, some (rdD R, H), sc⟩ ∧
    evE (run 59) ρ (.ite (.cmp .ne (.var 5) (.lst .nil)) (.call .f_slopes (.cons (.var 5) .nil)) (.tup (.cons .non (.cons .non .nil)))) ⟨dr, some (rdD R, H), sc⟩ = .ok (.p d) ⟨dr, some (rdD R, H), sc⟩ := by
  have ne : cmpV .ne (pD R) (.lst []) = some (.bl (!decide (R = []))) := ne_b (PL.pts _) PL.nil (by decide) (by decide) (by simp)
  by_cases hR : R = []
  · have hρ : getV ρ 5 = some (.lst []) := by rw [hρ, hR]; rfl
    subst hR
    have e : ∀ w, run 58 .f_bounds [.lst []] w = .ok (.tup [.none, .none]) w := fun w => by kernel_rfl
    refine ⟨.tuple [.none, .none], ?_, ?_, ?_⟩
    · exact PL.tup fun d hd => by
        simp only [List.mem_cons, List.not_mem_nil, or_false, or_self] at hd
        subst hd
        exact PL.none _
    · show run (58 + 1) .m_slopes [.stp] _ = _
      (rw [run_def _ _ Bm_slopes rfl, runD_eq Bm_slopes _ _ _ _ ⟨rfl, by decide⟩ rfl rfl]; unfold Bm_slopes; simp only [List.map_cons, List.map_nil, List.length_cons, List.length_nil, List.replicate, List.cons_append, List.nil_append, Nat.reduceAdd, Nat.reduceSub])
      walk_at "ev"
      rw [show D.p (rdD []) = .lst [] from rfl, e]
      walk_at "ev"
    · walk_at "ev"
      rw [hρ]
      walk_at "ev"
      rw [ne, decide_eq_true rfl]
      walk_at "ev"
  · have hP := h.pts (by omega) hR
    obtain ⟨lo, hi, e, m1, m2, _⟩ := run_boundsG 55 ⟨dr, some (rdD R, H), sc⟩ hP.g
    refine ⟨.tuple [lo, hi], ?_, ?_, ?_⟩
    · have p1 : PL 1 lo := by
        rcases m1 with ⟨rfl, _⟩ | ⟨a, b, rfl, _⟩
        · exact PL.none _
        · exact PL.pair _
      have p2 : PL 1 hi := by
        rcases m2 with ⟨rfl, _⟩ | ⟨a, b, rfl, _⟩
        · exact PL.none _
        · exact PL.pair _
      exact PL.tup fun d hd => by
        simp only [List.mem_cons, List.not_mem_nil, or_false] at hd
        rcases hd with rfl | rfl
        · exact p1
        · exact p2
    · show run (58 + 1) .m_slopes [.stp] _ = _
      (rw [run_def _ _ Bm_slopes rfl, runD_eq Bm_slopes _ _ _ _ ⟨rfl, by decide⟩ rfl rfl]; unfold Bm_slopes; simp only [List.map_cons, List.map_nil, List.length_cons, List.length_nil, List.replicate, List.cons_append, List.nil_append, Nat.reduceAdd, Nat.reduceSub])
      walk_at "ev"
      rw [e]
      walk_at "ev"
    · walk_at "ev"
      rw [hρ]
      walk_at "ev"
      rw [ne, decide_eq_false hR]
      walk_at "ev"
      have e3 : run (58 + 1) .f_slopes [pD R] ⟨dr, some (rdD R, H), sc⟩ = .ok (.tup [lo, hi]) ⟨dr, some (rdD R, H), sc⟩ := by
        (rw [run_def _ _ Bf_slopes rfl, runD_eq Bf_slopes _ _ _ _ ⟨rfl, by decide⟩ rfl rfl]; unfold Bf_slopes; simp only [List.map_cons, List.map_nil, List.length_cons, List.length_nil, List.replicate, List.cons_append, List.nil_append, Nat.reduceAdd, Nat.reduceSub])
        walk_at "ev"
        rw [run_check_points 54 _ hP]
        walk_at "ev"
        rw [run_check_straight 53 _ hP, if_pos h.str]
        walk_at "ev"
        rw [e]
        walk_at "ev"
      rw [e3]
abbrev e13 (a0 : Nat) (p q c : Int) (s3 : Slot) (R : List Pt) (H : List PyData) (s7 s8 s9 s10 s11 s12 s13 s14 : Slot) : Ev.Env := [.val (.scr a0), .val .drw, .val (lnD p q c), s3, .val .stp, .val (pD R), .own H, s7, s8, s9, s10, s11, s12, s13, s14]
theorem k13_tail (a0 : Nat) (p q c : Int) (s3 s7 s8 s9 s10 s11 s12 s13 s14 : Slot) (h : OkR t R) (ht : t ≤ 19) :
    evB (run 59) (e13 a0 p q c s3 R H s7 s8 s9 s10 s11 s12 s13 s14) (dropB 7 f_law_k13_s5) ⟨dr, some (rdD R, H), sc⟩ = .next (e13 a0 p q c s3 R H s7 s8 s9 s10 s11 s12 s13 s14) ⟨dr, some (rdD R, H), sc⟩ := by
  have hl := h.most
  obtain ⟨d1, p1, l1, l2⟩ := k13_line (dr := dr) (sc := sc) (H := H) (ρ := e13 a0 p q c s3 R H s7 s8 s9 s10 s11 s12 s13 s14) rfl h ht
  obtain ⟨d2, p2, m1, m2⟩ := k13_slopes (dr := dr) (sc := sc) (H := H) (ρ := e13 a0 p q c s3 R H s7 s8 s9 s10 s11 s12 s13 s14) rfl h ht
  have c1 : evE (run 59) (e13 a0 p q c s3 R H s7 s8 s9 s10 s11 s12 s13 s14) (.cmp .ne (.call .f_law_call (.cons (.var 4) (.cons (.int 3) (.cons (.int 0) .nil)))) (.ite (.cmp .ne (.var 5) (.lst .nil)) (.call .f_leanest_line (.cons (.var 5) .nil)) (.str "none"))) ⟨dr, some (rdD R, H), sc⟩ = .ok (.bl false) ⟨dr, some (rdD R, H), sc⟩ := by
    have e0 : evE (run 59) (e13 a0 p q c s3 R H s7 s8 s9 s10 s11 s12 s13 s14) (.call .f_law_call (.cons (.var 4) (.cons (.int 3) (.cons (.int 0) .nil)))) ⟨dr, some (rdD R, H), sc⟩ = .ok (.p d1) ⟨dr, some (rdD R, H), sc⟩ := by
      walk_at "ev"
      exact l1
    rw [e_cmp, e0, rok, l2, rok, ne_same p1 (by decide)]
    rfl
  have c2 : evE (run 59) (e13 a0 p q c s3 R H s7 s8 s9 s10 s11 s12 s13 s14) (.cmp .ne (.meth0 .m_slopes 4) (.ite (.cmp .ne (.var 5) (.lst .nil)) (.call .f_slopes (.cons (.var 5) .nil)) (.tup (.cons .non (.cons .non .nil))))) ⟨dr, some (rdD R, H), sc⟩ = .ok (.bl false) ⟨dr, some (rdD R, H), sc⟩ := by
    have e0 : evE (run 59) (e13 a0 p q c s3 R H s7 s8 s9 s10 s11 s12 s13 s14) (.meth0 .m_slopes 4) ⟨dr, some (rdD R, H), sc⟩ = .ok (.p d2) ⟨dr, some (rdD R, H), sc⟩ := by
      walk_at "ev"
      exact m1
    rw [e_cmp, e0, rok, m2, rok, ne_same p2 (by decide)]
    rfl
  have c0 : evE (run 59) (e13 a0 p q c s3 R H s7 s8 s9 s10 s11 s12 s13 s14) (.or (.cmp .ne (.meth0 .m_points 4) (.var 5)) (.or1 (.cmp .ne (.lenS 4) (.bcall .len (.cons (.var 5) .nil))))) ⟨dr, some (rdD R, H), sc⟩ = .ok (.bl false) ⟨dr, some (rdD R, H), sc⟩ := by
    have e0 : run 59 .m_points [.stp] ⟨dr, some (rdD R, H), sc⟩ = .ok (pD R) ⟨dr, some (rdD R, H), sc⟩ := run_m_points 58
    walk_at "ev"
    rw [e0]
    walk_at "ev"
    rw [ne_same (PL.pts R) (by decide)]
    walk_at "ev"
    rw [if_pos (sizeOk_le (by rw [List.length_map]; omega))]
    walk_at "ev"
    rw [ne_i, decide_eq_true rfl]
    rfl
  unfold f_law_k13_s5
  simp only [dropB]
  rw [b_cons, s_ife, c0]
  rw [show tst (.ok (.bl false) (⟨dr, some (rdD R, H), sc⟩ : W)) = .ok false ⟨dr, some (rdD R, H), sc⟩ from rfl, rokO, if_neg Bool.false_ne_true, b_nil, onx]
  rw [b_cons, s_ife, c1]
  rw [show tst (.ok (.bl false) (⟨dr, some (rdD R, H), sc⟩ : W)) = .ok false ⟨dr, some (rdD R, H), sc⟩ from rfl, rokO, if_neg Bool.false_ne_true, b_nil, onx]
  rw [b_cons, s_ife, c2]
  rw [show tst (.ok (.bl false) (⟨dr, some (rdD R, H), sc⟩ : W)) = .ok false ⟨dr, some (rdD R, H), sc⟩ from rfl, rokO, if_neg Bool.false_ne_true, b_nil, onx, b_nil]
end
end Px

end

section
/-! Th_k13: a strip. -/
namespace Px
open PySem Ev
local macro_rules | `(tactic| walk_at "ev") => `(tactic| simp -implicitDefEqProofs only [e_var, e_non, e_call0, e_mkS, e_meth, e_meth0, e_srow, e_noPast, e_lenS, e_neO, s_setRow, s_appPast, s_popPast, s_popO, s_par3O, e_sset, e_fmt, e_fstr, e_join, e_split, e_bl, e_int, e_str, e_gint, e_bin, e_neg, e_not, e_cmp, e_chain, e_and, e_or, e_and1, e_or1, e_ite, e_call, e_bcall, e_isi, e_ix, e_sl, e_tup, e_lst, e_comp, e_compIf, e_lenO, e_ixO, e_ninO, e_index, e_count, e_lenum, e_lrng, e_slS, es_nil, es_cons, i_seq, i_r1, i_r2, i_r3, i_enum, i_zip, o_non, o_some, s_set, s_setO, s_parO, s_par, s_unp, s_aug, s_extO, s_app, s_stO, s_ife, s_for, s_while, s_ret, s_retN, s_expr, s_raise, s_pass, b_nil, b_cons, b_frz, lt_i, le_i, gt_i, ge_i, add_i, sub_i, neg_i, not_b, isN_p, isnN_p, isB, isnB, ix_p0, ix_p1, isN_none, isN_pair, isN_int, isN_tup, isN_lst, tup_pair, typ, len_p, u0, u1, u2, pl_nil, pl_cons, seq_l, seq_t, len_l, len_t, list_l, list_t, abs_i, enum_l, sds0, sdsC, svs0, svsC, nx_s, plainR_ok, toB_b, set0, setS, no_nil, no_c, no_v, no_o, no_u, wp_nil, wp_cons, tg1, tgT, tyi, tyib, tyil, tyit, tytt, tytl, tyll, tylt, tybb, rok, rokO, rex, rexO, finN, finT, finX, onx, ort, oex, lifs, tstb, tstbP, gv0, gvS, go0, goS, sv0, svS, Nat.reduceAdd, Option.map_some, Option.bind_some, Bool.not_true, Bool.not_false, if_true, if_false, Bool.false_eq_true, ↓reduceIte, reduceCtorEq, List.length_cons, List.length_nil, Option.map_none, decide_true, decide_false, Bool.true_and, Bool.false_and])
theorem OkR.up {t u : Nat} {R : List Pt} (h : OkR t R) (hu : t ≤ u) : OkR u R := ⟨Nat.le_trans h.most hu, h.bnd, h.inc, h.str⟩
theorem OkR.filter {t : Nat} {R : List Pt} (h : OkR t R) (f : Pt → Bool) : OkR t (R.filter f) := by
  refine ⟨Nat.le_trans (List.length_filter_le _ _) h.most, fun p hp => h.bnd p (List.mem_filter.mp hp).1, h.inc.filter _, ?_⟩
  rintro n d ⟨a, ha, b, hb, hab, rfl, rfl⟩ n' d' ⟨c, hc, e, he, hce, rfl, rfl⟩
  exact h.str _ _ ⟨a, (List.mem_filter.mp ha).1, b, (List.mem_filter.mp hb).1, hab, rfl, rfl⟩ _ _ ⟨c, (List.mem_filter.mp hc).1, e, (List.mem_filter.mp he).1, hce, rfl, rfl⟩
abbrev rds (H : List (List Pt)) : List PyData := H.map rdD
/-- what a turn leaves -/
structure Left (t : Nat) (R : List Pt) (H : List (List Pt)) : Prop where
  row : OkR t R
  past : ∀ Q ∈ H, OkR t Q
  len : H.length ≤ t
theorem Left.up {t : Nat} {R : List Pt} {H : List (List Pt)} (h : Left t R H) : Left (t + 1) R H := ⟨h.row.up (by omega), fun Q hQ => (h.past Q hQ).up (by omega), by have := h.len; omega⟩
theorem Left.push {t : Nat} {R R' : List Pt} {H : List (List Pt)} (h : Left t R H) (h' : OkR (t + 1) R') : Left (t + 1) R' (H ++ [R]) := by
  refine ⟨h', fun Q hQ => ?_, by rw [List.length_append, List.length_singleton]; have := h.len; omega⟩
  rcases List.mem_append.mp hQ with hQ | hQ
  · exact (h.past Q hQ).up (by omega)
  · rw [List.mem_singleton] at hQ
    subst hQ
    exact h.row.up (by omega)
section
variable {dr : Option (List Int × Int)} {sc : Option (Nat × List Int)} {t : Nat} {R : List Pt} {H : List (List Pt)}
open Classical in
noncomputable abbrev fiB (R : List Pt) (x y : Int) : Bool := if x ∈ xsOf R then decide ((x, y) ∈ R) else decide (Str (ins R x y))
open Classical in
theorem k13_add (a0 : Nat) (p q c : Int) (s3 s12 s13 s14 : Slot) (h : Left t R H) (ht : t ≤ 19) {x y : Int} (hx : -1000 ≤ x ∧ x ≤ 1000) (hy : -1000 ≤ y ∧ y ≤ 1000) (tl : MB Fn) :
    ∃ R' H', Left (t + 1) R' H' ∧ evB (run 59) (e13 a0 p q c s3 R (rds H) (.val (.int 0)) (.val (.int x)) (.val (.p (ofPair (x, y)))) (.val (.bl (decide (x ∈ xsOf R)))) (.val (.bl (fiB R x y))) s12 s13 s14) (takeB 1 (dropB 6 f_law_k13_s5) tl) ⟨dr, some (rdD R, rds H), sc⟩ =
      evB (run 59) (e13 a0 p q c s3 R' (rds H') (.val (.int 0)) (.val (.int x)) (.val (.p (ofPair (x, y)))) (.val (.bl (decide (x ∈ xsOf R)))) (.val (.bl (fiB R x y))) s12 s13 s14) tl ⟨dr, some (rdD R', rds H'), sc⟩ := by
  have hl := h.row.most
  have a := run_m_add (dr := dr) (sc := sc) 51 h.row ht (H := rds H) (by rw [List.length_map]; have := h.len; omega) hx hy
  have a : run 57 .m_add [.stp, .p (ofPair (x, y))] ⟨dr, some (rdD R, rds H), sc⟩ = _ := a
  by_cases hn : x ∈ xsOf R
  · refine ⟨R, H, h.up, ?_⟩
    rw [if_pos hn] at a
    have e := call0_exc 57 (callN_upE (m := 57 + 1) a (by omega)) (by decide)
    have e : run 59 .f_law_call [.stp, .int 0, .p (ofPair (x, y))] ⟨dr, some (rdD R, rds H), sc⟩ = .ok (.str "points") ⟨dr, some (rdD R, rds H), sc⟩ := e
    unfold f_law_k13_s5
    simp only [dropB, takeB]
    rw [decide_eq_true hn]
    walk_at "ev"
    rw [show cmpV .eq (.int 0) (.int 0) = some (.bl true) from rfl]
    walk_at "ev"
    rw [e]
    walk_at "ev"
    rw [show cmpV .ne (.str "points") (.str "points") = some (.bl false) from by kernel_rfl]
    walk_at "ev"
    cases fiB R x y <;> walk_at "ev"
  · rw [if_neg hn] at a
    by_cases hs : Str (ins R x y)
    · rw [if_pos hs] at a
      obtain ⟨k1, k2⟩ := ins_ok h.row ht hx hy hn hs
      refine ⟨ins R x y, H ++ [R], h.push k1, ?_⟩
      have e := call0_ok 58 (callN_up (m := 58) a (by omega))
      have e : run 59 .f_law_call [.stp, .int 0, .p (ofPair (x, y))] ⟨dr, some (rdD R, rds H), sc⟩ = .ok (.int ((R.length : Int) + 1)) ⟨dr, some (rdD (ins R x y), rds H ++ [rdD R]), sc⟩ := e
      rw [show fiB R x y = true by unfold fiB; rw [if_neg hn, decide_eq_true hs], decide_eq_false hn]
      unfold f_law_k13_s5
      simp only [dropB, takeB]
      walk_at "ev"
      rw [show cmpV .eq (.int 0) (.int 0) = some (.bl true) from rfl]
      walk_at "ev"
      rw [e]
      walk_at "ev"
      rw [List.length_map, ne_i, decide_eq_true rfl]
      walk_at "ev"
      rw [if_pos (sizeOk_le (by rw [List.length_map]; have := h.len; omega))]
      walk_at "ev"
      rw [add_pts R x y (by omega)]
      walk_at "ev"
      rw [sorted_pts _ (by simp)]
      walk_at "ev"
      rw [show rds (H ++ [R]) = rds H ++ [rdD R] by unfold rds; rw [List.map_append]; rfl]
      rfl
    · rw [if_neg hs] at a
      refine ⟨R, H, h.up, ?_⟩
      have e := call0_exc 57 (callN_upE (m := 57 + 1) a (by omega)) (by decide)
      have e : run 59 .f_law_call [.stp, .int 0, .p (ofPair (x, y))] ⟨dr, some (rdD R, rds H), sc⟩ = .ok (.str "bent") ⟨dr, some (rdD R, rds H), sc⟩ := e
      rw [show fiB R x y = false by unfold fiB; rw [if_neg hn, decide_eq_false hs], decide_eq_false hn]
      unfold f_law_k13_s5
      simp only [dropB, takeB]
      walk_at "ev"
      rw [show cmpV .eq (.int 0) (.int 0) = some (.bl true) from rfl]
      walk_at "ev"
      rw [e]
      walk_at "ev"
      rw [show cmpV .ne (.str "bent") (.str "bent") = some (.bl false) from by kernel_rfl]
      walk_at "ev"
theorem k13_drop (a0 : Nat) (p q c : Int) (s3 s9 s11 s12 s13 s14 : Slot) (h : Left t R H) (ht : t ≤ 19) {x : Int} (tl : MB Fn) :
    ∃ R' H' s12', Left (t + 1) R' H' ∧ evB (run 59) (e13 a0 p q c s3 R (rds H) (.val (.int 1)) (.val (.int x)) s9 (.val (.bl (decide (x ∈ xsOf R)))) s11 s12 s13 s14) (takeB 1 (dropB 6 f_law_k13_s5) tl) ⟨dr, some (rdD R, rds H), sc⟩ =
      evB (run 59) (e13 a0 p q c s3 R' (rds H') (.val (.int 1)) (.val (.int x)) s9 (.val (.bl (decide (x ∈ xsOf R)))) s11 s12' s13 s14) tl ⟨dr, some (rdD R', rds H'), sc⟩ := by
  have hl := h.row.most
  have a := run_m_drop (dr := dr) (sc := sc) 56 h.row ht (H := rds H) (by rw [List.length_map]; have := h.len; omega) x
  have a : run 57 .m_drop [.stp, .int x] ⟨dr, some (rdD R, rds H), sc⟩ = _ := a
  have kn : compGo (fCI (run 59) f_law_k13_s3 f_law_k13_s2) [.val (.scr a0), .val .drw, .val (lnD p q c), noS s3, .val .stp, .val (pD R), .un, .val (.int 1), .val (.int x), noS s9, .val (.bl (decide (x ∈ xsOf R))), noS s11, noS s12, .un, .un] (.tup [13, 14]) (R.map ofPair) ⟨dr, some (rdD R, rds H), sc⟩ =
      .ok ((R.filter fun t : Pt => decide (t.1 = x)).map fun t : Pt => .int t.2) ⟨dr, some (rdD R, rds H), sc⟩ := comp_filter (step := fCI (run 59) f_law_k13_s3 f_law_k13_s2) ofPair (fun t : Pt => .int t.2) (fun t : Pt => decide (t.1 = x)) R (fun t ht => by
    refine ⟨_, rfl, ?_⟩
    unfold fCI f_law_k13_s3 f_law_k13_s2
    walk_at "ev"
    rw [eq_i]
    walk_at "ev"
    cases decide (t.1 = x) <;> walk_at "ev")
  have nw : ∀ (s12' : Slot) (w : W), compGo (fCI (run 59) f_law_k13_s1 f_law_k13_s4) [.val (.scr a0), .val .drw, .val (lnD p q c), noS s3, .val .stp, .val (pD R), .un, .val (.int 1), .val (.int x), noS s9, .val (.bl (decide (x ∈ xsOf R))), noS s11, s12', .un, noS s14] (.one 13) (R.map ofPair) w =
      .ok ((R.filter fun t : Pt => !decide (t.1 = x)).map ofPair) w := fun s12' w => comp_filter (step := fCI (run 59) f_law_k13_s1 f_law_k13_s4) ofPair ofPair (fun t : Pt => !decide (t.1 = x)) R (fun t ht => by
    refine ⟨_, rfl, ?_⟩
    unfold fCI f_law_k13_s1 f_law_k13_s4
    walk_at "ev"
    rw [ne_i]
    walk_at "ev"
    cases decide (t.1 = x) <;> walk_at "ev")
  have mem : x ∈ xsOf R ↔ (R.filter fun t : Pt => decide (t.1 = x)) ≠ [] := by
    constructor
    · intro hx z
      obtain ⟨t, ht, e⟩ := List.mem_map.mp hx
      have : t ∈ R.filter fun t : Pt => decide (t.1 = x) := List.mem_filter.mpr ⟨ht, decide_eq_true e⟩
      rw [z] at this
      cases this
    · intro z
      obtain ⟨t, ht⟩ := List.exists_mem_of_ne_nil _ z
      obtain ⟨h1, h2⟩ := List.mem_filter.mp ht
      exact List.mem_map.mpr ⟨t, h1, of_decide_eq_true h2⟩
  generalize hF : (R.filter fun t : Pt => decide (t.1 = x)) = F at a kn mem
  cases F with
  | nil =>
    refine ⟨R, H, .val (.lst []), h.up, ?_⟩
    have hn : ¬ x ∈ xsOf R := fun z => mem.mp z rfl
    have e := call1_exc 57 (callN_upE (m := 57 + 1) a (by omega)) (by decide)
    have e : run 59 .f_law_call [.stp, .int 1, .int x] ⟨dr, some (rdD R, rds H), sc⟩ = .ok (.str "none") ⟨dr, some (rdD R, rds H), sc⟩ := e
    unfold f_law_k13_s5
    simp only [dropB, takeB]
    walk_at "ev"
    rw [show cmpV .eq (.int 1) (.int 0) = some (.bl false) from rfl]
    walk_at "ev"
    rw [show cmpV .eq (.int 1) (.int 1) = some (.bl true) from rfl]
    walk_at "ev"
    rw [if_pos (sizeOk_le (by rw [List.length_map]; omega)), kn]
    walk_at "ev"
    rw [e]
    rw [decide_eq_false hn]
    walk_at "ev"
    rw [show cmpV .ne (.str "none") (.str "none") = some (.bl false) from by kernel_rfl]
    walk_at "ev"
    rfl
  | cons f F =>
    have hn : x ∈ xsOf R := mem.mpr fun z => nomatch z
    refine ⟨R.filter fun t : Pt => !decide (t.1 = x), H ++ [R], .val (.lst ((f :: F).map fun t : Pt => .int t.2)), h.push ((h.row.filter _).up (by omega)), ?_⟩
    have e := call1_ok 58 (callN_up (m := 58) a (by omega))
    have e : run 59 .f_law_call [.stp, .int 1, .int x] ⟨dr, some (rdD R, rds H), sc⟩ = .ok (.int f.2) ⟨dr, some (rdD (R.filter fun t : Pt => !decide (t.1 = x)), rds H ++ [rdD R]), sc⟩ := e
    unfold f_law_k13_s5
    simp only [dropB, takeB]
    walk_at "ev"
    rw [show cmpV .eq (.int 1) (.int 0) = some (.bl false) from rfl]
    walk_at "ev"
    rw [show cmpV .eq (.int 1) (.int 1) = some (.bl true) from rfl]
    walk_at "ev"
    rw [if_pos (sizeOk_le (by rw [List.length_map]; omega)), kn]
    walk_at "ev"
    rw [e]
    rw [decide_eq_true hn] at nw ⊢
    walk_at "ev"
    rw [show ixV (.lst ((f :: F).map fun t : Pt => .int t.2)) (.int 0) = some (.int f.2) from ix_l (fun t : Pt => .int t.2) (f :: F) 0 (by simp)]
    walk_at "ev"
    rw [ne_i, decide_eq_true rfl]
    walk_at "ev"
    rw [if_pos (sizeOk_le (by rw [List.length_map]; have := h.len; omega))]
    walk_at "ev"
    rw [if_pos (sizeOk_le (by rw [List.length_map]; omega)), nw]
    walk_at "ev"
    rw [show rds (H ++ [R]) = rds H ++ [rdD R] by unfold rds; rw [List.map_append]; rfl]
theorem cmpD_of {b : Bool} {op : CO} {d e : PyData} (h : cmpV op (.p d) (.p e) = some (.bl b)) (hc : cmpV op (.p d) (.p e) = (cmpD op d e).map D.bl) : cmpD op d e = some b := by
  rw [hc] at h
  cases hd : cmpD op d e with
  | none => rw [hd] at h; cases h
  | some c => rw [hd] at h; cases h; rfl
theorem PL.rds (H : List (List Pt)) : PL 3 (.list (rds H)) := PL.lst fun d hd => by
  obtain ⟨Q, _, rfl⟩ := List.mem_map.mp hd
  exact PL.pts Q
theorem ne_rds (H : List (List Pt)) : cmpD .ne (.list (rds H)) (.list []) = some (!decide (H = [])) :=
  cmpD_of (ne_b (PL.rds H) PL.nil (by decide) (by decide) (by simp)) rfl
theorem k13_undo (a0 : Nat) (p q c : Int) (s3 s8 s9 s10 s11 s12 s13 s14 : Slot) (h : Left t R H) (ht : t ≤ 19) (tl : MB Fn) :
    ∃ R' H', Left (t + 1) R' H' ∧ evB (run 59) (e13 a0 p q c s3 R (rds H) (.val (.int 2)) s8 s9 s10 s11 s12 s13 s14) (takeB 1 (dropB 6 f_law_k13_s5) tl) ⟨dr, some (rdD R, rds H), sc⟩ =
      evB (run 59) (e13 a0 p q c s3 R' (rds H') (.val (.int 2)) s8 s9 s10 s11 s12 s13 s14) tl ⟨dr, some (rdD R', rds H'), sc⟩ := by
  have hl := h.row.most
  have a := run_m_undo (dr := dr) (sc := sc) (R := R) 56 H
  have a : run 57 .m_undo [.stp] ⟨dr, some (rdD R, rds H), sc⟩ = _ := a
  have sh : Ev.shp (.list (rds H)) = true ∧ Ev.shp (.list []) = true := ⟨(PL.rds H).shp (by decide), PL.nil.shp (by decide)⟩
  by_cases hH : H = []
  · subst hH
    refine ⟨R, [], h.up, ?_⟩
    have e := call2_exc 57 (x := .int 0) (callN_upE (m := 57 + 1) a (by omega)) (by decide)
    have e : run 59 .f_law_call [.stp, .int 2, .int 0] ⟨dr, some (rdD R, rds []), sc⟩ = .ok (.str "none") ⟨dr, some (rdD R, rds []), sc⟩ := e
    unfold f_law_k13_s5
    simp only [dropB, takeB]
    walk_at "ev"
    rw [show cmpV .eq (.int 2) (.int 0) = some (.bl false) from rfl]
    walk_at "ev"
    rw [show cmpV .eq (.int 2) (.int 1) = some (.bl false) from rfl]
    walk_at "ev"
    rw [e]
    walk_at "ev"
    rw [ne_rds, decide_eq_true rfl]
    walk_at "ev"
    rw [show cmpV .ne (.str "none") (.str "none") = some (.bl false) from by kernel_rfl]
    walk_at "ev"
    rw [if_pos sh]
    rfl
  · obtain ⟨H0, Q, rfl⟩ : ∃ H0 Q, H = H0 ++ [Q] := ⟨H.dropLast, H.getLast hH, (List.dropLast_concat_getLast hH).symm⟩
    have hQ : OkR t Q := h.past Q (by simp)
    refine ⟨Q, H0, ⟨hQ.up (by omega), fun Q' hQ' => (h.past Q' (List.mem_append_left _ hQ')).up (by omega), by have := h.len; rw [List.length_append, List.length_singleton] at this; omega⟩, ?_⟩
    rw [List.getLast?_concat, List.dropLast_concat] at a
    have e := call2_ok 58 (x := .int 0) (callN_up (m := 58) a (by omega))
    have e : run 59 .f_law_call [.stp, .int 2, .int 0] ⟨dr, some (rdD R, rds (H0 ++ [Q])), sc⟩ = .ok .non ⟨dr, some (rdD Q, rds H0), sc⟩ := e
    unfold f_law_k13_s5
    simp only [dropB, takeB]
    walk_at "ev"
    rw [show cmpV .eq (.int 2) (.int 0) = some (.bl false) from rfl]
    walk_at "ev"
    rw [show cmpV .eq (.int 2) (.int 1) = some (.bl false) from rfl]
    walk_at "ev"
    rw [e]
    walk_at "ev"
    rw [ne_rds, decide_eq_false hH]
    walk_at "ev"
    rw [show cmpV .ne .non .non = some (.bl false) from ne_same (PL.none 0) (by decide)]
    walk_at "ev"
    rw [if_pos sh]
    have e5 : rds (H0 ++ [Q]) = rds H0 ++ [rdD Q] := by unfold rds; rw [List.map_append]; rfl
    rw [e5, List.length_append, List.length_singleton, Nat.add_sub_cancel, List.getElem?_append_right (Nat.le_refl _), Nat.sub_self, List.dropLast_concat]
    rfl
end
open Classical in
theorem k13_head (a0 : Nat) {p q c : Int} (hL : LnB p q c) (s3 s7 s8 s9 s10 s11 s12 s13 s14 : Slot) {t : Nat} {R : List Pt} {H : List PyData} (h : OkR t R) (ht : t ≤ 19) (w : W) (hw : DrS (some (rdD R, H)) w) :
    ∃ k x y w', (k = 0 ∨ k = 1 ∨ k = 2) ∧ (-1000 ≤ x ∧ x ≤ 1000) ∧ (-1000 ≤ y ∧ y ≤ 1000) ∧ DrS (some (rdD R, H)) w' ∧ ∀ tl, evB (run 59) (e13 a0 p q c s3 R H s7 s8 s9 s10 s11 s12 s13 s14) (takeB 6 f_law_k13_s5 tl) w =
      evB (run 59) (e13 a0 p q c s3 R H (.val (.int k)) (.val (.int x)) (.val (.p (ofPair (x, y)))) (.val (.bl (decide (x ∈ xsOf R)))) (.val (.bl (fiB R x y))) s12 s13 s14) tl w' := by
  have hl := h.most
  obtain ⟨kd, w1, e1, hk, d1⟩ := run_pickS 57 [.int 0, .int 0, .int 0, .int 1, .int 2] w hw (by simp) (by decide)
  obtain ⟨k, rfl, hk2⟩ : ∃ k : Int, kd = .int k ∧ (k = 0 ∨ k = 1 ∨ k = 2) := by
    simp only [List.mem_cons, List.not_mem_nil, or_false] at hk
    rcases hk with rfl | rfl | rfl | rfl | rfl
    · exact ⟨0, rfl, by decide⟩
    · exact ⟨0, rfl, by decide⟩
    · exact ⟨0, rfl, by decide⟩
    · exact ⟨1, rfl, by decide⟩
    · exact ⟨2, rfl, by decide⟩
  obtain ⟨v, w2, e2, ⟨v1, v2⟩, d2⟩ := run_drawS 58 24 w1 d1 ⟨by decide, by decide⟩
  have e3 := run_height 58 p q c (v - 8) w2 hL ⟨by omega, by omega⟩
  have hb := height_bd hL (x := v - 8) ⟨by omega, by omega⟩
  obtain ⟨yd, w3, e4, hy, d3⟩ := run_pickS 57 [.int 0, .int 0, .int 0, .int 1, .int (0 - 1)] w2 d2 (by simp) (by decide)
  obtain ⟨z, rfl, hz⟩ : ∃ z : Int, yd = .int z ∧ -1 ≤ z ∧ z ≤ 1 := by
    simp only [List.mem_cons, List.not_mem_nil, or_false] at hy
    rcases hy with rfl | rfl | rfl | rfl | rfl
    · exact ⟨0, rfl, by decide⟩
    · exact ⟨0, rfl, by decide⟩
    · exact ⟨0, rfl, by decide⟩
    · exact ⟨1, rfl, by decide⟩
    · exact ⟨0 - 1, rfl, by decide⟩
  generalize hx : v - 8 = x at e3 hb
  generalize hyy : (p * x + c) / q + z = y
  have hx1 : -1000 ≤ x ∧ x ≤ 1000 := by omega
  have hy1 : -1000 ≤ y ∧ y ≤ 1000 := by omega
  obtain ⟨dr3, sp3, sc3⟩ := w3
  obtain ⟨d3a, d3b⟩ := d3
  have d3b : sp3 = some (rdD R, H) := d3b
  subst d3b
  refine ⟨k, x, y, ⟨dr3, some (rdD R, H), sc3⟩, hk2, hx1, hy1, ⟨d3a, rfl⟩, fun tl => ?_⟩
  have e5 := run_m_fits (dr := dr3) (sc := sc3) (H := H) 53 h ht hx1 hy1
  unfold f_law_k13_s5
  simp only [takeB]
  walk_at "ev"
  rw [e1]
  walk_at "ev"
  rw [e2]
  walk_at "ev"
  rw [hx, e3]
  walk_at "ev"
  rw [e4]
  walk_at "ev"
  rw [hyy]
  rw [if_pos (sizeOk_le (by rw [List.length_map]; omega)), comp_map (step := fC (run 59) f_law_k13_s1) ofPair (fun t : Pt => .int t.1) R (fun t ht => by
    refine ⟨_, rfl, ?_⟩
    unfold fC f_law_k13_s1
    walk_at "ev")]
  walk_at "ev"
  rw [show (R.map fun t : Pt => PyData.int t.1) = (xsOf R).map PyData.int by rw [List.map_map]; rfl, in_intsZ]
  walk_at "ev"
  have fin : ∀ b : Bool, b = fiB R x y → (tst ((run 59 .f_law_true [.bl (fiB R x y), .bl b] ⟨dr3, some (rdD R, H), sc3⟩).bind fun x w1 => lif (notV x) w1)) = .ok false ⟨dr3, some (rdD R, H), sc3⟩ := fun b hb => by
    subst hb
    rw [run_law_true 58, decide_eq_true rfl]
    rfl
  by_cases hn : x ∈ xsOf R
  · have hf : fiB R x y = decide ((x, y) ∈ R) := if_pos hn
    rw [decide_eq_true hn]
    walk_at "ev"
    rw [(in_ptsZ _ _).1]
    walk_at "ev"
    rw [e5]
    walk_at "ev"
    have e6 := run_law_true 58 (fiB R x y) (decide ((x, y) ∈ R)) ⟨dr3, some (rdD R, H), sc3⟩
    rw [e6, hf, decide_eq_true rfl]
    walk_at "ev"
  · have hf : fiB R x y = decide (Str (ins R x y)) := if_neg hn
    rw [decide_eq_false hn]
    walk_at "ev"
    rw [add_pts R x y (by omega)]
    walk_at "ev"
    rw [sorted_pts _ (by simp)]
    walk_at "ev"
    have g := ins_G h ht hx1 hy1 hn
    have e7 : run 59 .f_law_fits [pD (ins R x y)] ⟨dr3, some (rdD R, H), sc3⟩ = .ok (.bl (decide (Str (ins R x y)))) ⟨dr3, some (rdD R, H), sc3⟩ := run_fits 57 _ ⟨g.most, g.bnd⟩
    rw [show sortP (R ++ [(x, y)]) = ins R x y from rfl, e7]
    walk_at "ev"
    rw [e5]
    walk_at "ev"
    have e6 := run_law_true 58 (fiB R x y) (decide (Str (ins R x y))) ⟨dr3, some (rdD R, H), sc3⟩
    rw [e6, hf, decide_eq_true rfl]
    walk_at "ev"
theorem k13_turn (a0 : Nat) {p q c : Int} (hL : LnB p q c) (s3 s7 s8 s9 s10 s11 s12 s13 s14 : Slot) {t : Nat} {R : List Pt} {H : List (List Pt)} (h : Left t R H) (ht : t ≤ 14) (w : W) (hw : DrS (some (rdD R, rds H)) w) :
    ∃ R' H' s7' s8' s9' s10' s11' s12' w', evB (run 59) (e13 a0 p q c s3 R (rds H) s7 s8 s9 s10 s11 s12 s13 s14) f_law_k13_s5 w = .next (e13 a0 p q c s3 R' (rds H') s7' s8' s9' s10' s11' s12' s13 s14) w' ∧ DrS (some (rdD R', rds H')) w' ∧ Left (t + 1) R' H' := by
  obtain ⟨k, x, y, w1, hk, hx, hy, d1, e1⟩ := k13_head a0 hL s3 s7 s8 s9 s10 s11 s12 s13 s14 h.row (by omega) w hw
  obtain ⟨dr, sp, sc⟩ := w1
  obtain ⟨d1a, d1b⟩ := d1
  have d1b : sp = some (rdD R, rds H) := d1b
  subst d1b
  rw [evB_take 6 f_law_k13_s5, e1, evB_take 1 (dropB 6 f_law_k13_s5), drop_add]
  rcases hk with rfl | rfl | rfl
  · obtain ⟨R', H', hl, e⟩ := k13_add (dr := dr) (sc := sc) a0 p q c s3 s12 s13 s14 h (by omega) hx hy (dropB (6 + 1) f_law_k13_s5)
    rw [e]
    refine ⟨R', H', _, _, _, _, _, _, _, k13_tail a0 p q c s3 _ _ _ _ _ _ _ _ hl.row (by omega), ⟨d1a, rfl⟩, hl⟩
  · obtain ⟨R', H', s12', hl, e⟩ := k13_drop (dr := dr) (sc := sc) a0 p q c s3 (.val (.p (ofPair (x, y)))) (.val (.bl (fiB R x y))) s12 s13 s14 h (by omega) (x := x) (dropB (6 + 1) f_law_k13_s5)
    rw [e]
    refine ⟨R', H', _, _, _, _, _, _, _, k13_tail a0 p q c s3 _ _ _ _ _ _ _ _ hl.row (by omega), ⟨d1a, rfl⟩, hl⟩
  · obtain ⟨R', H', hl, e⟩ := k13_undo (dr := dr) (sc := sc) a0 p q c s3 (.val (.int x)) (.val (.p (ofPair (x, y)))) (.val (.bl (decide (x ∈ xsOf R)))) (.val (.bl (fiB R x y))) s12 s13 s14 h (by omega) (dropB (6 + 1) f_law_k13_s5)
    rw [e]
    refine ⟨R', H', _, _, _, _, _, _, _, k13_tail a0 p q c s3 _ _ _ _ _ _ _ _ hl.row (by omega), ⟨d1a, rfl⟩, hl⟩
theorem k13_start (n : Nat) (a : Nat) (ns : List Int) : ∃ l, l ≠ [] ∧ run (n + 1) .f_law_start [.scr a] (w0 a ns) = .ok .drw ⟨some (l, 0), none, none⟩ := by
  refine ⟨if ns = [] then [0] else ns, ?_, ?_⟩
  · split <;> simp_all
  · show startG [.scr a] (w0 a ns) = _
    unfold startG w0
    dsimp only
    rw [if_pos rfl]
theorem left_nil : Left 0 [] [] := ⟨⟨Nat.le_refl _, fun p hp => (nomatch hp), List.Pairwise.nil, fun n d f => by obtain ⟨a, ha, _⟩ := f; cases ha⟩, fun Q hQ => (nomatch hQ), Nat.le_refl _⟩
theorem law_k13 (a0 : Nat) (ns : List Int) : isT (run 60 .f_law_k13 [.scr a0] (w0 a0 ns)) = true := by
  obtain ⟨l, hl, e1⟩ := k13_start 58 a0 ns
  have e2 : run 59 .f_Strip [] ⟨some (l, 0), none, none⟩ = .ok .stp ⟨some (l, 0), some (.list [], []), none⟩ := rfl
  obtain ⟨p, q, c, w3, e3, hL, d3⟩ := run_lineS (sp := some (.list [], [])) 56 ⟨some (l, 0), some (.list [], []), none⟩ ⟨⟨l, 0, rfl, hl⟩, rfl⟩
  rw [show (60 : Nat) = 59 + 1 from rfl, run_def _ _ Bf_law_k13 rfl, runD_eq Bf_law_k13 _ _ [.val (.scr a0), .un, .un, .un, .un, .un, .un, .un, .un, .un, .un, .un, .un, .un, .un] Bf_law_k13.body ⟨rfl, by decide⟩ rfl rfl]
  unfold Bf_law_k13
  walk_at "ev"
  rw [e1]
  walk_at "ev"
  rw [e2]
  walk_at "ev"
  rw [e3]
  walk_at "ev"
  rw [show rngD1 (.int 14) = some ((List.range 14).map fun k : Nat => .int (k : Int)) from rfl]
  walk_at "ev"
  obtain ⟨ρ', w', e, _⟩ := for_inv (body := fB (run 59) f_law_k13_s5) (t := .one 3) (fun k : Nat => .int (k : Int))
    (fun done ρ w1 => ∃ R H s3 s7 s8 s9 s10 s11 s12 s13 s14, ρ = e13 a0 p q c s3 R (rds H) s7 s8 s9 s10 s11 s12 s13 s14 ∧ DrS (some (rdD R, rds H)) w1 ∧ Left done.length R H)
    (List.range 14) [] (e13 a0 p q c .un [] (rds []) .un .un .un .un .un .un .un .un) w3 ⟨[], [], .un, .un, .un, .un, .un, .un, .un, .un, .un, rfl, d3, left_nil⟩
    (fun d a r ρ w1 hsp ⟨R, H, s3, s7, s8, s9, s10, s11, s12, s13, s14, hr, hw, hl⟩ => by
      subst hr
      rw [List.nil_append] at hl
      have hd : d.length < 14 := by
        have h1 := congrArg List.length hsp
        rw [List.length_range, List.length_append, List.length_cons] at h1
        omega
      obtain ⟨R', H', s7', s8', s9', s10', s11', s12', w', e, hw', hl'⟩ := k13_turn a0 hL (.val (.int (a : Int))) s7 s8 s9 s10 s11 s12 s13 s14 hl (by omega) w1 hw
      refine ⟨_, _, _, rfl, e, R', H', _, _, _, _, _, _, _, _, _, rfl, hw', ?_⟩
      rw [List.nil_append, List.length_append, List.length_singleton]
      exact hl')
  have e : forGo (fB (run 59) f_law_k13_s5) (.one 3) ((List.range 14).map fun k : Nat => .int (k : Int)) [.val (.scr a0), .val .drw, .val (.tup [.int p, .int q, .int c]), .un, .val .stp, .val (.lst []), .own [], .un, .un, .un, .un, .un, .un, .un, .un] w3 = .next ρ' w' := e
  rw [e]
  rfl
end Px
namespace K13
open PySem Ev Px
theorem law_true : ∀ (a : Nat) (ns : List Int), ns.length ≤ 63 → isT (run 60 .f_law_k13 [.scr a] (w0 a ns)) = true := fun a ns _ => law_k13 a ns
end K13

end

section
/-! the text of law_k13_whole_strips, checked -/
namespace K13
open PySem PySem.Spec PyProof.Rows L2 Ev Px
def top (i : Nat) : Stmt := PySem.Challenge.pw_pixellines_k13_whole_strips.main.body.getD i (.Pass ⟨0, 0, 0, 0⟩)
def mtop (i j : Nat) : Stmt := match top i with
  | .ClassDef _ _ _ b _ _ _ _ _ _ _ => b.getD j (.Pass ⟨0, 0, 0, 0⟩)
  | s => s
def has : Fn → Bool
  | .f_is_int => true
  | .f_is_point => true
  | .f_are_points => true
  | .f_check_points => true
  | .f_common => true
  | .f_lowest => true
  | .f_less => true
  | .f_simplest_in => true
  | .f_bounds => true
  | .f_straight => true
  | .f_check_straight => true
  | .f_slopes => true
  | .f_offsets => true
  | .f_leanest => true
  | .f_leanest_line => true
  | .f_law_start => true
  | .f_law_draw => true
  | .f_law_pick => true
  | .f_law_error => true
  | .f_law_true => true
  | .f_law_common => true
  | .f_law_low => true
  | .f_law_line => true
  | .f_law_height => true
  | .f_law_bounds => true
  | .f_law_fits => true
  | .f_law_call => true
  | .f_law_k13 => true
  | _ => false
def hasM : Fn → Bool
  | .m_add => true
  | .m_fits => true
  | .m_drop => true
  | .m_points => true
  | .m_slopes => true
  | .m_line => true
  | .m_undo => true
  | .m___len__ => true
  | _ => false
def isS : Fn → Bool
  | .f_Strip => true
  | _ => false
def Nf_is_int : List Str := ["value", "low", "high"]
def Nf_is_point : List Str := ["value", "part"]
def Nf_are_points : List Str := ["value", "k", "point"]
def Nf_check_points : List Str := ["value"]
def Nf_common : List Str := ["one", "other"]
def Nf_lowest : List Str := ["top", "below", "divisor"]
def Nf_less : List Str := ["one", "other"]
def Nf_simplest_in : List Str := ["low", "high", "whole", "floor", "rest_low", "rest_high", "turned", "last", "step"]
def Nf_bounds : List Str := ["points", "low", "high", "index", "first", "second", "wide", "tall", "under", "over"]
def Nf_straight : List Str := ["points", "low", "high"]
def Nf_check_straight : List Str := ["points"]
def Nf_slopes : List Str := ["points"]
def Nf_offsets : List Str := ["points", "slope", "least", "most", "top", "below", "x", "y"]
def Nf_leanest : List Str := ["points", "slope", "low", "high"]
def Nf_leanest_line : List Str := ["points"]
def Nf_law_start : List Str := ["_law_script"]
def Nf_law_draw : List Str := ["_law_draws", "_law_limit", "_law_numbers", "_law_at", "_law_cell", "_law_mixed"]
def Nf_law_pick : List Str := ["_law_draws", "_law_choices"]
def Nf_law_error : List Str := ["_law_caught", "_law_kinds"]
def Nf_law_true : List Str := ["_law_value", "_law_expected"]
def Nf_law_common : List Str := ["_law_one", "_law_other"]
def Nf_law_low : List Str := ["_law_top", "_law_under", "_law_shared"]
def Nf_law_line : List Str := ["_law_draws", "_law_under", "_law_top"]
def Nf_law_height : List Str := ["_law_line_here", "_law_x"]
def Nf_law_bounds : List Str := ["_law_points", "_law_one", "_law_low_here", "_law_high", "_law_two", "_law_wide", "_law_under", "_law_over"]
def Nf_law_fits : List Str := ["_law_points", "_law_low_here", "_law_high"]
def Nf_law_call : List Str := ["_law_shown", "_law_kind", "_law_thing", "_law_found", "_law_caught", "e"]
def Nf_law_k13 : List Str := ["_law_script", "_law_draws", "_law_line_here", "_law_turn", "_law_shown", "_law_row", "_law_past", "_law_kind", "_law_x", "_law_point", "_law_taken", "_law_fits_here", "_law_known", "_law_one", "_law_y"]
def Nm_add : List Str := ["self", "point", "after", "x", "y"]
def Nm_fits : List Str := ["self", "point", "x", "y"]
def Nm_drop : List Str := ["self", "x", "known", "point"]
def Nm_points : List Str := ["self"]
def Nm_slopes : List Str := ["self"]
def Nm_line : List Str := ["self"]
def Nm_undo : List Str := ["self"]
def Nm___len__ : List Str := ["self"]
def Nm___init__ : List Str := ["self"]
def en : Fn → Ev.Entry
  | .f_is_int => ⟨"is_int", "is_int", ["value", "low", "high"], Nf_is_int, defArgs (top 11), defBody (top 11), defScope (top 11)⟩
  | .f_is_point => ⟨"is_point", "is_point", ["value"], Nf_is_point, defArgs (top 12), defBody (top 12), defScope (top 12)⟩
  | .f_are_points => ⟨"are_points", "are_points", ["value"], Nf_are_points, defArgs (top 13), defBody (top 13), defScope (top 13)⟩
  | .f_check_points => ⟨"check_points", "check_points", ["value"], Nf_check_points, defArgs (top 14), defBody (top 14), defScope (top 14)⟩
  | .f_common => ⟨"common", "common", ["one", "other"], Nf_common, defArgs (top 16), defBody (top 16), defScope (top 16)⟩
  | .f_lowest => ⟨"lowest", "lowest", ["top", "below"], Nf_lowest, defArgs (top 17), defBody (top 17), defScope (top 17)⟩
  | .f_less => ⟨"less", "less", ["one", "other"], Nf_less, defArgs (top 18), defBody (top 18), defScope (top 18)⟩
  | .f_simplest_in => ⟨"simplest_in", "simplest_in", ["low", "high"], Nf_simplest_in, defArgs (top 19), defBody (top 19), defScope (top 19)⟩
  | .f_bounds => ⟨"bounds", "bounds", ["points"], Nf_bounds, defArgs (top 21), defBody (top 21), defScope (top 21)⟩
  | .f_straight => ⟨"straight", "straight", ["points"], Nf_straight, defArgs (top 22), defBody (top 22), defScope (top 22)⟩
  | .f_check_straight => ⟨"check_straight", "check_straight", ["points"], Nf_check_straight, defArgs (top 23), defBody (top 23), defScope (top 23)⟩
  | .f_slopes => ⟨"slopes", "slopes", ["points"], Nf_slopes, defArgs (top 24), defBody (top 24), defScope (top 24)⟩
  | .f_offsets => ⟨"offsets", "offsets", ["points", "slope"], Nf_offsets, defArgs (top 26), defBody (top 26), defScope (top 26)⟩
  | .f_leanest => ⟨"leanest", "leanest", ["points"], Nf_leanest, defArgs (top 27), defBody (top 27), defScope (top 27)⟩
  | .f_leanest_line => ⟨"leanest_line", "leanest_line", ["points"], Nf_leanest_line, defArgs (top 28), defBody (top 28), defScope (top 28)⟩
  | .f_law_start => ⟨"_law_start", "_law_start", ["_law_script"], Nf_law_start, defArgs (top 32), defBody (top 32), defScope (top 32)⟩
  | .f_law_draw => ⟨"_law_draw", "_law_draw", ["_law_draws", "_law_limit"], Nf_law_draw, defArgs (top 33), defBody (top 33), defScope (top 33)⟩
  | .f_law_pick => ⟨"_law_pick", "_law_pick", ["_law_draws", "_law_choices"], Nf_law_pick, defArgs (top 34), defBody (top 34), defScope (top 34)⟩
  | .f_law_error => ⟨"_law_error", "_law_error", ["_law_caught"], Nf_law_error, defArgs (top 35), defBody (top 35), defScope (top 35)⟩
  | .f_law_true => ⟨"_law_true", "_law_true", ["_law_value", "_law_expected"], Nf_law_true, defArgs (top 36), defBody (top 36), defScope (top 36)⟩
  | .f_law_common => ⟨"_law_common", "_law_common", ["_law_one", "_law_other"], Nf_law_common, defArgs (top 37), defBody (top 37), defScope (top 37)⟩
  | .f_law_low => ⟨"_law_low", "_law_low", ["_law_top", "_law_under"], Nf_law_low, defArgs (top 38), defBody (top 38), defScope (top 38)⟩
  | .f_law_line => ⟨"_law_line", "_law_line", ["_law_draws"], Nf_law_line, defArgs (top 39), defBody (top 39), defScope (top 39)⟩
  | .f_law_height => ⟨"_law_height", "_law_height", ["_law_line_here", "_law_x"], Nf_law_height, defArgs (top 40), defBody (top 40), defScope (top 40)⟩
  | .f_law_bounds => ⟨"_law_bounds", "_law_bounds", ["_law_points"], Nf_law_bounds, defArgs (top 41), defBody (top 41), defScope (top 41)⟩
  | .f_law_fits => ⟨"_law_fits", "_law_fits", ["_law_points"], Nf_law_fits, defArgs (top 42), defBody (top 42), defScope (top 42)⟩
  | .f_law_call => ⟨"_law_call", "_law_call", ["_law_shown", "_law_kind", "_law_thing"], Nf_law_call, defArgs (top 43), defBody (top 43), defScope (top 43)⟩
  | .f_law_k13 => ⟨"law", "law", ["_law_script"], Nf_law_k13, defArgs (top 44), defBody (top 44), defScope (top 44)⟩
  | .m_add => ⟨"add", "Strip.add", ["self", "point"], Nm_add, defArgs (mtop 30 1), defBody (mtop 30 1), defScope (mtop 30 1)⟩
  | .m_fits => ⟨"fits", "Strip.fits", ["self", "point"], Nm_fits, defArgs (mtop 30 2), defBody (mtop 30 2), defScope (mtop 30 2)⟩
  | .m_drop => ⟨"drop", "Strip.drop", ["self", "x"], Nm_drop, defArgs (mtop 30 3), defBody (mtop 30 3), defScope (mtop 30 3)⟩
  | .m_points => ⟨"points", "Strip.points", ["self"], Nm_points, defArgs (mtop 30 4), defBody (mtop 30 4), defScope (mtop 30 4)⟩
  | .m_slopes => ⟨"slopes", "Strip.slopes", ["self"], Nm_slopes, defArgs (mtop 30 5), defBody (mtop 30 5), defScope (mtop 30 5)⟩
  | .m_line => ⟨"line", "Strip.line", ["self"], Nm_line, defArgs (mtop 30 6), defBody (mtop 30 6), defScope (mtop 30 6)⟩
  | .m_undo => ⟨"undo", "Strip.undo", ["self"], Nm_undo, defArgs (mtop 30 7), defBody (mtop 30 7), defScope (mtop 30 7)⟩
  | .m___len__ => ⟨"__len__", "Strip.__len__", ["self"], Nm___len__, defArgs (mtop 30 8), defBody (mtop 30 8), defScope (mtop 30 8)⟩
  | _ => ⟨"", "", [], [], defArgs (top 0), [], defScope (top 0)⟩
def gi : List (Str × Int) := [("MOST", 1000), ("MOST_POINTS", 20)]
def gs : List (Str × Str) := []
def frees : List Str := ["ValueError", "abs", "all", "bool", "enumerate", "int", "isinstance", "len", "list", "max", "min", "range", "sorted", "tuple"]
def excs : List Nat := [0, 1, 2, 3, 4, 5, 6, 7]
def sig : Sig Fn := ⟨nmF, has, true, gi, gs, frees, excs, true, hasM, isS⟩
theorem chkf_is_int : chkB sig Nf_is_int (defScope (top 11)) Bf_is_int.body (defBody (top 11)) = true := by decide +kernel
theorem scf_is_int : FnScope Nf_is_int ["value", "low", "high"] (defScope (top 11)) := ⟨rfl, rfl, rfl, by decide +kernel, rfl, by decide +kernel, by decide +kernel⟩
theorem chkf_is_point : chkB sig Nf_is_point (defScope (top 12)) Bf_is_point.body (defBody (top 12)) = true := by decide +kernel
theorem scf_is_point : FnScope Nf_is_point ["value"] (defScope (top 12)) := ⟨rfl, rfl, rfl, by decide +kernel, rfl, by decide +kernel, by decide +kernel⟩
theorem chkf_are_points : chkB sig Nf_are_points (defScope (top 13)) Bf_are_points.body (defBody (top 13)) = true := by decide +kernel
theorem scf_are_points : FnScope Nf_are_points ["value"] (defScope (top 13)) := ⟨rfl, rfl, rfl, by decide +kernel, rfl, by decide +kernel, by decide +kernel⟩
theorem chkf_check_points : chkB sig Nf_check_points (defScope (top 14)) Bf_check_points.body (defBody (top 14)) = true := by decide +kernel
theorem scf_check_points : FnScope Nf_check_points ["value"] (defScope (top 14)) := ⟨rfl, rfl, rfl, by decide +kernel, rfl, by decide +kernel, by decide +kernel⟩
theorem chkf_common : chkB sig Nf_common (defScope (top 16)) Bf_common.body (defBody (top 16)) = true := by decide +kernel
theorem scf_common : FnScope Nf_common ["one", "other"] (defScope (top 16)) := ⟨rfl, rfl, rfl, by decide +kernel, rfl, by decide +kernel, by decide +kernel⟩
theorem chkf_lowest : chkB sig Nf_lowest (defScope (top 17)) Bf_lowest.body (defBody (top 17)) = true := by decide +kernel
theorem scf_lowest : FnScope Nf_lowest ["top", "below"] (defScope (top 17)) := ⟨rfl, rfl, rfl, by decide +kernel, rfl, by decide +kernel, by decide +kernel⟩
theorem chkf_less : chkB sig Nf_less (defScope (top 18)) Bf_less.body (defBody (top 18)) = true := by decide +kernel
theorem scf_less : FnScope Nf_less ["one", "other"] (defScope (top 18)) := ⟨rfl, rfl, rfl, by decide +kernel, rfl, by decide +kernel, by decide +kernel⟩
theorem chkf_simplest_in : chkB sig Nf_simplest_in (defScope (top 19)) Bf_simplest_in.body (defBody (top 19)) = true := by decide +kernel
theorem scf_simplest_in : FnScope Nf_simplest_in ["low", "high"] (defScope (top 19)) := ⟨rfl, rfl, rfl, by decide +kernel, rfl, by decide +kernel, by decide +kernel⟩
theorem chkf_bounds : chkB sig Nf_bounds (defScope (top 21)) Bf_bounds.body (defBody (top 21)) = true := by decide +kernel
theorem scf_bounds : FnScope Nf_bounds ["points"] (defScope (top 21)) := ⟨rfl, rfl, rfl, by decide +kernel, rfl, by decide +kernel, by decide +kernel⟩
theorem chkf_straight : chkB sig Nf_straight (defScope (top 22)) Bf_straight.body (defBody (top 22)) = true := by decide +kernel
theorem scf_straight : FnScope Nf_straight ["points"] (defScope (top 22)) := ⟨rfl, rfl, rfl, by decide +kernel, rfl, by decide +kernel, by decide +kernel⟩
theorem chkf_check_straight : chkB sig Nf_check_straight (defScope (top 23)) Bf_check_straight.body (defBody (top 23)) = true := by decide +kernel
theorem scf_check_straight : FnScope Nf_check_straight ["points"] (defScope (top 23)) := ⟨rfl, rfl, rfl, by decide +kernel, rfl, by decide +kernel, by decide +kernel⟩
theorem chkf_slopes : chkB sig Nf_slopes (defScope (top 24)) Bf_slopes.body (defBody (top 24)) = true := by decide +kernel
theorem scf_slopes : FnScope Nf_slopes ["points"] (defScope (top 24)) := ⟨rfl, rfl, rfl, by decide +kernel, rfl, by decide +kernel, by decide +kernel⟩
theorem chkf_offsets : chkB sig Nf_offsets (defScope (top 26)) Bf_offsets.body (defBody (top 26)) = true := by decide +kernel
theorem scf_offsets : FnScope Nf_offsets ["points", "slope"] (defScope (top 26)) := ⟨rfl, rfl, rfl, by decide +kernel, rfl, by decide +kernel, by decide +kernel⟩
theorem chkf_leanest : chkB sig Nf_leanest (defScope (top 27)) Bf_leanest.body (defBody (top 27)) = true := by decide +kernel
theorem scf_leanest : FnScope Nf_leanest ["points"] (defScope (top 27)) := ⟨rfl, rfl, rfl, by decide +kernel, rfl, by decide +kernel, by decide +kernel⟩
theorem chkf_leanest_line : chkB sig Nf_leanest_line (defScope (top 28)) Bf_leanest_line.body (defBody (top 28)) = true := by decide +kernel
theorem scf_leanest_line : FnScope Nf_leanest_line ["points"] (defScope (top 28)) := ⟨rfl, rfl, rfl, by decide +kernel, rfl, by decide +kernel, by decide +kernel⟩
theorem scf_law_start : FnScope Nf_law_start ["_law_script"] (defScope (top 32)) := ⟨rfl, rfl, rfl, by decide +kernel, rfl, by decide +kernel, by decide +kernel⟩
theorem scf_law_draw : FnScope Nf_law_draw ["_law_draws", "_law_limit"] (defScope (top 33)) := ⟨rfl, rfl, rfl, by decide +kernel, rfl, by decide +kernel, by decide +kernel⟩
theorem chkf_law_pick : chkB sig Nf_law_pick (defScope (top 34)) Bf_law_pick.body (defBody (top 34)) = true := by decide +kernel
theorem scf_law_pick : FnScope Nf_law_pick ["_law_draws", "_law_choices"] (defScope (top 34)) := ⟨rfl, rfl, rfl, by decide +kernel, rfl, by decide +kernel, by decide +kernel⟩
theorem chkf_law_error : chkB sig Nf_law_error (defScope (top 35)) Bf_law_error.body (defBody (top 35)) = true := by decide +kernel
theorem scf_law_error : FnScope Nf_law_error ["_law_caught"] (defScope (top 35)) := ⟨rfl, rfl, rfl, by decide +kernel, rfl, by decide +kernel, by decide +kernel⟩
theorem chkf_law_true : chkB sig Nf_law_true (defScope (top 36)) Bf_law_true.body (defBody (top 36)) = true := by decide +kernel
theorem scf_law_true : FnScope Nf_law_true ["_law_value", "_law_expected"] (defScope (top 36)) := ⟨rfl, rfl, rfl, by decide +kernel, rfl, by decide +kernel, by decide +kernel⟩
theorem chkf_law_common : chkB sig Nf_law_common (defScope (top 37)) Bf_law_common.body (defBody (top 37)) = true := by decide +kernel
theorem scf_law_common : FnScope Nf_law_common ["_law_one", "_law_other"] (defScope (top 37)) := ⟨rfl, rfl, rfl, by decide +kernel, rfl, by decide +kernel, by decide +kernel⟩
theorem chkf_law_low : chkB sig Nf_law_low (defScope (top 38)) Bf_law_low.body (defBody (top 38)) = true := by decide +kernel
theorem scf_law_low : FnScope Nf_law_low ["_law_top", "_law_under"] (defScope (top 38)) := ⟨rfl, rfl, rfl, by decide +kernel, rfl, by decide +kernel, by decide +kernel⟩
theorem chkf_law_line : chkB sig Nf_law_line (defScope (top 39)) Bf_law_line.body (defBody (top 39)) = true := by decide +kernel
theorem scf_law_line : FnScope Nf_law_line ["_law_draws"] (defScope (top 39)) := ⟨rfl, rfl, rfl, by decide +kernel, rfl, by decide +kernel, by decide +kernel⟩
theorem chkf_law_height : chkB sig Nf_law_height (defScope (top 40)) Bf_law_height.body (defBody (top 40)) = true := by decide +kernel
theorem scf_law_height : FnScope Nf_law_height ["_law_line_here", "_law_x"] (defScope (top 40)) := ⟨rfl, rfl, rfl, by decide +kernel, rfl, by decide +kernel, by decide +kernel⟩
theorem chkf_law_bounds : chkB sig Nf_law_bounds (defScope (top 41)) Bf_law_bounds.body (defBody (top 41)) = true := by decide +kernel
theorem scf_law_bounds : FnScope Nf_law_bounds ["_law_points"] (defScope (top 41)) := ⟨rfl, rfl, rfl, by decide +kernel, rfl, by decide +kernel, by decide +kernel⟩
theorem chkf_law_fits : chkB sig Nf_law_fits (defScope (top 42)) Bf_law_fits.body (defBody (top 42)) = true := by decide +kernel
theorem scf_law_fits : FnScope Nf_law_fits ["_law_points"] (defScope (top 42)) := ⟨rfl, rfl, rfl, by decide +kernel, rfl, by decide +kernel, by decide +kernel⟩
theorem chkf_law_call : chkB sig Nf_law_call (defScope (top 43)) Bf_law_call.body (defBody (top 43)) = true := by decide +kernel
theorem scf_law_call : FnScope Nf_law_call ["_law_shown", "_law_kind", "_law_thing"] (defScope (top 43)) := ⟨rfl, rfl, rfl, by decide +kernel, rfl, by decide +kernel, by decide +kernel⟩
theorem chkf_law_k13 : chkB sig Nf_law_k13 (defScope (top 44)) Bf_law_k13.body (defBody (top 44)) = true := by decide +kernel
theorem scf_law_k13 : FnScope Nf_law_k13 ["_law_script"] (defScope (top 44)) := ⟨rfl, rfl, rfl, by decide +kernel, rfl, by decide +kernel, by decide +kernel⟩
theorem chkm_add : chkB sig Nm_add (defScope (mtop 30 1)) Bm_add.body (defBody (mtop 30 1)) = true := by decide +kernel
theorem scm_add : FnScope Nm_add ["self", "point"] (defScope (mtop 30 1)) := ⟨rfl, rfl, rfl, by decide +kernel, rfl, by decide +kernel, by decide +kernel⟩
theorem chkm_fits : chkB sig Nm_fits (defScope (mtop 30 2)) Bm_fits.body (defBody (mtop 30 2)) = true := by decide +kernel
theorem scm_fits : FnScope Nm_fits ["self", "point"] (defScope (mtop 30 2)) := ⟨rfl, rfl, rfl, by decide +kernel, rfl, by decide +kernel, by decide +kernel⟩
theorem chkm_drop : chkB sig Nm_drop (defScope (mtop 30 3)) Bm_drop.body (defBody (mtop 30 3)) = true := by decide +kernel
theorem scm_drop : FnScope Nm_drop ["self", "x"] (defScope (mtop 30 3)) := ⟨rfl, rfl, rfl, by decide +kernel, rfl, by decide +kernel, by decide +kernel⟩
theorem chkm_points : chkB sig Nm_points (defScope (mtop 30 4)) Bm_points.body (defBody (mtop 30 4)) = true := by decide +kernel
theorem scm_points : FnScope Nm_points ["self"] (defScope (mtop 30 4)) := ⟨rfl, rfl, rfl, by decide +kernel, rfl, by decide +kernel, by decide +kernel⟩
theorem chkm_slopes : chkB sig Nm_slopes (defScope (mtop 30 5)) Bm_slopes.body (defBody (mtop 30 5)) = true := by decide +kernel
theorem scm_slopes : FnScope Nm_slopes ["self"] (defScope (mtop 30 5)) := ⟨rfl, rfl, rfl, by decide +kernel, rfl, by decide +kernel, by decide +kernel⟩
theorem chkm_line : chkB sig Nm_line (defScope (mtop 30 6)) Bm_line.body (defBody (mtop 30 6)) = true := by decide +kernel
theorem scm_line : FnScope Nm_line ["self"] (defScope (mtop 30 6)) := ⟨rfl, rfl, rfl, by decide +kernel, rfl, by decide +kernel, by decide +kernel⟩
theorem chkm_undo : chkB sig Nm_undo (defScope (mtop 30 7)) Bm_undo.body (defBody (mtop 30 7)) = true := by decide +kernel
theorem scm_undo : FnScope Nm_undo ["self"] (defScope (mtop 30 7)) := ⟨rfl, rfl, rfl, by decide +kernel, rfl, by decide +kernel, by decide +kernel⟩
theorem chkm___len__ : chkB sig Nm___len__ (defScope (mtop 30 8)) Bm___len__.body (defBody (mtop 30 8)) = true := by decide +kernel
theorem scm___len__ : FnScope Nm___len__ ["self"] (defScope (mtop 30 8)) := ⟨rfl, rfl, rfl, by decide +kernel, rfl, by decide +kernel, by decide +kernel⟩
theorem scm___init__ : FnScope Nm___init__ ["self"] (defScope (mtop 30 0)) := ⟨rfl, rfl, rfl, by decide +kernel, rfl, by decide +kernel, by decide +kernel⟩
end K13

end

section
/-! the head of law_k13_whole_strips -/
namespace K13
open PySem PySem.Spec PyProof.Rows L2 Ev Px
def df_is_int : He.DefD := ⟨("is_int", none), "is_int", "is_int", defArgs (top 11), defBody (top 11), defScope (top 11), [], []⟩
def df_is_point : He.DefD := ⟨("is_point", none), "is_point", "is_point", defArgs (top 12), defBody (top 12), defScope (top 12), [], []⟩
def df_are_points : He.DefD := ⟨("are_points", none), "are_points", "are_points", defArgs (top 13), defBody (top 13), defScope (top 13), [], []⟩
def df_check_points : He.DefD := ⟨("check_points", none), "check_points", "check_points", defArgs (top 14), defBody (top 14), defScope (top 14), [], []⟩
def df_common : He.DefD := ⟨("common", none), "common", "common", defArgs (top 16), defBody (top 16), defScope (top 16), [], []⟩
def df_lowest : He.DefD := ⟨("lowest", none), "lowest", "lowest", defArgs (top 17), defBody (top 17), defScope (top 17), [], []⟩
def df_less : He.DefD := ⟨("less", none), "less", "less", defArgs (top 18), defBody (top 18), defScope (top 18), [], []⟩
def df_simplest_in : He.DefD := ⟨("simplest_in", none), "simplest_in", "simplest_in", defArgs (top 19), defBody (top 19), defScope (top 19), [], []⟩
def df_bounds : He.DefD := ⟨("bounds", none), "bounds", "bounds", defArgs (top 21), defBody (top 21), defScope (top 21), [], []⟩
def df_straight : He.DefD := ⟨("straight", none), "straight", "straight", defArgs (top 22), defBody (top 22), defScope (top 22), [], []⟩
def df_check_straight : He.DefD := ⟨("check_straight", none), "check_straight", "check_straight", defArgs (top 23), defBody (top 23), defScope (top 23), [], []⟩
def df_slopes : He.DefD := ⟨("slopes", none), "slopes", "slopes", defArgs (top 24), defBody (top 24), defScope (top 24), [], []⟩
def df_offsets : He.DefD := ⟨("offsets", none), "offsets", "offsets", defArgs (top 26), defBody (top 26), defScope (top 26), [], []⟩
def df_leanest : He.DefD := ⟨("leanest", none), "leanest", "leanest", defArgs (top 27), defBody (top 27), defScope (top 27), [], []⟩
def df_leanest_line : He.DefD := ⟨("leanest_line", none), "leanest_line", "leanest_line", defArgs (top 28), defBody (top 28), defScope (top 28), [], []⟩
def df_law_start : He.DefD := ⟨("_law_start", none), "_law_start", "_law_start", defArgs (top 32), defBody (top 32), defScope (top 32), [], []⟩
def df_law_draw : He.DefD := ⟨("_law_draw", none), "_law_draw", "_law_draw", defArgs (top 33), defBody (top 33), defScope (top 33), [], []⟩
def df_law_pick : He.DefD := ⟨("_law_pick", none), "_law_pick", "_law_pick", defArgs (top 34), defBody (top 34), defScope (top 34), [], []⟩
def df_law_error : He.DefD := ⟨("_law_error", none), "_law_error", "_law_error", defArgs (top 35), defBody (top 35), defScope (top 35), [], []⟩
def df_law_true : He.DefD := ⟨("_law_true", none), "_law_true", "_law_true", defArgs (top 36), defBody (top 36), defScope (top 36), [], []⟩
def df_law_common : He.DefD := ⟨("_law_common", none), "_law_common", "_law_common", defArgs (top 37), defBody (top 37), defScope (top 37), [], []⟩
def df_law_low : He.DefD := ⟨("_law_low", none), "_law_low", "_law_low", defArgs (top 38), defBody (top 38), defScope (top 38), [], []⟩
def df_law_line : He.DefD := ⟨("_law_line", none), "_law_line", "_law_line", defArgs (top 39), defBody (top 39), defScope (top 39), [], []⟩
def df_law_height : He.DefD := ⟨("_law_height", none), "_law_height", "_law_height", defArgs (top 40), defBody (top 40), defScope (top 40), [], []⟩
def df_law_bounds : He.DefD := ⟨("_law_bounds", none), "_law_bounds", "_law_bounds", defArgs (top 41), defBody (top 41), defScope (top 41), [], []⟩
def df_law_fits : He.DefD := ⟨("_law_fits", none), "_law_fits", "_law_fits", defArgs (top 42), defBody (top 42), defScope (top 42), [], []⟩
def df_law_call : He.DefD := ⟨("_law_call", none), "_law_call", "_law_call", defArgs (top 43), defBody (top 43), defScope (top 43), [], []⟩
def df_law_k13 : He.DefD := ⟨("law", none), "law", "law", defArgs (top 44), defBody (top 44), defScope (top 44), [], []⟩
def dm_add : He.DefD := ⟨("Strip", some "add"), "add", "Strip.add", defArgs (mtop 30 1), defBody (mtop 30 1), defScope (mtop 30 1), [], []⟩
def dm_fits : He.DefD := ⟨("Strip", some "fits"), "fits", "Strip.fits", defArgs (mtop 30 2), defBody (mtop 30 2), defScope (mtop 30 2), [], []⟩
def dm_drop : He.DefD := ⟨("Strip", some "drop"), "drop", "Strip.drop", defArgs (mtop 30 3), defBody (mtop 30 3), defScope (mtop 30 3), [], []⟩
def dm_points : He.DefD := ⟨("Strip", some "points"), "points", "Strip.points", defArgs (mtop 30 4), defBody (mtop 30 4), defScope (mtop 30 4), [], []⟩
def dm_slopes : He.DefD := ⟨("Strip", some "slopes"), "slopes", "Strip.slopes", defArgs (mtop 30 5), defBody (mtop 30 5), defScope (mtop 30 5), [], []⟩
def dm_line : He.DefD := ⟨("Strip", some "line"), "line", "Strip.line", defArgs (mtop 30 6), defBody (mtop 30 6), defScope (mtop 30 6), [], []⟩
def dm_undo : He.DefD := ⟨("Strip", some "undo"), "undo", "Strip.undo", defArgs (mtop 30 7), defBody (mtop 30 7), defScope (mtop 30 7), [], []⟩
def dm___len__ : He.DefD := ⟨("Strip", some "__len__"), "__len__", "Strip.__len__", defArgs (mtop 30 8), defBody (mtop 30 8), defScope (mtop 30 8), [], []⟩
def dm___init__ : He.DefD := ⟨("Strip", some "__init__"), "__init__", "Strip.__init__", defArgs (mtop 30 0), defBody (mtop 30 0), defScope (mtop 30 0), [], []⟩
def fn : List He.DefD := ([df_is_int, df_is_point, df_are_points, df_check_points, df_common, df_lowest, df_less, df_simplest_in, df_bounds, df_straight, df_check_straight, df_slopes, df_offsets, df_leanest, df_leanest_line, df_law_start] : List He.DefD) ++ ([df_law_draw, df_law_pick, df_law_error, df_law_true, df_law_common, df_law_low, df_law_line, df_law_height, df_law_bounds, df_law_fits, df_law_call, df_law_k13, dm_add, dm_fits, dm_drop, dm_points] : List He.DefD) ++ ([dm_slopes, dm_line, dm_undo, dm___len__, dm___init__] : List He.DefD)
def gls : List Str := (["is_int", "is_point", "are_points", "check_points", "common", "lowest", "less", "simplest_in", "bounds", "straight", "check_straight", "slopes", "offsets", "leanest", "leanest_line", "_law_start"] : List Str) ++ (["_law_draw", "_law_pick", "_law_error", "_law_true", "_law_common", "_law_low", "_law_line", "_law_height", "_law_bounds", "_law_fits", "_law_call", "law"] : List Str)
def stf : List He.Fa := ([.cls "Strip", .noat "Strip" "row", .noat "Strip" "past", .mkr "Strip", .glo "Strip", .meth "Strip" "add", .meth "Strip" "fits", .meth "Strip" "drop", .meth "Strip" "points", .meth "Strip" "slopes", .meth "Strip" "line", .meth "Strip" "undo", .meth "Strip" "__len__"] : List He.Fa)
def fa0 : List He.Fa := gls.map He.Fa.glo ++ (frees.map He.Fa.free ++ (gi.map (fun p => He.Fa.int p.1 p.2) ++ (gs.map (fun p => He.Fa.str p.1 p.2) ++ (excs.map (fun c => He.Fa.glo (excN c)) ++ (excs.map (fun c => He.Fa.exc (excN c)) ++ excs.map fun c => He.Fa.exm (excN c) "LineError" true)))))
def fa : List He.Fa := fa0 ++ stf
def nms : List Str := (["LineError", "BadPoints", "BadRow", "BadLine", "BadNumber", "BadText", "NotStraight", "NotFound", "MOST", "MOST_POINTS", "is_int", "is_point", "are_points", "check_points", "common", "lowest"] : List Str) ++ (["less", "simplest_in", "bounds", "straight", "check_straight", "slopes", "offsets", "leanest", "leanest_line", "Strip", "_law_start", "_law_draw", "_law_pick", "_law_error", "_law_true", "_law_common"] : List Str) ++ (["_law_low", "_law_line", "_law_height", "_law_bounds", "_law_fits", "_law_call"] : List Str)
abbrev R : PySem.W.OpenRow := PySem.W.OpenLaw.row PySem.Challenge.rw_pixellines_k13_whole_strips
abbrev hk : PySem.W.Hook := Ev.hookE 5 fa fn Ev.excB
def ob (s : PySem.W.SharedT) : He.AlD × Bool := Ev.obsEG 5 fa fn Ev.excB (HandSHeadRun.getT s)
theorem ob_eq (s : PySem.W.SharedT) : ob s = hk.obs s.abs := Ev.obsEG_eq (HandSHeadRun.getT_eq s)
theorem run_eq (w : World) : HandSHeadRun.RunEq R (PySem.W.view R.prog [44]) hk ob 9000 nms w := by
  intro os
  kernel_rfl
section
variable {P : Program} {w : World} {K : PySem.W.Frag} {mg : Str → Option Value} {base : Heap}
theorem bdf_is_int {a : Addr} {fd : FuncData} (F : FunD K "is_int" "is_int" (defArgs (top 11)) (defBody (top 11)) (defScope (top 11)) [] [] a fd) : Binds K fd ["value", "low", "high"] [] :=
  F.bindsN fun _ _ _ _ _ _ us hl => match us, hl with | [_, _, _], _ => rfl
theorem bdf_is_point {a : Addr} {fd : FuncData} (F : FunD K "is_point" "is_point" (defArgs (top 12)) (defBody (top 12)) (defScope (top 12)) [] [] a fd) : Binds K fd ["value"] [] :=
  F.bindsN fun _ _ _ _ _ _ us hl => match us, hl with | [_], _ => rfl
theorem bdf_are_points {a : Addr} {fd : FuncData} (F : FunD K "are_points" "are_points" (defArgs (top 13)) (defBody (top 13)) (defScope (top 13)) [] [] a fd) : Binds K fd ["value"] [] :=
  F.bindsN fun _ _ _ _ _ _ us hl => match us, hl with | [_], _ => rfl
theorem bdf_check_points {a : Addr} {fd : FuncData} (F : FunD K "check_points" "check_points" (defArgs (top 14)) (defBody (top 14)) (defScope (top 14)) [] [] a fd) : Binds K fd ["value"] [] :=
  F.bindsN fun _ _ _ _ _ _ us hl => match us, hl with | [_], _ => rfl
theorem bdf_common {a : Addr} {fd : FuncData} (F : FunD K "common" "common" (defArgs (top 16)) (defBody (top 16)) (defScope (top 16)) [] [] a fd) : Binds K fd ["one", "other"] [] :=
  F.bindsN fun _ _ _ _ _ _ us hl => match us, hl with | [_, _], _ => rfl
theorem bdf_lowest {a : Addr} {fd : FuncData} (F : FunD K "lowest" "lowest" (defArgs (top 17)) (defBody (top 17)) (defScope (top 17)) [] [] a fd) : Binds K fd ["top", "below"] [] :=
  F.bindsN fun _ _ _ _ _ _ us hl => match us, hl with | [_, _], _ => rfl
theorem bdf_less {a : Addr} {fd : FuncData} (F : FunD K "less" "less" (defArgs (top 18)) (defBody (top 18)) (defScope (top 18)) [] [] a fd) : Binds K fd ["one", "other"] [] :=
  F.bindsN fun _ _ _ _ _ _ us hl => match us, hl with | [_, _], _ => rfl
theorem bdf_simplest_in {a : Addr} {fd : FuncData} (F : FunD K "simplest_in" "simplest_in" (defArgs (top 19)) (defBody (top 19)) (defScope (top 19)) [] [] a fd) : Binds K fd ["low", "high"] [] :=
  F.bindsN fun _ _ _ _ _ _ us hl => match us, hl with | [_, _], _ => rfl
theorem bdf_bounds {a : Addr} {fd : FuncData} (F : FunD K "bounds" "bounds" (defArgs (top 21)) (defBody (top 21)) (defScope (top 21)) [] [] a fd) : Binds K fd ["points"] [] :=
  F.bindsN fun _ _ _ _ _ _ us hl => match us, hl with | [_], _ => rfl
theorem bdf_straight {a : Addr} {fd : FuncData} (F : FunD K "straight" "straight" (defArgs (top 22)) (defBody (top 22)) (defScope (top 22)) [] [] a fd) : Binds K fd ["points"] [] :=
  F.bindsN fun _ _ _ _ _ _ us hl => match us, hl with | [_], _ => rfl
theorem bdf_check_straight {a : Addr} {fd : FuncData} (F : FunD K "check_straight" "check_straight" (defArgs (top 23)) (defBody (top 23)) (defScope (top 23)) [] [] a fd) : Binds K fd ["points"] [] :=
  F.bindsN fun _ _ _ _ _ _ us hl => match us, hl with | [_], _ => rfl
theorem bdf_slopes {a : Addr} {fd : FuncData} (F : FunD K "slopes" "slopes" (defArgs (top 24)) (defBody (top 24)) (defScope (top 24)) [] [] a fd) : Binds K fd ["points"] [] :=
  F.bindsN fun _ _ _ _ _ _ us hl => match us, hl with | [_], _ => rfl
theorem bdf_offsets {a : Addr} {fd : FuncData} (F : FunD K "offsets" "offsets" (defArgs (top 26)) (defBody (top 26)) (defScope (top 26)) [] [] a fd) : Binds K fd ["points", "slope"] [] :=
  F.bindsN fun _ _ _ _ _ _ us hl => match us, hl with | [_, _], _ => rfl
theorem bdf_leanest {a : Addr} {fd : FuncData} (F : FunD K "leanest" "leanest" (defArgs (top 27)) (defBody (top 27)) (defScope (top 27)) [] [] a fd) : Binds K fd ["points"] [] :=
  F.bindsN fun _ _ _ _ _ _ us hl => match us, hl with | [_], _ => rfl
theorem bdf_leanest_line {a : Addr} {fd : FuncData} (F : FunD K "leanest_line" "leanest_line" (defArgs (top 28)) (defBody (top 28)) (defScope (top 28)) [] [] a fd) : Binds K fd ["points"] [] :=
  F.bindsN fun _ _ _ _ _ _ us hl => match us, hl with | [_], _ => rfl
theorem bdf_law_start {a : Addr} {fd : FuncData} (F : FunD K "_law_start" "_law_start" (defArgs (top 32)) (defBody (top 32)) (defScope (top 32)) [] [] a fd) : Binds K fd ["_law_script"] [] :=
  F.bindsN fun _ _ _ _ _ _ us hl => match us, hl with | [_], _ => rfl
theorem bdf_law_draw {a : Addr} {fd : FuncData} (F : FunD K "_law_draw" "_law_draw" (defArgs (top 33)) (defBody (top 33)) (defScope (top 33)) [] [] a fd) : Binds K fd ["_law_draws", "_law_limit"] [] :=
  F.bindsN fun _ _ _ _ _ _ us hl => match us, hl with | [_, _], _ => rfl
theorem bdf_law_pick {a : Addr} {fd : FuncData} (F : FunD K "_law_pick" "_law_pick" (defArgs (top 34)) (defBody (top 34)) (defScope (top 34)) [] [] a fd) : Binds K fd ["_law_draws", "_law_choices"] [] :=
  F.bindsN fun _ _ _ _ _ _ us hl => match us, hl with | [_, _], _ => rfl
theorem bdf_law_error {a : Addr} {fd : FuncData} (F : FunD K "_law_error" "_law_error" (defArgs (top 35)) (defBody (top 35)) (defScope (top 35)) [] [] a fd) : Binds K fd ["_law_caught"] [] :=
  F.bindsN fun _ _ _ _ _ _ us hl => match us, hl with | [_], _ => rfl
theorem bdf_law_true {a : Addr} {fd : FuncData} (F : FunD K "_law_true" "_law_true" (defArgs (top 36)) (defBody (top 36)) (defScope (top 36)) [] [] a fd) : Binds K fd ["_law_value", "_law_expected"] [] :=
  F.bindsN fun _ _ _ _ _ _ us hl => match us, hl with | [_, _], _ => rfl
theorem bdf_law_common {a : Addr} {fd : FuncData} (F : FunD K "_law_common" "_law_common" (defArgs (top 37)) (defBody (top 37)) (defScope (top 37)) [] [] a fd) : Binds K fd ["_law_one", "_law_other"] [] :=
  F.bindsN fun _ _ _ _ _ _ us hl => match us, hl with | [_, _], _ => rfl
theorem bdf_law_low {a : Addr} {fd : FuncData} (F : FunD K "_law_low" "_law_low" (defArgs (top 38)) (defBody (top 38)) (defScope (top 38)) [] [] a fd) : Binds K fd ["_law_top", "_law_under"] [] :=
  F.bindsN fun _ _ _ _ _ _ us hl => match us, hl with | [_, _], _ => rfl
theorem bdf_law_line {a : Addr} {fd : FuncData} (F : FunD K "_law_line" "_law_line" (defArgs (top 39)) (defBody (top 39)) (defScope (top 39)) [] [] a fd) : Binds K fd ["_law_draws"] [] :=
  F.bindsN fun _ _ _ _ _ _ us hl => match us, hl with | [_], _ => rfl
theorem bdf_law_height {a : Addr} {fd : FuncData} (F : FunD K "_law_height" "_law_height" (defArgs (top 40)) (defBody (top 40)) (defScope (top 40)) [] [] a fd) : Binds K fd ["_law_line_here", "_law_x"] [] :=
  F.bindsN fun _ _ _ _ _ _ us hl => match us, hl with | [_, _], _ => rfl
theorem bdf_law_bounds {a : Addr} {fd : FuncData} (F : FunD K "_law_bounds" "_law_bounds" (defArgs (top 41)) (defBody (top 41)) (defScope (top 41)) [] [] a fd) : Binds K fd ["_law_points"] [] :=
  F.bindsN fun _ _ _ _ _ _ us hl => match us, hl with | [_], _ => rfl
theorem bdf_law_fits {a : Addr} {fd : FuncData} (F : FunD K "_law_fits" "_law_fits" (defArgs (top 42)) (defBody (top 42)) (defScope (top 42)) [] [] a fd) : Binds K fd ["_law_points"] [] :=
  F.bindsN fun _ _ _ _ _ _ us hl => match us, hl with | [_], _ => rfl
theorem bdf_law_call {a : Addr} {fd : FuncData} (F : FunD K "_law_call" "_law_call" (defArgs (top 43)) (defBody (top 43)) (defScope (top 43)) [] [] a fd) : Binds K fd ["_law_shown", "_law_kind", "_law_thing"] [] :=
  F.bindsN fun _ _ _ _ _ _ us hl => match us, hl with | [_, _, _], _ => rfl
theorem bdf_law_k13 {a : Addr} {fd : FuncData} (F : FunD K "law" "law" (defArgs (top 44)) (defBody (top 44)) (defScope (top 44)) [] [] a fd) : Binds K fd ["_law_script"] [] :=
  F.bindsN fun _ _ _ _ _ _ us hl => match us, hl with | [_], _ => rfl
theorem bdm_add {a : Addr} {fd : FuncData} (F : FunD K "add" "Strip.add" (defArgs (mtop 30 1)) (defBody (mtop 30 1)) (defScope (mtop 30 1)) [] [] a fd) : Binds K fd ["self", "point"] [] :=
  F.bindsN fun _ _ _ _ _ _ us hl => match us, hl with | [_, _], _ => rfl
theorem bdm_fits {a : Addr} {fd : FuncData} (F : FunD K "fits" "Strip.fits" (defArgs (mtop 30 2)) (defBody (mtop 30 2)) (defScope (mtop 30 2)) [] [] a fd) : Binds K fd ["self", "point"] [] :=
  F.bindsN fun _ _ _ _ _ _ us hl => match us, hl with | [_, _], _ => rfl
theorem bdm_drop {a : Addr} {fd : FuncData} (F : FunD K "drop" "Strip.drop" (defArgs (mtop 30 3)) (defBody (mtop 30 3)) (defScope (mtop 30 3)) [] [] a fd) : Binds K fd ["self", "x"] [] :=
  F.bindsN fun _ _ _ _ _ _ us hl => match us, hl with | [_, _], _ => rfl
theorem bdm_points {a : Addr} {fd : FuncData} (F : FunD K "points" "Strip.points" (defArgs (mtop 30 4)) (defBody (mtop 30 4)) (defScope (mtop 30 4)) [] [] a fd) : Binds K fd ["self"] [] :=
  F.bindsN fun _ _ _ _ _ _ us hl => match us, hl with | [_], _ => rfl
theorem bdm_slopes {a : Addr} {fd : FuncData} (F : FunD K "slopes" "Strip.slopes" (defArgs (mtop 30 5)) (defBody (mtop 30 5)) (defScope (mtop 30 5)) [] [] a fd) : Binds K fd ["self"] [] :=
  F.bindsN fun _ _ _ _ _ _ us hl => match us, hl with | [_], _ => rfl
theorem bdm_line {a : Addr} {fd : FuncData} (F : FunD K "line" "Strip.line" (defArgs (mtop 30 6)) (defBody (mtop 30 6)) (defScope (mtop 30 6)) [] [] a fd) : Binds K fd ["self"] [] :=
  F.bindsN fun _ _ _ _ _ _ us hl => match us, hl with | [_], _ => rfl
theorem bdm_undo {a : Addr} {fd : FuncData} (F : FunD K "undo" "Strip.undo" (defArgs (mtop 30 7)) (defBody (mtop 30 7)) (defScope (mtop 30 7)) [] [] a fd) : Binds K fd ["self"] [] :=
  F.bindsN fun _ _ _ _ _ _ us hl => match us, hl with | [_], _ => rfl
theorem bdm___len__ {a : Addr} {fd : FuncData} (F : FunD K "__len__" "Strip.__len__" (defArgs (mtop 30 8)) (defBody (mtop 30 8)) (defScope (mtop 30 8)) [] [] a fd) : Binds K fd ["self"] [] :=
  F.bindsN fun _ _ _ _ _ _ us hl => match us, hl with | [_], _ => rfl
theorem bdm___init__ {a : Addr} {fd : FuncData} (F : FunD K "__init__" "Strip.__init__" (defArgs (mtop 30 0)) (defBody (mtop 30 0)) (defScope (mtop 30 0)) [] [] a fd) : Binds K fd ["self"] [] :=
  F.bindsN fun _ _ _ _ _ _ us hl => match us, hl with | [_], _ => rfl
theorem facts (KX : K.In base) (G : base.Ns mainGlobals mg) (c : He.SaysD fa fn K) (cx : Ev.excB K = true) : Facts sig TB SPC en P w K mg base := by
  have cf : ∀ f, f ∈ fa0 → f.ok K = true := fun f h => c.facts (List.mem_append_left _ h)
  have hfr : ∀ x, x ∈ frees → mg x = none := fun x hx => He.free_ok KX G (cf (.free x) (List.mem_append_right _ (List.mem_append_left _ (List.mem_map_of_mem hx))))
  have cs : Cls K (stA K) ∧ NoAttr K (stA K) "row" ∧ NoAttr K (stA K) "past" := ⟨He.cls_ok (c.facts (List.mem_append_right _ (List.mem_of_getElem? (show stf[0]? = some _ from rfl)))), He.noat_ok (c.facts (List.mem_append_right _ (List.mem_of_getElem? (show stf[1]? = some _ from rfl)))), He.noat_ok (c.facts (List.mem_append_right _ (List.mem_of_getElem? (show stf[2]? = some _ from rfl))))⟩
  refine ⟨fun f hf => ?_, fun f hf => ?_, ?_, fun f hf => ?_, ?_, fun f hf => ?_, fun f d hf h => ?_, fun f a fd k hf h F => ?_, hfr, fun p hp => ?_, fun p hp => ?_, ?_, fun e he => ?_, fun e he => ?_, fun e he _ => ?_⟩
  · revert hf; cases f <;> intro hf <;> first | exact absurd hf Bool.false_ne_true | skip
    case f_is_int =>
      obtain ⟨fd, F⟩ := c.def_ 0 (d := df_is_int) rfl
      exact ⟨_, fd, F, He.glo_ok KX G (cf (.glo "is_int") (List.mem_append_left _ (List.mem_map_of_mem (List.mem_of_getElem? (show gls[0]? = some _ from rfl))))), bdf_is_int F⟩
    case f_is_point =>
      obtain ⟨fd, F⟩ := c.def_ 1 (d := df_is_point) rfl
      exact ⟨_, fd, F, He.glo_ok KX G (cf (.glo "is_point") (List.mem_append_left _ (List.mem_map_of_mem (List.mem_of_getElem? (show gls[1]? = some _ from rfl))))), bdf_is_point F⟩
    case f_are_points =>
      obtain ⟨fd, F⟩ := c.def_ 2 (d := df_are_points) rfl
      exact ⟨_, fd, F, He.glo_ok KX G (cf (.glo "are_points") (List.mem_append_left _ (List.mem_map_of_mem (List.mem_of_getElem? (show gls[2]? = some _ from rfl))))), bdf_are_points F⟩
    case f_check_points =>
      obtain ⟨fd, F⟩ := c.def_ 3 (d := df_check_points) rfl
      exact ⟨_, fd, F, He.glo_ok KX G (cf (.glo "check_points") (List.mem_append_left _ (List.mem_map_of_mem (List.mem_of_getElem? (show gls[3]? = some _ from rfl))))), bdf_check_points F⟩
    case f_common =>
      obtain ⟨fd, F⟩ := c.def_ 4 (d := df_common) rfl
      exact ⟨_, fd, F, He.glo_ok KX G (cf (.glo "common") (List.mem_append_left _ (List.mem_map_of_mem (List.mem_of_getElem? (show gls[4]? = some _ from rfl))))), bdf_common F⟩
    case f_lowest =>
      obtain ⟨fd, F⟩ := c.def_ 5 (d := df_lowest) rfl
      exact ⟨_, fd, F, He.glo_ok KX G (cf (.glo "lowest") (List.mem_append_left _ (List.mem_map_of_mem (List.mem_of_getElem? (show gls[5]? = some _ from rfl))))), bdf_lowest F⟩
    case f_less =>
      obtain ⟨fd, F⟩ := c.def_ 6 (d := df_less) rfl
      exact ⟨_, fd, F, He.glo_ok KX G (cf (.glo "less") (List.mem_append_left _ (List.mem_map_of_mem (List.mem_of_getElem? (show gls[6]? = some _ from rfl))))), bdf_less F⟩
    case f_simplest_in =>
      obtain ⟨fd, F⟩ := c.def_ 7 (d := df_simplest_in) rfl
      exact ⟨_, fd, F, He.glo_ok KX G (cf (.glo "simplest_in") (List.mem_append_left _ (List.mem_map_of_mem (List.mem_of_getElem? (show gls[7]? = some _ from rfl))))), bdf_simplest_in F⟩
    case f_bounds =>
      obtain ⟨fd, F⟩ := c.def_ 8 (d := df_bounds) rfl
      exact ⟨_, fd, F, He.glo_ok KX G (cf (.glo "bounds") (List.mem_append_left _ (List.mem_map_of_mem (List.mem_of_getElem? (show gls[8]? = some _ from rfl))))), bdf_bounds F⟩
    case f_straight =>
      obtain ⟨fd, F⟩ := c.def_ 9 (d := df_straight) rfl
      exact ⟨_, fd, F, He.glo_ok KX G (cf (.glo "straight") (List.mem_append_left _ (List.mem_map_of_mem (List.mem_of_getElem? (show gls[9]? = some _ from rfl))))), bdf_straight F⟩
    case f_check_straight =>
      obtain ⟨fd, F⟩ := c.def_ 10 (d := df_check_straight) rfl
      exact ⟨_, fd, F, He.glo_ok KX G (cf (.glo "check_straight") (List.mem_append_left _ (List.mem_map_of_mem (List.mem_of_getElem? (show gls[10]? = some _ from rfl))))), bdf_check_straight F⟩
    case f_slopes =>
      obtain ⟨fd, F⟩ := c.def_ 11 (d := df_slopes) rfl
      exact ⟨_, fd, F, He.glo_ok KX G (cf (.glo "slopes") (List.mem_append_left _ (List.mem_map_of_mem (List.mem_of_getElem? (show gls[11]? = some _ from rfl))))), bdf_slopes F⟩
    case f_offsets =>
      obtain ⟨fd, F⟩ := c.def_ 12 (d := df_offsets) rfl
      exact ⟨_, fd, F, He.glo_ok KX G (cf (.glo "offsets") (List.mem_append_left _ (List.mem_map_of_mem (List.mem_of_getElem? (show gls[12]? = some _ from rfl))))), bdf_offsets F⟩
    case f_leanest =>
      obtain ⟨fd, F⟩ := c.def_ 13 (d := df_leanest) rfl
      exact ⟨_, fd, F, He.glo_ok KX G (cf (.glo "leanest") (List.mem_append_left _ (List.mem_map_of_mem (List.mem_of_getElem? (show gls[13]? = some _ from rfl))))), bdf_leanest F⟩
    case f_leanest_line =>
      obtain ⟨fd, F⟩ := c.def_ 14 (d := df_leanest_line) rfl
      exact ⟨_, fd, F, He.glo_ok KX G (cf (.glo "leanest_line") (List.mem_append_left _ (List.mem_map_of_mem (List.mem_of_getElem? (show gls[14]? = some _ from rfl))))), bdf_leanest_line F⟩
    case f_law_start =>
      obtain ⟨fd, F⟩ := c.def_ 15 (d := df_law_start) rfl
      exact ⟨_, fd, F, He.glo_ok KX G (cf (.glo "_law_start") (List.mem_append_left _ (List.mem_map_of_mem (List.mem_of_getElem? (show gls[15]? = some _ from rfl))))), bdf_law_start F⟩
    case f_law_draw =>
      obtain ⟨fd, F⟩ := c.def_ 16 (d := df_law_draw) rfl
      exact ⟨_, fd, F, He.glo_ok KX G (cf (.glo "_law_draw") (List.mem_append_left _ (List.mem_map_of_mem (List.mem_of_getElem? (show gls[16]? = some _ from rfl))))), bdf_law_draw F⟩
    case f_law_pick =>
      obtain ⟨fd, F⟩ := c.def_ 17 (d := df_law_pick) rfl
      exact ⟨_, fd, F, He.glo_ok KX G (cf (.glo "_law_pick") (List.mem_append_left _ (List.mem_map_of_mem (List.mem_of_getElem? (show gls[17]? = some _ from rfl))))), bdf_law_pick F⟩
    case f_law_error =>
      obtain ⟨fd, F⟩ := c.def_ 18 (d := df_law_error) rfl
      exact ⟨_, fd, F, He.glo_ok KX G (cf (.glo "_law_error") (List.mem_append_left _ (List.mem_map_of_mem (List.mem_of_getElem? (show gls[18]? = some _ from rfl))))), bdf_law_error F⟩
    case f_law_true =>
      obtain ⟨fd, F⟩ := c.def_ 19 (d := df_law_true) rfl
      exact ⟨_, fd, F, He.glo_ok KX G (cf (.glo "_law_true") (List.mem_append_left _ (List.mem_map_of_mem (List.mem_of_getElem? (show gls[19]? = some _ from rfl))))), bdf_law_true F⟩
    case f_law_common =>
      obtain ⟨fd, F⟩ := c.def_ 20 (d := df_law_common) rfl
      exact ⟨_, fd, F, He.glo_ok KX G (cf (.glo "_law_common") (List.mem_append_left _ (List.mem_map_of_mem (List.mem_of_getElem? (show gls[20]? = some _ from rfl))))), bdf_law_common F⟩
    case f_law_low =>
      obtain ⟨fd, F⟩ := c.def_ 21 (d := df_law_low) rfl
      exact ⟨_, fd, F, He.glo_ok KX G (cf (.glo "_law_low") (List.mem_append_left _ (List.mem_map_of_mem (List.mem_of_getElem? (show gls[21]? = some _ from rfl))))), bdf_law_low F⟩
    case f_law_line =>
      obtain ⟨fd, F⟩ := c.def_ 22 (d := df_law_line) rfl
      exact ⟨_, fd, F, He.glo_ok KX G (cf (.glo "_law_line") (List.mem_append_left _ (List.mem_map_of_mem (List.mem_of_getElem? (show gls[22]? = some _ from rfl))))), bdf_law_line F⟩
    case f_law_height =>
      obtain ⟨fd, F⟩ := c.def_ 23 (d := df_law_height) rfl
      exact ⟨_, fd, F, He.glo_ok KX G (cf (.glo "_law_height") (List.mem_append_left _ (List.mem_map_of_mem (List.mem_of_getElem? (show gls[23]? = some _ from rfl))))), bdf_law_height F⟩
    case f_law_bounds =>
      obtain ⟨fd, F⟩ := c.def_ 24 (d := df_law_bounds) rfl
      exact ⟨_, fd, F, He.glo_ok KX G (cf (.glo "_law_bounds") (List.mem_append_left _ (List.mem_map_of_mem (List.mem_of_getElem? (show gls[24]? = some _ from rfl))))), bdf_law_bounds F⟩
    case f_law_fits =>
      obtain ⟨fd, F⟩ := c.def_ 25 (d := df_law_fits) rfl
      exact ⟨_, fd, F, He.glo_ok KX G (cf (.glo "_law_fits") (List.mem_append_left _ (List.mem_map_of_mem (List.mem_of_getElem? (show gls[25]? = some _ from rfl))))), bdf_law_fits F⟩
    case f_law_call =>
      obtain ⟨fd, F⟩ := c.def_ 26 (d := df_law_call) rfl
      exact ⟨_, fd, F, He.glo_ok KX G (cf (.glo "_law_call") (List.mem_append_left _ (List.mem_map_of_mem (List.mem_of_getElem? (show gls[26]? = some _ from rfl))))), bdf_law_call F⟩
    case f_law_k13 =>
      obtain ⟨fd, F⟩ := c.def_ 27 (d := df_law_k13) rfl
      exact ⟨_, fd, F, He.glo_ok KX G (cf (.glo "law") (List.mem_append_left _ (List.mem_map_of_mem (List.mem_of_getElem? (show gls[27]? = some _ from rfl))))), bdf_law_k13 F⟩
  · revert hf; cases f <;> intro hf <;> first | exact absurd hf Bool.false_ne_true | skip
    case m_add =>
      obtain ⟨fd, F⟩ := c.def_ 28 (d := dm_add) rfl
      exact ⟨_, fd, F, He.meth_ok (c.facts (f := .meth "Strip" "add") (List.mem_append_right _ (List.mem_of_getElem? (show stf[5]? = some _ from rfl)))), bdm_add F⟩
    case m_fits =>
      obtain ⟨fd, F⟩ := c.def_ 29 (d := dm_fits) rfl
      exact ⟨_, fd, F, He.meth_ok (c.facts (f := .meth "Strip" "fits") (List.mem_append_right _ (List.mem_of_getElem? (show stf[6]? = some _ from rfl)))), bdm_fits F⟩
    case m_drop =>
      obtain ⟨fd, F⟩ := c.def_ 30 (d := dm_drop) rfl
      exact ⟨_, fd, F, He.meth_ok (c.facts (f := .meth "Strip" "drop") (List.mem_append_right _ (List.mem_of_getElem? (show stf[7]? = some _ from rfl)))), bdm_drop F⟩
    case m_points =>
      obtain ⟨fd, F⟩ := c.def_ 31 (d := dm_points) rfl
      exact ⟨_, fd, F, He.meth_ok (c.facts (f := .meth "Strip" "points") (List.mem_append_right _ (List.mem_of_getElem? (show stf[8]? = some _ from rfl)))), bdm_points F⟩
    case m_slopes =>
      obtain ⟨fd, F⟩ := c.def_ 32 (d := dm_slopes) rfl
      exact ⟨_, fd, F, He.meth_ok (c.facts (f := .meth "Strip" "slopes") (List.mem_append_right _ (List.mem_of_getElem? (show stf[9]? = some _ from rfl)))), bdm_slopes F⟩
    case m_line =>
      obtain ⟨fd, F⟩ := c.def_ 33 (d := dm_line) rfl
      exact ⟨_, fd, F, He.meth_ok (c.facts (f := .meth "Strip" "line") (List.mem_append_right _ (List.mem_of_getElem? (show stf[10]? = some _ from rfl)))), bdm_line F⟩
    case m_undo =>
      obtain ⟨fd, F⟩ := c.def_ 34 (d := dm_undo) rfl
      exact ⟨_, fd, F, He.meth_ok (c.facts (f := .meth "Strip" "undo") (List.mem_append_right _ (List.mem_of_getElem? (show stf[11]? = some _ from rfl)))), bdm_undo F⟩
    case m___len__ =>
      obtain ⟨fd, F⟩ := c.def_ 35 (d := dm___len__) rfl
      exact ⟨_, fd, F, He.meth_ok (c.facts (f := .meth "Strip" "__len__") (List.mem_append_right _ (List.mem_of_getElem? (show stf[12]? = some _ from rfl)))), bdm___len__ F⟩
  · exact fun _ => cs
  · revert hf; cases f <;> intro hf <;> first | exact absurd hf Bool.false_ne_true | skip
    case f_Strip =>
      obtain ⟨fd, F⟩ := c.def_ 36 (d := dm___init__) rfl
      exact ⟨rfl, rfl, He.glo_ok KX G (c.facts (f := .glo "Strip") (List.mem_append_right _ (List.mem_of_getElem? (show stf[4]? = some _ from rfl)))), _, fd, _, He.mkr_ok (c.facts (f := .mkr "Strip") (List.mem_append_right _ (List.mem_of_getElem? (show stf[3]? = some _ from rfl)))), fun k => ok_init F scm___init__ (by decide +kernel) (by decide +kernel) (by decide +kernel) cs, bdm___init__ F⟩
  · exact fun _ => ⟨(by
      obtain ⟨fd, F⟩ := c.def_ 35 (d := dm___len__) rfl
      exact ⟨_, fd, _, ok_len (k := 0) F scm___len__ (by decide +kernel) (by decide +kernel) (by decide +kernel) (by decide +kernel) (hfr "len" (by decide +kernel)) cs, He.meth_ok (c.facts (f := .meth "Strip" "__len__") (List.mem_append_right _ (List.mem_of_getElem? (show stf[12]? = some _ from rfl)))), bdm___len__ F⟩), (by
      obtain ⟨fd, F⟩ := c.def_ 31 (d := dm_points) rfl
      exact ⟨_, fd, _, ok_pts (k := 0) F scm_points (by decide +kernel) (by decide +kernel) (by decide +kernel) (by decide +kernel) (hfr "list" (by decide +kernel)) cs, He.meth_ok (c.facts (f := .meth "Strip" "points") (List.mem_append_right _ (List.mem_of_getElem? (show stf[8]? = some _ from rfl)))), bdm_points F⟩)⟩
  · revert hf; cases f <;> intro hf <;> first | exact absurd hf Bool.false_ne_true | skip
    case f_is_int => exact scf_is_int
    case f_is_point => exact scf_is_point
    case f_are_points => exact scf_are_points
    case f_check_points => exact scf_check_points
    case f_common => exact scf_common
    case f_lowest => exact scf_lowest
    case f_less => exact scf_less
    case f_simplest_in => exact scf_simplest_in
    case f_bounds => exact scf_bounds
    case f_straight => exact scf_straight
    case f_check_straight => exact scf_check_straight
    case f_slopes => exact scf_slopes
    case f_offsets => exact scf_offsets
    case f_leanest => exact scf_leanest
    case f_leanest_line => exact scf_leanest_line
    case f_law_start => exact scf_law_start
    case f_law_draw => exact scf_law_draw
    case f_law_pick => exact scf_law_pick
    case f_law_error => exact scf_law_error
    case f_law_true => exact scf_law_true
    case f_law_common => exact scf_law_common
    case f_law_low => exact scf_law_low
    case f_law_line => exact scf_law_line
    case f_law_height => exact scf_law_height
    case f_law_bounds => exact scf_law_bounds
    case f_law_fits => exact scf_law_fits
    case f_law_call => exact scf_law_call
    case f_law_k13 => exact scf_law_k13
    case m_add => exact scm_add
    case m_fits => exact scm_fits
    case m_drop => exact scm_drop
    case m_points => exact scm_points
    case m_slopes => exact scm_slopes
    case m_line => exact scm_line
    case m_undo => exact scm_undo
    case m___len__ => exact scm___len__
  · revert hf; cases f <;> intro hf <;> first | exact absurd hf Bool.false_ne_true | skip
    case f_is_int =>
      cases h
      exact ⟨rfl, rfl, chkf_is_int⟩
    case f_is_point =>
      cases h
      exact ⟨rfl, rfl, chkf_is_point⟩
    case f_are_points =>
      cases h
      exact ⟨rfl, rfl, chkf_are_points⟩
    case f_check_points =>
      cases h
      exact ⟨rfl, rfl, chkf_check_points⟩
    case f_common =>
      cases h
      exact ⟨rfl, rfl, chkf_common⟩
    case f_lowest =>
      cases h
      exact ⟨rfl, rfl, chkf_lowest⟩
    case f_less =>
      cases h
      exact ⟨rfl, rfl, chkf_less⟩
    case f_simplest_in =>
      cases h
      exact ⟨rfl, rfl, chkf_simplest_in⟩
    case f_bounds =>
      cases h
      exact ⟨rfl, rfl, chkf_bounds⟩
    case f_straight =>
      cases h
      exact ⟨rfl, rfl, chkf_straight⟩
    case f_check_straight =>
      cases h
      exact ⟨rfl, rfl, chkf_check_straight⟩
    case f_slopes =>
      cases h
      exact ⟨rfl, rfl, chkf_slopes⟩
    case f_offsets =>
      cases h
      exact ⟨rfl, rfl, chkf_offsets⟩
    case f_leanest =>
      cases h
      exact ⟨rfl, rfl, chkf_leanest⟩
    case f_leanest_line =>
      cases h
      exact ⟨rfl, rfl, chkf_leanest_line⟩
    case f_law_start => cases h
    case f_law_draw => cases h
    case f_law_pick =>
      cases h
      exact ⟨rfl, rfl, chkf_law_pick⟩
    case f_law_error =>
      cases h
      exact ⟨rfl, rfl, chkf_law_error⟩
    case f_law_true =>
      cases h
      exact ⟨rfl, rfl, chkf_law_true⟩
    case f_law_common =>
      cases h
      exact ⟨rfl, rfl, chkf_law_common⟩
    case f_law_low =>
      cases h
      exact ⟨rfl, rfl, chkf_law_low⟩
    case f_law_line =>
      cases h
      exact ⟨rfl, rfl, chkf_law_line⟩
    case f_law_height =>
      cases h
      exact ⟨rfl, rfl, chkf_law_height⟩
    case f_law_bounds =>
      cases h
      exact ⟨rfl, rfl, chkf_law_bounds⟩
    case f_law_fits =>
      cases h
      exact ⟨rfl, rfl, chkf_law_fits⟩
    case f_law_call =>
      cases h
      exact ⟨rfl, rfl, chkf_law_call⟩
    case f_law_k13 =>
      cases h
      exact ⟨rfl, rfl, chkf_law_k13⟩
    case m_add =>
      cases h
      exact ⟨rfl, rfl, chkm_add⟩
    case m_fits =>
      cases h
      exact ⟨rfl, rfl, chkm_fits⟩
    case m_drop =>
      cases h
      exact ⟨rfl, rfl, chkm_drop⟩
    case m_points =>
      cases h
      exact ⟨rfl, rfl, chkm_points⟩
    case m_slopes =>
      cases h
      exact ⟨rfl, rfl, chkm_slopes⟩
    case m_line =>
      cases h
      exact ⟨rfl, rfl, chkm_line⟩
    case m_undo =>
      cases h
      exact ⟨rfl, rfl, chkm_undo⟩
    case m___len__ =>
      cases h
      exact ⟨rfl, rfl, chkm___len__⟩
  · revert hf; cases f <;> intro hf <;> first | exact absurd hf Bool.false_ne_true | skip
    case f_is_int => cases h
    case f_is_point => cases h
    case f_are_points => cases h
    case f_check_points => cases h
    case f_common => cases h
    case f_lowest => cases h
    case f_less => cases h
    case f_simplest_in => cases h
    case f_bounds => cases h
    case f_straight => cases h
    case f_check_straight => cases h
    case f_slopes => cases h
    case f_offsets => cases h
    case f_leanest => cases h
    case f_leanest_line => cases h
    case f_law_start => exact ok_start F scf_law_start (by decide +kernel) (by decide +kernel) (by decide +kernel) (by decide +kernel) (hfr "list" (by decide +kernel))
    case f_law_draw => exact ok_draw F scf_law_draw (by decide +kernel) (by decide +kernel) (by decide +kernel) (hfr "len" (by decide +kernel))
    case f_law_pick => cases h
    case f_law_error => cases h
    case f_law_true => cases h
    case f_law_common => cases h
    case f_law_low => cases h
    case f_law_line => cases h
    case f_law_height => cases h
    case f_law_bounds => cases h
    case f_law_fits => cases h
    case f_law_call => cases h
    case f_law_k13 => cases h
    case m_add => cases h
    case m_fits => cases h
    case m_drop => cases h
    case m_points => cases h
    case m_slopes => cases h
    case m_line => cases h
    case m_undo => cases h
    case m___len__ => cases h
  · exact He.int_ok KX G (cf (.int p.1 p.2) (List.mem_append_right _ (List.mem_append_right _ (List.mem_append_left _ (List.mem_map_of_mem (f := fun p : Str × Int => He.Fa.int p.1 p.2) hp)))))
  · exact He.str_ok KX G (cf (.str p.1 p.2) (List.mem_append_right _ (List.mem_append_right _ (List.mem_append_right _ (List.mem_append_left _ (List.mem_map_of_mem (f := fun p : Str × Str => He.Fa.str p.1 p.2) hp))))))
  · exact fun _ => Ev.excB_ok cx
  · exact He.glo_ok KX G (cf (.glo (excN e)) (List.mem_append_right _ (List.mem_append_right _ (List.mem_append_right _ (List.mem_append_right _ (List.mem_append_left _ (List.mem_map_of_mem (f := fun e : Nat => He.Fa.glo (excN e)) he)))))))
  · exact He.exc_ok (cf (.exc (excN e)) (List.mem_append_right _ (List.mem_append_right _ (List.mem_append_right _ (List.mem_append_right _ (List.mem_append_right _ (List.mem_append_left _ (List.mem_map_of_mem (f := fun e : Nat => He.Fa.exc (excN e)) he))))))))
  · exact He.exm_ok (cf (.exm (excN e) "LineError" true) (List.mem_append_right _ (List.mem_append_right _ (List.mem_append_right _ (List.mem_append_right _ (List.mem_append_right _ (List.mem_append_right _ (List.mem_map_of_mem (f := fun e : Nat => He.Fa.exm (excN e) "LineError" true) he))))))))
theorem law_ok {h : Heap} {f : Addr} (KX : K.In h) (G : h.Ns mainGlobals mg) (hfa : mg ("law" : Str) = some (.ref f)) (c : He.SaysD fa fn K) (cx : Ev.excB K = true) :
    ∃ fd : FuncData, (∀ (s : Shared) (u : Value), BindsTo s fd ⟨[u], []⟩ [("_law_script", u)]) ∧ ∀ base : Heap, K.In base → base.Ns mainGlobals mg → FnOk P w K mg base (L2N.CX P w) 62 f fd ["_law_script"] (spF K (run 60 .f_law_k13)) := by
  obtain ⟨fd, F⟩ := c.def_ 27 (d := df_law_k13) rfl
  have e := hfa.symm.trans (He.glo_ok KX G (c.facts (f := .glo "law") (List.mem_append_left _ (List.mem_append_left _ (List.mem_map_of_mem (List.mem_of_getElem? (show gls[27]? = some _ from rfl)))))))
  cases e
  have b := FunD.bindsA (ps := ["_law_script"]) F fun _ _ _ _ _ _ us hl => match us, hl with | [_], _ => rfl
  exact ⟨fd, fun s u => b s [u] rfl, fun base KB GB => ok_def (d := Bf_law_k13) (f := .f_law_k13) (k := 61) (facts KB GB c cx) rfl rfl F (ok_all (facts KB GB c cx) 59)⟩
end
end K13


end

section
open PySem PySem.W PySem.Calls PyProof.Rows
theorem PySem.Challenge.cw_pixellines_k13_whole_strips_holds : PySem.Challenge.rw_pixellines_k13_whole_strips.Holds := by
  w_on; o_law
  refine HandSHeadRun.head_any (r := OpenLaw.row PySem.Challenge.rw_pixellines_k13_whole_strips) (q := view (OpenLaw.row PySem.Challenge.rw_pixellines_k13_whole_strips).prog [44]) (H := K13.hk) (ob := K13.ob) (M := 9000) (loose := K13.nms) (d := HandSHeadRun.topDef (OpenLaw.row PySem.Challenge.rw_pixellines_k13_whole_strips).prog 44) (kwd := []) K13.ob_eq
    (by kernel_rfl) (fun s => by kernel_rfl) K13.run_eq (by kernel_rfl) (by kernel_rfl) (by kernel_rfl) (by rfl) (by first | assumption | decide +kernel) (by decide +kernel) ⟨rfl, rfl, rfl, rfl, rfl, by decide +kernel⟩ ?hw ?hc
  case hw => w_witness2
  case hc =>
    refine Ev.walk_ev (l := PySem.Challenge.rw_pixellines_k13_whole_strips) (n := 63) (k := 62) (x := "_law_script") (g := Px.run 60 .f_law_k13) rfl (by decide) (by kernel_rfl) ⟨rfl, by decide, by decide⟩ K13.law_true ?_
    intro w mg f h Y G hmg0
    obtain ⟨K, KX, c, cx⟩ := Y
    have hmg : mg ("law" : PySem.Str) = some (.ref f) := by
      have e : (HandSHeadRun.topDef (OpenLaw.row PySem.Challenge.rw_pixellines_k13_whole_strips).prog 44).name = ("law" : PySem.Str) := by kernel_rfl
      rw [← e]
      exact hmg0
    obtain ⟨fd, hb, hF⟩ := K13.law_ok (P := (PySem.Challenge.rw_pixellines_k13_whole_strips).prog) (w := w) KX G hmg c cx
    exact ⟨K, fd, KX, hb, hF⟩


end
