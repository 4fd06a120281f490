import PyProof.Rows.All
import Wide.All
import OpenK.AllK
import Wide.FinOn
import PySem.Syntax
import HandS.ForMost
import HandS.Exc
import HandS.WordsExc
import HandS.IsInst
import HandS.TupAny
import HandS.TupMul
import HandS.Wide
import HandS.Deep
import HandS.Style
import HandS.Sort
import HandS.Replace
import KE.KDictPairs
import PyProof.ListStr
import HandS.Walk
import KE.GoesEnum
import HandS.ExcOwn
import HandS.SortRule
import PyProof.Rows.SortKeyStr
import KE.LtData
import KE.SortCalls
import KE.KDictSum
import KE.KItemsList
import HandS.Strs
import HandS.SetFor
import HandS.SetBool
import KE.DataMinMax
import HandS.ExcIs
import PyProof.ListIndex
import HandS.Defaults
import HandS.Head0
import HandS.Head1
import HandS.Head2
import HandS.HeadEnd
import HandS.HeadHook1
import HandS.HeadHook2
import PyProof.ExcBaseAll.ValueError
import PySem.Challenge.RW_portnames_k03_whole_sets
set_option Elab.async false
section
set_option linter.all false
/-! D0: values as trees, a compact syntax, its evaluator. Plain Lean. -/
namespace Mn
open PySem
abbrev Tx := List Nat
inductive D where
  | non | bl (b : Bool) | int (i : Int) | str (s : Tx) | tup (xs : List D) | lst (xs : List D)
  | dct (ks : List Tx) (vs : List D)
  /-- the script -/
  | scr (ns : List Int)
  deriving Repr, Inhabited
def lim : Nat := 16777216

/-! ### results -/
inductive R (α : Type) where
  | ok (a : α) | exc (c : Nat)
  deriving Repr
abbrev M (α : Type) := Option (R α)
abbrev rt {α : Type} (a : α) : M α := some (.ok a)
def bd {α β : Type} (x : M α) (f : α → M β) : M β := match x with
  | some (.ok a) => f a
  | some (.exc c) => some (.exc c)
  | none => none
@[simp] theorem bd_ok {α β : Type} (a : α) (f : α → M β) : bd (some (.ok a)) f = f a := rfl
@[simp] theorem bd_exc {α β : Type} (c : Nat) (f : α → M β) : bd (some (.exc c)) f = some (.exc c) := rfl
@[simp] theorem bd_none {α β : Type} (f : α → M β) : bd none f = none := rfl
/-- a partial function as a step -/
def li {α : Type} (x : Option α) : M α := match x with
  | some a => some (.ok a)
  | none => none
@[simp] theorem li_some {α : Type} (a : α) : li (some a) = some (.ok a) := rfl
@[simp] theorem li_none {α : Type} : li (none : Option α) = none := rfl

theorem bd_inv {α β : Type} {x : M α} {f : α → M β} {r : R β} (h : bd x f = some r) : (∃ a, x = some (.ok a) ∧ f a = some r) ∨ ∃ c, x = some (.exc c) ∧ r = .exc c := by
  cases x with
  | none => cases h
  | some x =>
    cases x with
    | ok a => exact .inl ⟨a, rfl, h⟩
    | exc c => exact .inr ⟨c, rfl, (Option.some.inj h).symm⟩
theorem li_inv {α : Type} {x : Option α} {r : R α} (h : li x = some r) : ∃ a, x = some a ∧ r = .ok a := by
  cases x with
  | none => cases h
  | some a => exact ⟨a, rfl, (Option.some.inj h).symm⟩
/-! ### equality, order -/
mutual
def D.dep : D → Nat
  | .tup xs => depL xs + 1
  | .lst xs => depL xs + 1
  | .dct _ vs => depL vs + 1
  | .scr _ => 1
  | _ => 0
def depL : List D → Nat
  | [] => 0
  | x :: xs => max x.dep (depL xs)
end
def b2i (b : Bool) : Int := if b then 1 else 0
/-- ints against a list -/
def eqI : List Int → List D → Bool
  | [], [] => true
  | i :: is, .int j :: ds => i == j && eqI is ds
  | i :: is, .bl b :: ds => i == b2i b && eqI is ds
  | _, _ => false
/-! Python's == (no dict) -/
mutual
def eqD : D → D → Bool
  | .non, .non => true
  | .bl a, .bl b => a == b
  | .bl a, .int j => b2i a == j
  | .int i, .bl b => i == b2i b
  | .int i, .int j => i == j
  | .str x, .str y => x == y
  | .lst xs, .lst ys => eqL xs ys
  | .scr xs, .lst ys => eqI xs ys
  | .lst xs, .scr ys => eqI ys xs
  | .scr xs, .scr ys => xs == ys
  | .tup xs, .tup ys => eqL xs ys
  | _, _ => false
def eqL : List D → List D → Bool
  | [], [] => true
  | x :: xs, y :: ys => eqD x y && eqL xs ys
  | _, _ => false
end
mutual
/-- no dict within -/
def D.pl : D → Bool
  | .tup xs => plL xs
  | .lst xs => plL xs
  | .dct _ _ => false
  | _ => true
def plL : List D → Bool
  | [] => true
  | x :: xs => x.pl && plL xs
end
def okEq (x : D) : Bool := x.pl && decide (x.dep ≤ 64)
def eqO (x y : D) : Option Bool := if okEq x && okEq y then some (eqD x y) else none
def ltTx : Tx → Tx → Bool
  | _, [] => false
  | [], _ :: _ => true
  | a :: as, b :: bs => if a < b then true else if b < a then false else ltTx as bs
/-- < of two ints or two texts -/
def ltO : D → D → Option Bool
  | .int i, .int j => some (decide (i < j))
  | .str x, .str y => some (ltTx x y)
  | _, _ => none
def leO : D → D → Option Bool
  | .int i, .int j => some (decide (i ≤ j))
  | .str x, .str y => some (!ltTx y x)
  | _, _ => none

/-! ### operators -/
inductive Bop where
  | add | sub | mul | fdiv | mod | pow
  deriving Repr, DecidableEq
def repL (xs : List α) : Nat → List α
  | 0 => []
  | n + 1 => xs ++ repL xs n
def bigB : Nat := 2 ^ 1048600
def binO : Bop → D → D → Option D
  | .add, .int i, .int j => some (.int (i + j))
  | .add, .str x, .str y => if x.length + y.length ≤ lim then some (.str (x ++ y)) else none
  | .add, .lst x, .lst y => if x.length + y.length ≤ lim then some (.lst (x ++ y)) else none
  | .add, .tup x, .tup y => if x.length + y.length ≤ lim then some (.tup (x ++ y)) else none
  | .sub, .int i, .int j => some (.int (i - j))
  | .mul, .int i, .int j => if i.natAbs < 2 ^ 63 || j.natAbs < 2 ^ 63 then some (.int (i * j)) else none
  | .mul, .str x, .int j => if 0 ≤ j && j ≤ 1000 && x.length ≤ 1000 then some (.str (repL x j.toNat)) else none
  | .mul, .lst x, .int j => if 0 ≤ j && j < 2 ^ 60 && x.length * j.toNat ≤ lim then some (.lst (repL x j.toNat)) else none
  | .mul, .lst x, .bl b => some (.lst (if b then x else []))
  | .mul, .tup x, .int j => if 2 ≤ j && j ≤ 1000 && 0 < x.length && x.length ≤ 1000 then some (.tup (repL x j.toNat)) else none
  | .fdiv, .int i, .int j => if 0 < j && j < 2 ^ 63 then some (.int (i / j)) else none
  | .mod, .int i, .int j => if 0 < j then some (.int (i % j)) else none
  | .pow, .int i, .int j => if i.natAbs < 2 ^ 63 && 0 ≤ j && j ≤ 1000 then some (.int (i ^ j.toNat)) else none
  | _, _, _ => none
inductive Cop where
  | eq | ne | lt | le | gt | ge | isIn | notIn | is | isNot
  deriving Repr, DecidableEq
def flat : D → Bool
  | .non => true
  | .bl _ => true
  | .int _ => true
  | .str _ => true
  | _ => false
def inL (x : D) : List D → Bool
  | [] => false
  | y :: ys => eqD y x || inL x ys
/-- a sign in a text, a flat thing in flat ones, a text among the keys -/
def inO (x y : D) : Option Bool := match y with
  | .str t => (match x with
    | .str [c] => some (decide (c ∈ t))
    | _ => none)
  | .lst ys => if flat x && ys.all flat then some (inL x ys) else none
  | .tup ys => if flat x && ys.all flat then some (inL x ys) else none
  | .dct ks _ => (match x with
    | .str z => some (decide (z ∈ ks))
    | _ => none)
  | _ => none
/-- is: of None and the bools -/
def isO (x y : D) : Option Bool := match y with
  | .non => (match x with
    | .non => some true
    | _ => some false)
  | .bl b => (match x with
    | .bl a => some (decide (a = b))
    | _ => none)
  | _ => none
def cmpO : Cop → D → D → Option Bool
  | .eq, x, y => eqO x y
  | .ne, x, y => (eqO x y).map (!·)
  | .lt, x, y => ltO x y
  | .le, x, y => leO x y
  | .gt, x, y => ltO y x
  | .ge, x, y => leO y x
  | .isIn, x, y => inO x y
  | .notIn, x, y => (inO x y).map (!·)
  | .is, x, y => isO x y
  | .isNot, x, y => (isO x y).map (!·)
/-- an index into a sequence of n -/
def ixN (n : Nat) (i : Int) : Option Nat := if 0 ≤ i then (if i < n then some i.toNat else none) else if -(n : Int) ≤ i then some (i + n).toNat else none
def assocD (k : Tx) : List Tx → List D → Option D
  | a :: as, v :: vs => if a == k then some v else assocD k as vs
  | _, _ => none
def idxO : D → D → Option D
  | .str x, .int i => match ixN x.length i with
    | some k => (x[k]?).map fun c => .str [c]
    | none => none
  | .lst x, .int i => match ixN x.length i with
    | some k => x[k]?
    | none => none
  | .scr x, .int i => match ixN x.length i with
    | some k => (x[k]?).map .int
    | none => none
  | .tup x, .int i => match ixN x.length i with
    | some k => x[k]?
    | none => none
  | .dct ks vs, .str k => assocD k ks vs
  | _, _ => none
/-- a slice's end -/
def sIx (n d : Nat) : Option Int → Nat
  | none => d
  | some v => if v < 0 then (v + (n : Int)).toNat else min v.toNat n
def cut {α : Type} (xs : List α) (lo hi : Option Int) : List α := (xs.drop (sIx xs.length 0 lo)).take (sIx xs.length xs.length hi - sIx xs.length 0 lo)
def slcO (d : D) (lo hi : Option Int) : Option D := match d with
  | .str x => some (.str (cut x lo hi))
  | .lst x => some (.lst (cut x lo hi))
  | .tup x => some (.tup (cut x lo hi))
  | _ => none
/-- items that a for walks -/
def items : D → Option (List D)
  | .str x => some (x.map fun c => .str [c])
  | .lst x => some x
  | .tup x => some x
  | _ => none

/-! ### built-ins -/
inductive Ty where
  | int | bool | str | tuple | list | own (c : Nat)
  deriving Repr, DecidableEq
def isiO : Ty → D → Option Bool
  | .int, .int _ => some true
  | .int, .bl _ => some true
  | .bool, .bl _ => some true
  | .str, .str _ => some true
  | .tuple, .tup _ => some true
  | .list, .lst _ => some true
  | .own _, _ => none
  | _, .dct _ _ => none
  | _, .scr _ => none
  | _, _ => some false
def allB : List D → Option Bool
  | [] => some true
  | .bl b :: xs => (allB xs).map (b && ·)
  | _ => none
def anyB : List D → Option Bool
  | [] => some false
  | .bl b :: xs => (anyB xs).map (b || ·)
  | _ => none
def putD {α : Type} (k : Tx) (v : α) : List Tx → List α → List Tx × List α
  | a :: as, w :: ws => if a = k then (a :: as, v :: ws) else ((a :: (putD k v as ws).1), (w :: (putD k v as ws).2))
  | _, _ => ([k], [v])
/-- dict(pairs) -/
def dictO : List D → List Tx → List D → Option D
  | [], ks, vs => some (.dct ks vs)
  | .tup [.str k, v] :: r, ks, vs => dictO r (putD k v ks vs).1 (putD k v ks vs).2
  | _, _, _ => none
/-! order of what is sorted: ints, texts, tuples of these -/
mutual
def ltS : D → D → Bool
  | .int i, .int j => decide (i < j)
  | .str x, .str y => ltTx x y
  | .tup xs, .tup ys => ltSL xs ys
  | _, _ => false
def ltSL : List D → List D → Bool
  | _, [] => false
  | [], _ :: _ => true
  | x :: xs, y :: ys => if eqD x y then ltSL xs ys else ltS x y
end
def insF (x : D) : List D → List D
  | [] => [x]
  | y :: ys => if ltS y x then y :: insF x ys else x :: y :: ys
/-- a stable sort -/
def sortS : List D → List D
  | [] => []
  | x :: xs => insF x (sortS xs)
def isStr : D → Bool
  | .str _ => true
  | _ => false
def isInt : D → Bool
  | .int _ => true
  | _ => false
/-- kinds of what may stand in one sorted list: texts, ints, tuples of one kind, pairs -/
inductive SK where
  | s | i | all (k : SK) | two (a b : SK)
def okK : SK → D → Bool
  | .s, .str _ => true
  | .i, .int _ => true
  | .all k, .tup xs => xs.all (okK k)
  | .two a b, .tup [x, y] => okK a x && okK b y
  | _, _ => false
def tupNe : D → Bool
  | .tup [] => false
  | _ => true
def kindOk (k : SK) (xs : List D) : Bool := xs.all (okK k) && (xs.all tupNe || match xs with
  | x :: _ => !tupNe x
  | [] => true)
def sortO (xs : List D) : Option (List D) := if kindOk .s xs || kindOk (.all .s) xs || kindOk (.two .i (.all .s)) xs || kindOk (.two .s (.all .s)) xs then some (sortS xs) else none
def minL : D → List D → D
  | m, [] => m
  | m, x :: xs => minL (if ltS x m then x else m) xs
def maxL : D → List D → D
  | m, [] => m
  | m, x :: xs => maxL (if ltS m x then x else m) xs
def okMin (xs : List D) : Bool := xs.all isInt || xs.all isStr || xs.all (okK (.two .i (.all .s)))
def strL : List D → Option (List Tx)
  | [] => some []
  | .str x :: r => (strL r).map (x :: ·)
  | _ => none
def dedup : List Tx → List Tx
  | [] => []
  | x :: xs => x :: (dedup xs).filter (· != x)
def bools : List D → Option (List Bool)
  | [] => some []
  | .bl x :: r => (bools r).map (x :: ·)
  | _ => none
inductive Blt where
  | len | all | any | list | tuple | dict | sorted | min1 | max1 | min2 | max2
  | isi (t : Ty)
  deriving Repr, DecidableEq
def zipKV : List Tx → List D → List D
  | k :: ks, v :: vs => .tup [.str k, v] :: zipKV ks vs
  | _, _ => []
def bltO : Blt → List D → Option D
  | .len, [.str x] => some (.int x.length)
  | .len, [.lst x] => some (.int x.length)
  | .len, [.scr x] => some (.int x.length)
  | .len, [.tup x] => some (.int x.length)
  | .len, [.dct x _] => some (.int x.length)
  | .all, [.lst x] => (allB x).map .bl
  | .any, [.lst x] => (anyB x).map .bl
  | .list, [.lst x] => some (.lst x)
  | .list, [.tup x] => some (.lst x)
  | .list, [.str x] => some (.lst (x.map fun c => .str [c]))
  | .tuple, [.lst x] => some (.tup x)
  | .tuple, [.tup x] => some (.tup x)
  | .dict, [.lst x] => dictO x [] []
  | .dict, [.tup x] => dictO x [] []
  | .sorted, [.lst x] => (sortO x).map .lst
  | .sorted, [.tup x] => (sortO x).map .lst
  | .sorted, [.dct ks _] => some (.lst (sortS (ks.map .str)))
  | .min1, [.lst (x :: xs)] => if okMin (x :: xs) then some (minL x xs) else none
  | .max1, [.lst (x :: xs)] => if okMin (x :: xs) then some (maxL x xs) else none
  | .min2, [.int i, .int j] => some (.int (if j < i then j else i))
  | .max2, [.int i, .int j] => some (.int (if j > i then j else i))
  | .isi t, [d] => (isiO t d).map .bl
  | _, _ => none
/-- calls of a call: sorted(d.items()), .. -/
inductive Vw where
  | sortItems | sortVals | listVals | lenSet | sortSet
  deriving Repr, DecidableEq
def vwO : Vw → D → Option D
  | .sortItems, .dct ks vs => (sortO (zipKV ks vs)).map .lst
  | .sortVals, .dct _ vs => (sortO vs).map .lst
  | .listVals, .dct _ vs => some (.lst vs)
  | .lenSet, .lst x => match strL x with
    | some ts => if ts.length < 4000 then some (.int (dedup ts).length) else none
    | none => match bools x with
      | some bs => if bs.length < 4000 then some (.int (b2i (bs.contains true) + b2i (bs.contains false))) else none
      | none => none
  | .sortSet, .lst x => match strL x with
    | some ts => if ts.length < 4000 then some (.lst (sortS ((dedup ts).map .str))) else none
    | none => none
  | _, _ => none
inductive Mth where
  | index | count | join | lower | upper | split | get
  deriving Repr, DecidableEq
def findC (c : Nat) : Tx → Nat → Option Nat
  | [], _ => none
  | x :: xs, n => if x = c then some n else findC c xs (n + 1)
def findL (x : D) : List D → Nat → Option Nat
  | [], _ => none
  | y :: ys, n => if eqD y x then some n else findL x ys (n + 1)
def countL (x : D) : List D → Nat
  | [] => 0
  | y :: ys => (if eqD y x then 1 else 0) + countL x ys
def joinTx (s : Tx) : List Tx → Tx
  | [] => []
  | [x] => x
  | x :: y :: r => x ++ s ++ joinTx s (y :: r)
def joinSz (s : Tx) (ts : List Tx) : Nat := (ts.map (·.length)).sum + ts.length * s.length
def lowC (c : Nat) : Nat := if 65 ≤ c ∧ c ≤ 90 then c + 32 else c
def uppC (c : Nat) : Nat := if 97 ≤ c ∧ c ≤ 122 then c - 32 else c
/-- split at one sign -/
def splitTx (c : Nat) : Tx → Tx → List Tx
  | acc, [] => [acc]
  | acc, x :: xs => if x == c then acc :: splitTx c [] xs else splitTx c (acc ++ [x]) xs
def mthO : Mth → D → List D → Option D
  | .index, .str x, [.str [c]] => (findC c x 0).map fun (n : Nat) => D.int (n : Int)
  | .index, .lst x, [y] => if flat y && x.all flat then (findL y x 0).map fun (n : Nat) => D.int (n : Int) else none
  | .count, .lst x, [y] => if flat y && x.all flat then some (.int (countL y x)) else none
  | .join, .str x, [.lst y] => match strL y with
    | some ts => if joinSz x ts ≤ lim then some (.str (joinTx x ts)) else none
    | none => none
  | .join, .str x, [.tup y] => match strL y with
    | some ts => if joinSz x ts ≤ lim then some (.str (joinTx x ts)) else none
    | none => none
  | .lower, .str x, [] => if x.all (· < 128) && x.length ≤ 5000000 then some (.str (x.map lowC)) else none
  | .upper, .str x, [] => if x.all (· < 128) && x.length ≤ 5000000 then some (.str (x.map uppC)) else none
  | .split, .str x, [.str [c]] => if x.length ≤ 5000000 then some (.lst ((splitTx c [] x).map .str)) else none
  | .get, .dct ks vs, [.str k, d] => some ((assocD k ks vs).getD d)
  | _, _, _ => none

/-- the kinds of things that have the method -/
def rcv : Mth → D → Bool
  | .index, .str _ => true
  | .index, .lst _ => true
  | .count, .lst _ => true
  | .join, .str _ => true
  | .lower, .str _ => true
  | .upper, .str _ => true
  | .split, .str _ => true
  | .get, .dct _ _ => true
  | _, _ => false

/-! ### syntax -/
inductive Tg where
  | one (i : Nat) | many (is : List Nat)
  deriving Repr, DecidableEq
inductive E where
  | var (i : Nat)
  /-- a name in a place that keeps nothing of it -/
  | bor (i : Nat)
  | cst (d : D)
  | bin (op : Bop) (a b : E)
  | neg (a : E) | not_ (a : E) | and_ (a b : E) | or_ (a b : E)
  | cmp (op : Cop) (a b : E)
  | chn (p q : Cop) (a b c : E)
  | ite (c a b : E)
  | call (f : Nat) (as : E)
  | blt (b : Blt) (as : E)
  | mth (m : Mth) (o as : E)
  | vw (k : Vw) (a : E)
  | idx (a i : E)
  | isi (t : Ty) (a : E)
  | get (o a b : E)
  | slc (a lo hi : E)
  | tup (as : E) | lst (as : E) | dct
  | comp (own : List Nat) (tg : Tg) (it c e : E)
  | comp2 (own own2 : List Nat) (tg : Tg) (it c : E) (tg2 : Tg) (it2 c2 e : E)
  /-- over the keys of a dict that a name owns -/
  | compK (own : List Nat) (tg : Tg) (i : Nat) (c e : E)
  /-- argument lists -/
  | nil | cons (a as : E)
  /-- what is walked -/
  | ival (e : E) | irng (as : E) | izip (a b : E) | ienum (a : E)
  deriving Repr
/-! lists of tests of a caught error -/
/-- classes by their numbers; the name's list; a sum -/
inductive Hb where
  | lit (cl : List Nat) | var | add (a b : Hb)
  deriving Repr
def hbV (cur : Option (List Nat)) : Hb → Option (List Nat)
  | .lit cl => some cl
  | .var => cur
  | .add a b => match hbV cur a, hbV cur b with
    | some x, some y => some (x ++ y)
    | _, _ => none
def hsV : Option (List Nat) → List Hb → Option (Option (List Nat))
  | cur, [] => some cur
  | cur, h :: hs => match hbV cur h with
    | some l => if l.length ≤ 1000 then hsV (some l) hs else none
    | none => none
def findN (c : Nat) : List Nat → Nat → Option Nat
  | [], _ => none
  | x :: xs, n => if x = c then some n else findN c xs (n + 1)
/-- the place of the class among those that are tested -/
def hdV (hs : List Hb) (r : Hb) (c : Nat) : Option Nat := match hsV none hs with
  | none => none
  | some cur => match hbV cur r with
    | none => none
    | some l => if l.length ≤ 1000 then findN c l 0 else none
inductive S where
  | skip | seq (s t : S)
  | asg (i : Nat) (e : E)
  | unp (is : List Nat) (e : E)
  | par (i j : Nat) (a b : E)
  | app (i : Nat) (e : E) | ext (i : Nat) (e : E) | pop (i : Nat)
  | put (i : Nat) (k v : E)
  | exp (e : E) | ret (e : E) | retN
  | ife (c : E) (t f : S)
  | whl (c : E) (b : S)
  | for_ (tg : Tg) (it : E) (b : S)
  | rais (c : Nat)
  | brk | cnt
  /-- try: b / except PortError as i: the lists hs go to k, then return r.index(True) -/
  | tryX (b : S) (i k : Nat) (hs : List Hb) (r : Hb)
  deriving Repr

/-! ### the evaluator -/
inductive Cl where
  | no | sh (d : D) | ow (d : D)
  deriving Repr
abbrev Env := List Cl
def wipeE (ρ : Env) : List Nat → Env
  | [] => ρ
  | v :: vs => (wipeE ρ vs).set v .no
def setAll : List Nat → List D → Env → Env
  | i :: is, d :: ds, ρ => setAll is ds (ρ.set i (.sh d))
  | _, _, ρ => ρ
def bindTg : Tg → D → Env → Option Env
  | .one i, d, ρ => some (ρ.set i (.sh d))
  | .many is, .tup xs, ρ => if xs.length = is.length then some (setAll is xs ρ) else none
  | _, _, _ => none
/-- no exception -/
def nx {α : Type} (x : M α) : Option α := match x with
  | some (.ok a) => some a
  | _ => none
@[simp] theorem nx_ok {α : Type} (a : α) : nx (some (.ok a)) = some a := rfl
@[simp] theorem nx_exc {α : Type} (c : Nat) : nx (some (.exc c) : M α) = none := rfl
@[simp] theorem nx_none {α : Type} : nx (none : M α) = none := rfl
/-- a comprehension's turns -/
def compF (f : D → Option (List D)) : List D → Option (List D)
  | [] => some []
  | x :: xs => match f x with
    | none => none
    | some ys => match compF f xs with
      | none => none
      | some zs => some (ys ++ zs)
/-- no dict inside -/
def noD : D → Bool
  | .dct _ _ => false
  | .tup xs => noDs xs
  | .lst xs => noDs xs
  | _ => true
where noDs : List D → Bool
  | [] => true
  | x :: xs => noD x && noDs xs
def asB : D → Option Bool
  | .bl b => some b
  | _ => none
def rangeL (lo : Int) (n : Nat) (step : Int) : List D := (List.range n).map fun (i : Nat) => D.int (lo + (i : Int) * step)
def rangeO : List D → Option (List D)
  | [.int j] => if j.natAbs ≤ lim then some (rangeL 0 j.toNat 1) else none
  | [.int i, .int j] => if (j - i).toNat ≤ lim ∧ i.natAbs ≤ lim ∧ j.natAbs ≤ lim then some (rangeL i (j - i).toNat 1) else none
  | [.int i, .int j, .int c] => if c = -1 ∧ (i - j).toNat ≤ lim ∧ i.natAbs ≤ lim ∧ j.natAbs ≤ lim then some (rangeL i (i - j).toNat (-1)) else none
  | _ => none
def zipL : List D → List D → List D
  | x :: xs, y :: ys => .tup [x, y] :: zipL xs ys
  | _, _ => []
def enumL (n : Nat) : List D → List D
  | [] => []
  | x :: xs => .tup [.int n, x] :: enumL (n + 1) xs
/-- a slice's part: nil or an int -/
def partO : List D → Option (Option Int)
  | [] => some none
  | [.int i] => some (some i)
  | _ => none
section
variable (F : Nat → List D → M D)
mutual
def evE : E → Env → M D
  | .var i, ρ => match ρ[i]? with
    | some (.sh d) => rt d
    | _ => none
  | .bor i, ρ => match ρ[i]? with
    | some (.sh d) => rt d
    | some (.ow d) => rt d
    | _ => none
  | .cst d, _ => rt d
  | .bin op a b, ρ => bd (evE a ρ) fun x => bd (evE b ρ) fun y => li (binO op x y)
  | .neg a, ρ => bd (evE a ρ) fun x => match x with
    | .int i => rt (.int (-i))
    | _ => none
  | .not_ a, ρ => bd (evE a ρ) fun x => match x with
    | .bl b => rt (.bl (!b))
    | _ => none
  | .and_ a b, ρ => bd (evE a ρ) fun x => match x with
    | .bl true => evE b ρ
    | .bl false => rt (.bl false)
    | _ => none
  | .or_ a b, ρ => bd (evE a ρ) fun x => match x with
    | .bl false => evE b ρ
    | .bl true => rt (.bl true)
    | _ => none
  | .cmp op a b, ρ => bd (evE a ρ) fun x => bd (evE b ρ) fun y => li ((cmpO op x y).map .bl)
  | .chn p q a b c, ρ => bd (evE a ρ) fun x => bd (evE b ρ) fun y => match cmpO p x y with
    | some true => bd (evE c ρ) fun z => li ((cmpO q y z).map .bl)
    | some false => rt (.bl false)
    | none => none
  | .ite c a b, ρ => bd (evE c ρ) fun x => match x with
    | .bl true => evE a ρ
    | .bl false => evE b ρ
    | _ => none
  | .call f as, ρ => bd (evA as ρ) fun ds => F f ds
  | .blt b as, ρ => bd (evA as ρ) fun ds => li (bltO b ds)
  | .mth m o as, ρ => bd (evE o ρ) fun x => if rcv m x then bd (evA as ρ) fun ds => li (mthO m x ds) else none
  | .vw k a, ρ => bd (evE a ρ) fun x => li (vwO k x)
  | .idx a i, ρ => bd (evE a ρ) fun x => bd (evE i ρ) fun y => li (idxO x y)
  | .slc a lo hi, ρ => bd (evE a ρ) fun x => bd (bd (evA lo ρ) fun l => li (partO l)) fun l => bd (bd (evA hi ρ) fun h => li (partO h)) fun h => li (slcO x l h)
  | .isi t a, ρ => bd (evE a ρ) fun x => li (bltO (.isi t) [x])
  | .get o a b, ρ => bd (evE o ρ) fun x => if rcv .get x then bd (bd (evE a ρ) fun d => bd (bd (evE b ρ) fun e => rt [e]) fun ds => rt (d :: ds)) fun ds => li (mthO .get x ds) else none
  | .tup as, ρ => bd (evA as ρ) fun ds => if ds.length ≤ lim then rt (.tup ds) else none
  | .lst as, ρ => bd (evA as ρ) fun ds => if ds.length ≤ lim then rt (.lst ds) else none
  | .dct, _ => rt (.dct [] [])
  | .comp own tg it c e, ρ => bd (evI it ρ) fun xs => li ((compF (fun x => match bindTg tg x (wipeE ρ own) with
      | none => none
      | some ρ' => match nx (evE c ρ') with
        | some (.bl true) => (nx (evE e ρ')).map fun y => [y]
        | some (.bl false) => some []
        | _ => none) xs).map .lst)
  | .comp2 own own2 tg it c tg2 it2 c2 e, ρ => bd (evI it ρ) fun xs => match compF (fun x => match bindTg tg x (wipeE ρ own) with
      | none => none
      | some ρ' => match nx (evE c ρ') with
        | some (.bl true) => (match nx (evI it2 ρ') with
          | none => none
          | some ys => compF (fun y => match bindTg tg2 y (wipeE ρ' own2) with
            | none => none
            | some ρ2 => match nx (evE c2 ρ2) with
              | some (.bl true) => (nx (evE e ρ2)).map fun z => [z]
              | some (.bl false) => some []
              | _ => none) ys)
        | some (.bl false) => some []
        | _ => none) xs with
      | none => none
      | some zs => if zs.length ≤ lim then rt (.lst zs) else none
  | .compK own tg i c e, ρ => match ρ[i]? with
    | some (.ow (.dct ks ds)) => (match compF (fun x => match bindTg tg x (wipeE (ρ.set i (.sh (.dct ks ds))) own) with
      | none => none
      | some ρ' => match nx (evE c ρ') with
        | some (.bl true) => (nx (evE e ρ')).map fun y => [y]
        | some (.bl false) => some []
        | _ => none) (ks.map .str) with
      | none => none
      | some zs => if noD (.lst zs) then rt (.lst zs) else none)
    | _ => none
  | .nil, _ => none
  | .cons _ _, _ => none
  | .ival _, _ => none
  | .irng _, _ => none
  | .izip _ _, _ => none
  | .ienum _, _ => none
def evA : E → Env → M (List D)
  | .nil, _ => rt []
  | .cons a as, ρ => bd (evE a ρ) fun d => bd (evA as ρ) fun ds => rt (d :: ds)
  | _, _ => none
def evI : E → Env → M (List D)
  | .ival e, ρ => bd (evE e ρ) fun d => li (items d)
  | .irng as, ρ => bd (evA as ρ) fun ds => li (rangeO ds)
  | .izip a b, ρ => bd (evE a ρ) fun x => bd (evE b ρ) fun y => match items x, items y with
    | some xs, some ys => rt (zipL xs ys)
    | _, _ => none
  | .ienum a, ρ => bd (evE a ρ) fun x => li ((items x).map (enumL 0))
  | _, _ => none
end
/-! the names that a piece keeps -/
def vars : E → List Nat
  | .var i => [i]
  | .bin _ a b => vars a ++ vars b
  | .neg a => vars a
  | .not_ a => vars a
  | .and_ a b => vars a ++ vars b
  | .or_ a b => vars a ++ vars b
  | .cmp _ a b => vars a ++ vars b
  | .chn _ _ a b c => vars a ++ vars b ++ vars c
  | .ite c a b => vars c ++ vars a ++ vars b
  | .call _ as => vars as
  | .blt _ as => vars as
  | .mth _ o as => vars o ++ vars as
  | .vw _ a => vars a
  | .idx a i => vars a ++ vars i
  | .slc a l h => vars a ++ vars l ++ vars h
  | .isi _ a => vars a
  | .get o a b => vars o ++ vars a ++ vars b
  | .tup as => vars as
  | .lst as => vars as
  | .comp _ _ it c e => vars it ++ vars c ++ vars e
  | .comp2 _ _ _ it c _ it2 c2 e => vars it ++ vars c ++ vars it2 ++ vars c2 ++ vars e
  | .compK _ _ _ c e => vars c ++ vars e
  | .cons a as => vars a ++ vars as
  | .ival e => vars e
  | .irng as => vars as
  | .izip a b => vars a ++ vars b
  | .ienum a => vars a
  | _ => []
def shut : Cl → Cl
  | .ow d => .sh d
  | c => c
def frz : List Nat → Env → Env
  | [], ρ => ρ
  | i :: is, ρ => match ρ[i]? with
    | some (.ow d) => frz is (ρ.set i (.sh d))
    | _ => frz is ρ
def frzAll (ρ : Env) : Env := ρ.map shut
/-- an expression whose value is a new object -/
def fresh : E → Bool
  | .lst _ => true
  | .dct => true
  | .comp .. => true
  | .comp2 .. => true
  | .compK .. => true
  | .slc .. => true
  | .bin .add _ _ => true
  | .bin .mul _ _ => true
  | .blt .list _ => true
  | .blt .sorted _ => true
  | .vw .sortItems _ => true
  | .vw .sortVals _ => true
  | .vw .listVals _ => true
  | .vw .sortSet _ => true
  | .blt .dict _ => true
  | _ => false
def mkCl (b : Bool) (d : D) : Cl := match b, d with
  | true, .lst _ => .ow d
  | true, .dct _ _ => .ow d
  | _, _ => .sh d
inductive Out where
  | nx (ρ : Env) | brk (ρ : Env) | cnt (ρ : Env) | ret (d : D) | exc (c : Nat) (ρ : Env)
/-- go on with the value -/
def go {α : Type} (ρ : Env) (x : M α) (k : α → Option Out) : Option Out := match x with
  | some (.ok a) => k a
  | some (.exc c) => some (.exc c ρ)
  | none => none
@[simp] theorem go_ok {α : Type} (ρ : Env) (a : α) (k : α → Option Out) : go ρ (some (.ok a)) k = k a := rfl
@[simp] theorem go_exc {α : Type} (ρ : Env) (c : Nat) (k : α → Option Out) : go ρ (some (.exc c)) k = some (.exc c ρ) := rfl
@[simp] theorem go_none {α : Type} (ρ : Env) (k : α → Option Out) : go ρ none k = none := rfl
def forF (body : D → Env → Option Out) : List D → Env → Option Out
  | [], ρ => some (.nx ρ)
  | x :: xs, ρ => match body x ρ with
    | some (.nx ρ') => forF body xs ρ'
    | some (.cnt ρ') => forF body xs ρ'
    | some (.brk ρ') => some (.nx ρ')
    | o => o
def whlF (c : Env → Option (R Bool × Env)) (body : Env → Option Out) : Nat → Env → Option Out
  | 0, _ => none
  | n + 1, ρ => match c ρ with
    | some (.ok true, ρ1) => (match body ρ1 with
      | some (.nx ρ') => whlF c body n ρ'
      | some (.cnt ρ') => whlF c body n ρ'
      | some (.brk ρ') => some (.nx ρ')
      | o => o)
    | some (.ok false, ρ1) => some (.nx ρ1)
    | some (.exc x, ρ1) => some (.exc x ρ1)
    | none => none
def loops : Nat := 1000000000000
def cWhl (vs : List Nat) (fe : Env → M D) : Env → Option (R Bool × Env) := fun ρ => match fe (frz vs ρ) with
  | some (.ok (.bl x)) => some (.ok x, frz vs ρ)
  | some (.exc x) => some (.exc x, frz vs ρ)
  | _ => none
def ownAt (ρ : Env) (i : Nat) : Option D := match ρ[i]? with
  | some (.ow d) => some d
  | _ => none
def tryK (hs : List Hb) (r : Hb) : Option Out → Option Out
  | some (.exc c _) => (hdV hs r c).map fun (j : Nat) => Out.ret (.int (j : Int))
  | o => o
def evS : S → Env → Option Out
  | .skip, ρ => some (.nx ρ)
  | .seq s t, ρ => match evS s ρ with
    | some (.nx ρ') => evS t ρ'
    | o => o
  | .asg i e, ρ => let ρ1 := frz (vars e) ρ; go ρ1 (evE F e ρ1) fun d => some (.nx (ρ1.set i (mkCl (fresh e) d)))
  | .unp is e, ρ => let ρ1 := frz (vars e) ρ; go ρ1 (evE F e ρ1) fun d => match d with
    | .tup xs => if xs.length = is.length then some (.nx (setAll is xs ρ1)) else none
    | _ => none
  | .par i j a b, ρ => let ρ1 := frz (vars a ++ vars b) ρ; go ρ1 (evE F a ρ1) fun x => go ρ1 (evE F b ρ1) fun y => some (.nx ((ρ1.set i (mkCl (fresh a) x)).set j (mkCl (fresh b) y)))
  | .app i e, ρ => let ρ1 := frz (vars e) ρ; match ownAt ρ1 i with
    | some (.lst xs) => go ρ1 (evE F e ρ1) fun d => if xs.length < lim then some (.nx (ρ1.set i (.ow (.lst (xs ++ [d]))))) else none
    | _ => none
  | .ext i e, ρ => let ρ1 := frz (vars e) ρ; match ownAt ρ1 i with
    | some (.lst xs) => go ρ1 (evE F e ρ1) fun d => match d with
      | .lst ys => if xs.length + ys.length ≤ lim then some (.nx (ρ1.set i (.ow (.lst (xs ++ ys))))) else none
      | _ => none
    | _ => none
  | .pop i, ρ => match ownAt ρ i with
    | some (.lst xs) => if xs = [] then none else some (.nx (ρ.set i (.ow (.lst xs.dropLast))))
    | _ => none
  | .put i k v, ρ => let ρ1 := frz (vars v ++ vars k) ρ; go ρ1 (evE F v ρ1) fun d => match ownAt ρ1 i with
    | some (.lst xs) => go ρ1 (evE F k ρ1) fun x => (match x with
      | .int j => (match ixN xs.length j with
        | some n => if 0 ≤ j then some (.nx (ρ1.set i (.ow (.lst (xs.set n d))))) else none
        | none => none)
      | _ => none)
    | some (.dct ks vs) => go ρ1 (evE F k ρ1) fun x => (match x with
      | .str y => if ks.length < lim then some (.nx (ρ1.set i (.ow (.dct (putD y d ks vs).1 (putD y d ks vs).2)))) else none
      | _ => none)
    | _ => none
  | .exp e, ρ => let ρ1 := frz (vars e) ρ; go ρ1 (evE F e ρ1) fun _ => some (.nx ρ1)
  | .ret e, ρ => let ρ1 := frzAll ρ; go ρ1 (evE F e ρ1) fun d => some (.ret d)
  | .retN, _ => some (.ret .non)
  | .ife c t f, ρ => let ρ1 := frz (vars c) ρ; go ρ1 (evE F c ρ1) fun d => match d with
    | .bl true => evS t ρ1
    | .bl false => evS f ρ1
    | _ => none
  | .whl c b, ρ => whlF (cWhl (vars c) (evE F c)) (evS b) loops ρ
  | .for_ tg it b, ρ => let ρ1 := frz (vars it) ρ; go ρ1 (evI F it ρ1) fun xs => forF (fun x ρ => match bindTg tg x ρ with
      | some ρ' => evS b ρ'
      | none => none) xs ρ1
  | .rais c, ρ => some (.exc c ρ)
  | .brk, ρ => some (.brk ρ)
  | .cnt, ρ => some (.cnt ρ)
  | .tryX b _ _ hs r, ρ => tryK hs r (evS b ρ)
end
structure FnD where
  np : Nat
  nn : Nat
  body : S
  deriving Repr
def start (nn : Nat) (ds : List D) : Env := ds.map .sh ++ List.replicate (nn - ds.length) .no
def endOf : Option Out → M D
  | some (.ret d) => rt d
  | some (.nx _) => rt .non
  | some (.exc c _) => some (.exc c)
  | _ => none
def callN (T : List FnD) : Nat → Nat → List D → M D
  | 0, _, _ => none
  | n + 1, f, ds => match T[f]? with
    | none => none
    | some fd => if ds.length = fd.np then endOf (evS (callN T n) fd.body (start fd.nn ds)) else none
end Mn
end
section
set_option Elab.async false
set_option linter.all false
set_option maxRecDepth 100000
set_option maxHeartbeats 4000000
set_option autoImplicit false
/-! D1: trees in the abstract heap; names' values; readings. -/
namespace Mn
open PySem PySem.Spec L2
abbrev Frag := PySem.W.Frag
def tx (s : Tx) : Str := ⟨s.toArray⟩
def KLst (K : Frag) (a : Addr) (xs : List V) : Prop :=
  ∃ (o : Obj) (its : Array Value) (n : Nat), K.lookup a = some o ∧ o.cls = .type "list" ∧ o.dict = none ∧ o.data = .seq its n ∧ its.size ≤ sizeLine ∧ Vals xs its.toList
theorem lim_eq : lim = sizeLine := rfl
def okTx (s : Tx) : Prop := s.length ≤ lim ∧ ∀ c ∈ s, c < 1114112
/-- a tuple, known to the object -/
def tupO (its : List Value) : Obj := { cls := .type "tuple", data := .seq its.toArray }
def FT (H : Hp) (a : Addr) (vs : List V) : Prop := ∃ its, H a = some (.frz (tupO its) (.tup vs))
theorem FT.sq {K : Frag} {H : Hp} {a : Addr} {vs : List V} (h : FT H a vs) : SqT K H a vs := let ⟨_, e⟩ := h; .inl (.inr ⟨_, e⟩)
mutual
/-- the value v is the tree d; B: addresses that it does not meet -/
inductive Dv (K : Frag) (H : Hp) (B : Addr → Prop) : V → D → Prop
  | non : Dv K H B .non .non
  | bl (b : Bool) : Dv K H B (.bl b) (.bl b)
  | int (i : Int) : Dv K H B (.int i) (.int i)
  | str {s : Tx} : okTx s → Dv K H B (.str (tx s)) (.str s)
  | tup {a : Addr} {vs : List V} {ds : List D} : ¬ B a → FT H a vs → ds.length ≤ lim → Dvs K H B vs ds → Dv K H B (.ref a) (.tup ds)
  | lst {a : Addr} {vs : List V} {ds : List D} : ¬ B a → H a = some (.lst vs) → ds.length ≤ lim → Dvs K H B vs ds → Dv K H B (.ref a) (.lst ds)
  | dct {a : Addr} {ks : List Tx} {vs : List V} {ds : List D} : ¬ B a → Rd H a (.dK ((ks.map fun k => (Sum.inr (tx k) : Key)).zip vs)) → ks.length ≤ lim → ks.length = vs.length → ks.Nodup → (∀ k ∈ ks, okTx k) → Dvs K H B vs ds → Dv K H B (.ref a) (.dct ks ds)
  | scr {a : Addr} {ns : List Int} : ((¬ B a ∧ Rd H a (.lst (ns.map V.int))) ∨ KLst K a (ns.map V.int)) → ns.length ≤ 64 → Dv K H B (.ref a) (.scr ns)
inductive Dvs (K : Frag) (H : Hp) (B : Addr → Prop) : List V → List D → Prop
  | nil : Dvs K H B [] []
  | cons {v : V} {vs : List V} {d : D} {ds : List D} : Dv K H B v d → Dvs K H B vs ds → Dvs K H B (v :: vs) (d :: ds)
end
section
variable {K : Frag} {H H' : Hp} {B B' : Addr → Prop}
theorem Rd.keep {a : Addr} {u : HO} (k : ∀ b o, ¬ B b → H b = some o → H' b = some o) (n : ¬ B a) (h : Rd H a u) : Rd H' a u := by
  rcases h with h | ⟨o, h⟩
  · exact .inl (k _ _ n h)
  · exact .inr ⟨o, k _ _ n h⟩
theorem Rd.nn {a : Addr} {u : HO} (h : Rd H a u) : H a ≠ none := by
  rcases h with h | ⟨o, h⟩ <;> (rw [h]; exact fun z => nomatch z)
mutual
/-- THE RULE of keeping -/
theorem Dv.keep (n : ∀ b, ¬ B b → H b ≠ none → ¬ B' b) (k : ∀ b o, ¬ B b → H b = some o → H' b = some o) : ∀ (d : D) (v : V), Dv K H B v d → Dv K H' B' v d
  | .non, _, h => by cases h; exact .non
  | .bl _, _, h => by cases h; exact .bl _
  | .int _, _, h => by cases h; exact .int _
  | .str _, _, h => by cases h with | str e => exact .str e
  | .tup ds, _, h => by
    cases h with
    | tup h1 h2 h3 h4 =>
      obtain ⟨its, h2⟩ := h2
      exact .tup (n _ h1 (by rw [h2]; exact fun z => nomatch z)) ⟨its, k _ _ h1 h2⟩ h3 (Dvs.keep n k ds _ h4)
  | .lst ds, _, h => by
    cases h with
    | lst h1 h2 h3 h4 => exact .lst (n _ h1 (by rw [h2]; exact fun z => nomatch z)) (k _ _ h1 h2) h3 (Dvs.keep n k ds _ h4)
  | .scr ns, _, h => by
    cases h with
    | scr h1 h3 =>
      refine .scr ?_ h3
      rcases h1 with ⟨h1, h2⟩ | h1
      · exact .inl ⟨n _ h1 (Rd.nn h2), Rd.keep k h1 h2⟩
      · exact .inr h1
  | .dct ks ds, _, h => by
    cases h with
    | dct h1 h2 h3 h5 h6 h7 h4 => exact .dct (n _ h1 (Rd.nn h2)) (Rd.keep k h1 h2) h3 h5 h6 h7 (Dvs.keep n k ds _ h4)
theorem Dvs.keep (n : ∀ b, ¬ B b → H b ≠ none → ¬ B' b) (k : ∀ b o, ¬ B b → H b = some o → H' b = some o) : ∀ (ds : List D) (vs : List V), Dvs K H B vs ds → Dvs K H' B' vs ds
  | [], _, h => by cases h; exact .nil
  | d :: ds, _, h => by
    cases h with
    | cons h1 h2 => exact .cons (Dv.keep n k d _ h1) (Dvs.keep n k ds _ h2)
end
theorem Dv.ext {v : V} {d : D} (h : Dv K H B v d) (s : Same H H') : Dv K H' B v d := Dv.keep (fun _ q _ => q) (fun b o _ e => s b o e) d v h
theorem Dvs.ext {v : List V} {d : List D} (h : Dvs K H B v d) (s : Same H H') : Dvs K H' B v d := Dvs.keep (fun _ q _ => q) (fun b o _ e => s b o e) d v h
theorem Dv.anti {v : V} {d : D} (h : Dv K H B v d) (s : ∀ b, B' b → B b) : Dv K H B' v d := Dv.keep (fun b q _ z => q (s b z)) (fun b o _ e => e) d v h
theorem Dvs.anti {v : List V} {d : List D} (h : Dvs K H B v d) (s : ∀ b, B' b → B b) : Dvs K H B' v d := Dvs.keep (fun b q _ z => q (s b z)) (fun b o _ e => e) d v h
theorem Dvs.length : ∀ {vs : List V} {ds : List D}, Dvs K H B vs ds → vs.length = ds.length
  | _, _, .nil => rfl
  | _, _, .cons _ t => by rw [List.length_cons, List.length_cons, Dvs.length t]
theorem Dvs.get : ∀ {vs : List V} {ds : List D} {i : Nat} {d : D}, Dvs K H B vs ds → ds[i]? = some d → ∃ v, vs[i]? = some v ∧ Dv K H B v d
  | _, _, _, _, .nil, e => by simp at e
  | _, _, 0, _, .cons h _, e => by simp at e; subst e; exact ⟨_, rfl, h⟩
  | _, _, i + 1, d, .cons _ t, e => by
    obtain ⟨v, h1, h2⟩ := Dvs.get (i := i) (d := d) t (by simpa using e)
    exact ⟨v, by simpa using h1, h2⟩
theorem Dvs.getV : ∀ {vs : List V} {ds : List D} {i : Nat} {v : V}, Dvs K H B vs ds → vs[i]? = some v → ∃ d, ds[i]? = some d ∧ Dv K H B v d
  | _, _, _, _, .nil, e => by simp at e
  | _, _, 0, _, .cons h _, e => by simp at e; subst e; exact ⟨_, rfl, h⟩
  | _, _, i + 1, d, .cons _ t, e => by
    obtain ⟨v, h1, h2⟩ := Dvs.getV (i := i) (v := d) t (by simpa using e)
    exact ⟨v, by simpa using h1, h2⟩
theorem Dvs.append : ∀ {vs ws : List V} {ds es : List D}, Dvs K H B vs ds → Dvs K H B ws es → Dvs K H B (vs ++ ws) (ds ++ es)
  | _, _, _, _, .nil, s => s
  | _, _, _, _, .cons r t, s => .cons r (Dvs.append t s)
theorem Dvs.take : ∀ {vs : List V} {ds : List D} (n : Nat), Dvs K H B vs ds → Dvs K H B (vs.take n) (ds.take n)
  | _, _, 0, _ => .nil
  | _, _, _ + 1, .nil => .nil
  | _, _, n + 1, .cons r t => .cons r (Dvs.take n t)
theorem Dvs.drop : ∀ {vs : List V} {ds : List D} (n : Nat), Dvs K H B vs ds → Dvs K H B (vs.drop n) (ds.drop n)
  | _, _, 0, r => r
  | _, _, _ + 1, .nil => .nil
  | _, _, n + 1, .cons _ t => Dvs.drop n t
theorem Dvs.set {x : V} {d : D} (r : Dv K H B x d) : ∀ {xs : List V} {ds : List D} (i : Nat), Dvs K H B xs ds → Dvs K H B (xs.set i x) (ds.set i d)
  | _, _, _, .nil => .nil
  | _, _, 0, .cons _ t => .cons r t
  | _, _, i + 1, .cons q t => .cons q (Dvs.set r i t)
end
/-! ### the names' values -/
def OwnA (σ : St) (ρ : Env) (a : Addr) : Prop := ∃ (i : Nat) (d : D), ρ[i]? = some (.ow d) ∧ σ[i]? = some (some (.ref a))
def Bn (B : Addr → Prop) (σ : St) (ρ : Env) (a : Addr) : Prop := B a ∨ OwnA σ ρ a
def Own (K : Frag) (H : Hp) (B : Addr → Prop) (a : Addr) : D → Prop
  | .lst ds => ∃ vs, H a = some (.lst vs) ∧ ds.length ≤ lim ∧ Dvs K H B vs ds
  | .dct ks ds => ∃ vs, H a = some (.dK ((ks.map fun k => (Sum.inr (tx k) : Key)).zip vs)) ∧ ks.length ≤ lim ∧ ks.length = vs.length ∧ ks.Nodup ∧ (∀ k ∈ ks, okTx k) ∧ Dvs K H B vs ds
  | _ => False
theorem Own.nn {K : Frag} {H : Hp} {B : Addr → Prop} {a : Addr} {d : D} (h : Own K H B a d) : H a ≠ none := by
  cases d <;> first
    | exact h.elim
    | (obtain ⟨vs, h, _⟩ := h; rw [h]; exact fun z => nomatch z)
structure Rep (K : Frag) (B : Addr → Prop) (H0 H : Hp) (σ : St) (ρ : Env) : Prop where
  same : Same H0 H
  ban : ∀ a, B a → H a ≠ none
  len : σ.length = ρ.length
  sh : ∀ (i : Nat) (d : D), ρ[i]? = some (.sh d) → ∃ v, σ[i]? = some (some v) ∧ Dv K H (Bn B σ ρ) v d
  ow : ∀ (i : Nat) (d : D), ρ[i]? = some (.ow d) → ∃ a, σ[i]? = some (some (.ref a)) ∧ H0 a = none ∧ ¬ B a ∧ Own K H (Bn B σ ρ) a d
  inj : ∀ (i j : Nat) (d e : D) (a : Addr), ρ[i]? = some (.ow d) → ρ[j]? = some (.ow e) → σ[i]? = some (some (.ref a)) → σ[j]? = some (some (.ref a)) → i = j
section
variable {K : Frag} {B B' : Addr → Prop} {H0 H H' : Hp} {σ : St} {ρ : Env}
theorem Own.keep {a : Addr} {d : D} (n : ∀ b, ¬ B b → H b ≠ none → ¬ B' b) (k : ∀ b o, ¬ B b → H b = some o → H' b = some o) (ka : ∀ o, H a = some o → H' a = some o) (h : Own K H B a d) : Own K H' B' a d := by
  cases d <;> first
    | exact h.elim
    | (obtain ⟨vs, h, l, r⟩ := h; exact ⟨vs, ka _ h, l, Dvs.keep n k _ _ r⟩)
    | (obtain ⟨vs, h, l, l2, n2, o2, r⟩ := h; exact ⟨vs, ka _ h, l, l2, n2, o2, Dvs.keep n k _ _ r⟩)
theorem Rep.bn (r : Rep K B H0 H σ ρ) : ∀ a, Bn B σ ρ a → H a ≠ none := fun a h => by
  rcases h with h | ⟨i, d, e, e2⟩
  · exact r.ban a h
  · obtain ⟨a', e3, _, _, o⟩ := r.ow i d e
    rw [e2] at e3
    cases e3
    exact o.nn
theorem Same.nn {a : Addr} (s : Same H H') (h : H a ≠ none) : H' a ≠ none := by
  cases e : H a with
  | none => exact absurd e h
  | some o => rw [s a o e]; exact fun z => nomatch z
theorem Rep.ext (r : Rep K B H0 H σ ρ) (s : Same H H') : Rep K B H0 H' σ ρ :=
  ⟨r.same.trans s, fun a h => Same.nn s (r.ban a h), r.len, fun i d e => by
    obtain ⟨v, e1, h⟩ := r.sh i d e
    exact ⟨v, e1, h.ext s⟩, fun i d e => by
    obtain ⟨a, e1, h0, hb, h⟩ := r.ow i d e
    exact ⟨a, e1, h0, hb, h.keep (fun _ q _ => q) (fun b o _ e => s b o e) fun o e => s a o e⟩, r.inj⟩
/-- a smaller base -/
theorem Rep.base {H1 : Hp} (r : Rep K B H1 H σ ρ) (s : Same H0 H1) (f : ∀ a, H1 a = none → H0 a = none) : Rep K B H0 H σ ρ :=
  ⟨s.trans r.same, r.ban, r.len, r.sh, fun i d e => by
    obtain ⟨a, e1, h0, hb, h⟩ := r.ow i d e
    exact ⟨a, e1, f a h0, hb, h⟩, r.inj⟩
theorem Rep.base' {H1 : Hp} (r : Rep K B H1 H σ ρ) (s : Same H0 H1) : Rep K B H0 H σ ρ := r.base s fun _ e => s.free e
/-- a new base: all that is tracked and not owned -/
noncomputable def unown (H : Hp) (σ : St) (ρ : Env) : Hp := fun a => open Classical in if OwnA σ ρ a then none else H a
theorem unown_same (H : Hp) (σ : St) (ρ : Env) : Same (unown H σ ρ) H := fun b o e => by
  unfold unown at e
  split at e
  · cases e
  · exact e
theorem Rep.rebase (r : Rep K B H0 H σ ρ) : Rep K B (unown H σ ρ) H σ ρ :=
  ⟨unown_same H σ ρ, r.ban, r.len, r.sh, fun i d e => by
    obtain ⟨a, e1, h0, hb, h⟩ := r.ow i d e
    exact ⟨a, e1, by unfold unown; exact if_pos ⟨i, d, e, e1⟩, hb, h⟩, r.inj⟩
theorem Rep.unown (r : Rep K B H0 H σ ρ) : Same H0 (unown H σ ρ) := fun b o e => by
  unfold Mn.unown
  rw [if_neg]
  · exact r.same b o e
  · rintro ⟨i, d, e1, e2⟩
    obtain ⟨a, e3, h0, _⟩ := r.ow i d e1
    rw [e2] at e3
    cases e3
    rw [e] at h0
    cases h0
theorem getset {α : Type} {l : List α} {i j : Nat} {x y : α} (h : (l.set i x)[j]? = some y) : (j = i ∧ y = x) ∨ (j ≠ i ∧ l[j]? = some y) := by
  by_cases e : j = i
  · subst e
    by_cases hl : j < l.length
    · rw [List.getElem?_set_self hl] at h
      exact .inl ⟨rfl, (Option.some.inj h).symm⟩
    · rw [List.getElem?_eq_none (by simpa using hl)] at h
      cases h
  · rw [List.getElem?_set_ne (Ne.symm e)] at h
    exact .inr ⟨e, h⟩
theorem own_set {i : Nat} {c : Cl} {x : Option V} (hc : ∀ d, c ≠ .ow d) : ∀ a, OwnA (σ.set i x) (ρ.set i c) a → OwnA σ ρ a := fun a ⟨j, d, e1, e2⟩ => by
  rcases getset e1 with ⟨_, z⟩ | ⟨ne, e1⟩
  · exact absurd z.symm (hc d)
  · rcases getset e2 with ⟨z, _⟩ | ⟨_, e2⟩
    · exact absurd z ne
    · exact ⟨j, d, e1, e2⟩
theorem Dv.weak {v : V} {d : D} (h : Dv K H B v d) (s : ∀ b, B' b → B b) : Dv K H B' v d := h.anti s
theorem bn_of {ρ' : Env} {σ' : St} (h : ∀ a, OwnA σ' ρ' a → OwnA σ ρ a) : ∀ a, Bn B σ' ρ' a → Bn B σ ρ a := fun a z => z.imp id (h a)
theorem Rep.set_any (r : Rep K B H0 H σ ρ) (i : Nat) {c : Cl} {x : Option V} (hc : ∀ d, c ≠ .ow d) (hs : ∀ d, c = .sh d → ∃ v, x = some v ∧ Dv K H (Bn B σ ρ) v d) : Rep K B H0 H (σ.set i x) (ρ.set i c) := by
  have sub := bn_of (B := B) (own_set (σ := σ) (ρ := ρ) (i := i) (x := x) hc)
  refine ⟨r.same, r.ban, by rw [List.length_set, List.length_set]; exact r.len, fun j d e => ?_, fun j d e => ?_, fun j k d e a h1 h2 h3 h4 => ?_⟩
  · have hj : j < (ρ.set i c).length := by
      by_cases hl : j < (ρ.set i c).length
      · exact hl
      · rw [List.getElem?_eq_none (by omega)] at e; cases e
    rcases getset e with ⟨z, ec⟩ | ⟨ne, e⟩
    · subst z
      obtain ⟨v, ex, hv⟩ := hs d ec.symm
      refine ⟨v, ?_, hv.anti sub⟩
      rw [List.getElem?_set_self (by rw [List.length_set] at hj; rw [r.len]; exact hj), ex]
    · obtain ⟨v, e1, hv⟩ := r.sh j d e
      exact ⟨v, by rw [List.getElem?_set_ne (Ne.symm ne)]; exact e1, hv.anti sub⟩
  · rcases getset e with ⟨z, ec⟩ | ⟨ne, e⟩
    · exact absurd ec.symm (hc d)
    · obtain ⟨a, e1, h0, hb, ho⟩ := r.ow j d e
      exact ⟨a, by rw [List.getElem?_set_ne (Ne.symm ne)]; exact e1, h0, hb, ho.keep (fun b q _ z => q (sub b z)) (fun _ _ _ e => e) fun _ e => e⟩
  · rcases getset h1 with ⟨z, ec⟩ | ⟨n1, h1⟩
    · exact absurd ec.symm (hc d)
    · rcases getset h2 with ⟨z, ec⟩ | ⟨n2, h2⟩
      · exact absurd ec.symm (hc e)
      · rw [List.getElem?_set_ne (Ne.symm n1)] at h3
        rw [List.getElem?_set_ne (Ne.symm n2)] at h4
        exact r.inj j k d e a h1 h2 h3 h4
theorem Rep.set_sh (r : Rep K B H0 H σ ρ) (i : Nat) {v : V} {d : D} (h : Dv K H (Bn B σ ρ) v d) : Rep K B H0 H (σ.set i (some v)) (ρ.set i (.sh d)) :=
  r.set_any i (fun _ z => nomatch z) fun e q => by cases q; exact ⟨v, rfl, h⟩
theorem Rep.set_no (r : Rep K B H0 H σ ρ) (i : Nat) (x : Option V) : Rep K B H0 H (σ.set i x) (ρ.set i .no) :=
  r.set_any i (fun _ z => nomatch z) fun e q => nomatch q
theorem Rep.wipe (r : Rep K B H0 H σ ρ) : ∀ vs : List Nat, Rep K B H0 H (wipe σ vs) (wipeE ρ vs)
  | [] => r
  | v :: vs => (r.wipe vs).set_no v none
/-- a name is no longer its list's only holder -/
theorem Rep.shut1 (r : Rep K B H0 H σ ρ) (i : Nat) {d : D} (e : ρ[i]? = some (.ow d)) : Rep K B H0 H σ (ρ.set i (.sh d)) := by
  obtain ⟨a, e1, h0, hb, ho⟩ := r.ow i d e
  have hi : i < σ.length := by
    by_cases hl : i < σ.length
    · exact hl
    · rw [List.getElem?_eq_none (by omega)] at e1; cases e1
  have hs : σ.set i (some (.ref a)) = σ := by
    apply List.ext_getElem?
    intro j
    by_cases z : j = i
    · subst z; rw [List.getElem?_set_self hi, e1]
    · rw [List.getElem?_set_ne (Ne.symm z)]
  have sub : ∀ b, OwnA σ (ρ.set i (.sh d)) b → OwnA σ ρ b := fun b ⟨j, d', e2, e3⟩ => by
    rcases getset e2 with ⟨_, z⟩ | ⟨ne, e2⟩
    · cases z
    · exact ⟨j, d', e2, e3⟩
  have na : ¬ Bn B σ (ρ.set i (.sh d)) a := fun z => by
    rcases z with z | ⟨j, d', e2, e3⟩
    · exact hb z
    · rcases getset e2 with ⟨_, z⟩ | ⟨ne, e2⟩
      · cases z
      · exact ne (r.inj j i d' d a e2 e e3 e1)
  have sub2 := bn_of (B := B) sub
  refine ⟨r.same, r.ban, by rw [List.length_set]; exact r.len, fun j d' e' => ?_, fun j d' e' => ?_, fun j k d1 d2 b h1 h2 h3 h4 => ?_⟩
  · rcases getset e' with ⟨z, ec⟩ | ⟨ne, e'⟩
    · subst z
      cases ec
      refine ⟨_, e1, ?_⟩
      cases d <;> first
        | exact ho.elim
        | (obtain ⟨vs, h, l, q⟩ := ho; exact .lst na h l (q.anti sub2))
        | (obtain ⟨vs, h, l, l2, n2, o2, q⟩ := ho; exact .dct na (.inl h) l l2 n2 o2 (q.anti sub2))
    · obtain ⟨v, e2, hv⟩ := r.sh j d' e'
      exact ⟨v, e2, hv.anti sub2⟩
  · rcases getset e' with ⟨z, ec⟩ | ⟨ne, e'⟩
    · cases ec
    · obtain ⟨b, e2, h0', hb', ho'⟩ := r.ow j d' e'
      exact ⟨b, e2, h0', hb', ho'.keep (fun b q _ z => q (sub2 b z)) (fun _ _ _ e => e) fun _ e => e⟩
  · rcases getset h1 with ⟨_, z⟩ | ⟨_, h1⟩
    · cases z
    · rcases getset h2 with ⟨_, z⟩ | ⟨_, h2⟩
      · cases z
      · exact r.inj j k d1 d2 b h1 h2 h3 h4
theorem Rep.frz : ∀ (is : List Nat) {ρ : Env}, Rep K B H0 H σ ρ → Rep K B H0 H σ (Mn.frz is ρ)
  | [], _, r => r
  | i :: is, ρ, r => by
    unfold Mn.frz
    split
    · rename_i d e
      exact Rep.frz is (r.shut1 i e)
    · exact Rep.frz is r
end
end Mn
end
section
set_option Elab.async false
set_option linter.all false
set_option maxRecDepth 100000
set_option maxHeartbeats 4000000
set_option autoImplicit false
/-! D2: readings. -/
namespace Mn
open PySem PySem.Spec L2
def Bor (K : Frag) (H : Hp) (B : Addr → Prop) (v : V) : D → Prop
  | .lst ds => ∃ a vs, v = .ref a ∧ H a = some (.lst vs) ∧ ds.length ≤ lim ∧ Dvs K H B vs ds
  | .dct ks ds => ∃ a vs, v = .ref a ∧ Rd H a (.dK ((ks.map fun k => (Sum.inr (tx k) : Key)).zip vs)) ∧ ks.length ≤ lim ∧ ks.length = vs.length ∧ ks.Nodup ∧ (∀ k ∈ ks, okTx k) ∧ Dvs K H B vs ds
  | d => Dv K H B v d
abbrev Bors (K : Frag) (H : Hp) (B : Addr → Prop) : List V → List D → Prop := Paired (Bor K H B)
section
variable {K : Frag} {H H' : Hp} {B B' : Addr → Prop} {v : V} {d : D}
theorem Dv.bor (h : Dv K H B v d) : Bor K H B v d := by
  cases d <;> first
    | exact h
    | (cases h with | lst h1 h2 h3 h4 => exact ⟨_, _, rfl, h2, h3, h4⟩)
    | (cases h with | dct h1 h2 h3 h4 h5 h6 h7 => exact ⟨_, _, rfl, h2, h3, h4, h5, h6, h7⟩)
theorem Bor.ext (h : Bor K H B v d) (s : Same H H') : Bor K H' B v d := by
  cases d <;> first
    | exact Dv.ext h s
    | (obtain ⟨a, vs, e, h2, h3, h4⟩ := h; exact ⟨a, vs, e, s _ _ h2, h3, h4.ext s⟩)
    | (obtain ⟨a, vs, e, h2, h3, h4, h5, h6, h7⟩ := h
       exact ⟨a, vs, e, Rd.keep (B := fun _ => False) (fun b o _ q => s b o q) (fun z => z) h2, h3, h4, h5, h6, h7.ext s⟩)
theorem Bors.ext {vs : List V} {ds : List D} (h : Bors K H B vs ds) (s : Same H H') : Bors K H' B vs ds := by
  induction h with
  | nil => exact .nil
  | cons a _ ih => exact .cons (a.ext s) ih
theorem Dvs.bors {vs : List V} {ds : List D} (h : Dvs K H B vs ds) : Bors K H B vs ds := by
  induction ds generalizing vs with
  | nil => cases h; exact .nil
  | cons d ds ih => cases h with | cons a b => exact .cons a.bor (ih b)
end
/-! ### what is wanted -/
inductive Md where
  | v | n | b
def Tr (H : Hp) (B : Addr → Prop) : Prop := ∀ a, B a → H a ≠ none
def FinV (K : Frag) (B : Addr → Prop) (H : Hp) (Q : VK) (d : D) : Prop := ∀ v H', Same H H' → Dv K H' B v d → Q v H'
def FinN (K : Frag) (B : Addr → Prop) (H : Hp) (Q : VK) : D → Prop
  | .lst ds => ∀ a H1 vs, Same H H1 → H1 a = none → ds.length ≤ lim → Dvs K H1 B vs ds → Q (.ref a) (upd H1 a (.lst vs))
  | .dct ks ds => ∀ a H1 vs, Same H H1 → H1 a = none → ks.length ≤ lim → ks.length = vs.length → ks.Nodup → (∀ k ∈ ks, okTx k) → Dvs K H1 B vs ds → Q (.ref a) (upd H1 a (.dK ((ks.map fun k => (Sum.inr (tx k) : Key)).zip vs)))
  | d => FinV K B H Q d
def FinD (m : Md) (K : Frag) (B : Addr → Prop) (H : Hp) (Q : VK) (d : D) : Prop := match m with
  | .v => FinV K B H Q d
  | .n => FinN K B H Q d
  | .b => ∀ v H', Same H H' → Bor K H' B v d → Q v H'
section
variable {K : Frag} {H H' : Hp} {B B' : Addr → Prop} {Q Q' : VK} {d : D} {m : Md}
theorem same_upd {a : Addr} {o : HO} (n : H a = none) : Same H (upd H a o) := fun b x e => by
  rw [upd_ne (ne_of_none e n)]
  exact e
theorem FinD.shift (s : Same H H') (f : FinD m K B H Q d) : FinD m K B H' Q d := by
  cases m with
  | v => exact fun v H1 t => f v H1 (s.trans t)
  | b => exact fun v H1 t => f v H1 (s.trans t)
  | n =>
    cases d <;> first
      | exact fun v H1 t => f v H1 (s.trans t)
      | exact fun a H1 vs t => f a H1 vs (s.trans t)
theorem FinD.vb (f : FinD .b K B H Q d) : FinD .v K B H Q d := fun v H1 t h => f v H1 t h.bor
theorem FinD.nv (t : Tr H B) (f : FinD .v K B H Q d) : FinD .n K B H Q d := by
  cases d <;> first
    | exact f
    | (intro a H1 vs s n l h
       have nb : ¬ B a := fun z => by
         have := t a z
         exact Same.nn s this n
       exact f _ _ (s.trans (same_upd n)) (.lst nb upd_same l (h.ext (same_upd n))))
    | (intro a H1 vs s n l1 l2 l3 l4 h
       have nb : ¬ B a := fun z => by
         have := t a z
         exact Same.nn s this n
       exact f _ _ (s.trans (same_upd n)) (.dct nb (.inl upd_same) l1 l2 l3 l4 (h.ext (same_upd n))))
theorem FinD.nb (t : Tr H B) (f : FinD .b K B H Q d) : FinD .n K B H Q d := f.vb.nv t
theorem Tr.same (t : Tr H B) (s : Same H H') : Tr H' B := fun a h => Same.nn s (t a h)
end
def FinR (m : Md) (K : Frag) (cv : Nat → Value) (W : WX) (B : Addr → Prop) (σ : St) (H : Hp) (Q : VK) : R D → Prop
  | .ok d => FinD m K B H Q d
  | .exc c => ∀ H', Same H H' → W (cv c) none σ H'
theorem FinR.shift {m : Md} {K : Frag} {cv : Nat → Value} {W : WX} {B : Addr → Prop} {σ : St} {H H' : Hp} {Q : VK} {r : R D} (s : Same H H') (f : FinR m K cv W B σ H Q r) : FinR m K cv W B σ H' Q r := by
  cases r with
  | ok d => exact FinD.shift (m := m) (K := K) (B := B) (Q := Q) (d := d) s f
  | exc c => exact fun H1 t => f H1 (s.trans t)
def rd (m : Md) (K : Frag) (cv : Nat → Value) (W : WX) (f : Env → M D) : TE := fun σ H Q =>
  ∃ B H0 ρ r, Rep K B H0 H σ ρ ∧ f ρ = some r ∧ FinR m K cv W (Bn B σ ρ) σ H Q r
/-- a test's -/
def rdT (K : Frag) (cv : Nat → Value) (W : WX) (f : Env → M D) : TT := fun σ H Q =>
  ∃ B H0 ρ r, Rep K B H0 H σ ρ ∧ f ρ = some r ∧ match r with
    | .ok d => ∃ b, d = .bl b ∧ ∀ H', Same H H' → Q b H'
    | .exc c => ∀ H', Same H H' → W (cv c) none σ H'
/-- an argument list's: kept, or looked at -/
def rdA (m : Bool) (K : Frag) (cv : Nat → Value) (W : WX) (f : Env → M (List D)) : TA := fun σ H Q =>
  ∃ B H0 ρ r, Rep K B H0 H σ ρ ∧ f ρ = some r ∧ match r with
    | .ok ds => ∀ vs H', Same H H' → (if m then Dvs K H' (Bn B σ ρ) vs ds else Bors K H' (Bn B σ ρ) vs ds) → Q vs H'
    | .exc c => ∀ H', Same H H' → W (cv c) none σ H'
section
variable {X : Cx} {K : Frag} {cv : Nat → Value} {W : WX} {e a b : Expr} {pos : Pos} {t t' : TE} {f g : Env → M D}
theorem pe_imp (h : PE X e t) (i : ∀ σ H Q, t' σ H Q → t σ H Q) : PE X e t' := ⟨fun pins s σ H Q I q => h.run pins s σ H Q I (i σ H Q q)⟩
theorem pt_imp {t t' : TT} (h : PT X e t) (i : ∀ σ H Q, t' σ H Q → t σ H Q) : PT X e t' := ⟨fun pins s σ H Q I q => h.run pins s σ H Q I (i σ H Q q)⟩
theorem pa_imp {es : List Expr} {t t' : TA} (h : PA X es t) (i : ∀ σ H Q, t' σ H Q → t σ H Q) : PA X es t' := ⟨fun p pins s σ H Q I q => h.run p pins s σ H Q I (i σ H Q q)⟩
theorem ps_imp {st : Stmt} {t t' : TS} (h : PS X st t) (i : ∀ D σ H, t' D σ H → t D σ H) : PS X st t' := ⟨fun pins s σ H D I q => h.run pins s σ H D I (i D σ H q)⟩
theorem rd_nv (h : PE X e (rd .n K cv W f)) : PE X e (rd .v K cv W f) := pe_imp h fun σ H Q ⟨B, H0, ρ, r, rep, ef, fin⟩ => ⟨B, H0, ρ, r, rep, ef, by
  cases r with
  | ok d => exact FinD.nv rep.bn fin
  | exc c => exact fin⟩
theorem rd_vb (h : PE X e (rd .v K cv W f)) : PE X e (rd .b K cv W f) := pe_imp h fun σ H Q ⟨B, H0, ρ, r, rep, ef, fin⟩ => ⟨B, H0, ρ, r, rep, ef, by
  cases r with
  | ok d => exact FinD.vb fin
  | exc c => exact fin⟩
/-- two operands, then a rule -/
def r2 (m : Md) (K : Frag) (h : D → D → Option D) : R2 := fun x y H Q => ∃ B dx dy d, Tr H B ∧ Bor K H B x dx ∧ Bor K H B y dy ∧ h dx dy = some d ∧ FinD m K B H Q d
theorem op_read {m : Md} {h : D → D → Option D} : ∀ σ H Q, rd m K cv W (fun ρ => bd (f ρ) fun x => bd (g ρ) fun y => li (h x y)) σ H Q → tOp (r2 m K h) (rd .b K cv W f) (rd .b K cv W g) σ H Q := by
  rintro σ H Q ⟨B, H0, ρ, r, rep, e, fin⟩
  rcases bd_inv e with ⟨x, hf, e⟩ | ⟨c, hf, rfl⟩
  · refine ⟨B, H0, ρ, _, rep, hf, fun v H1 s1 bv => ?_⟩
    rcases bd_inv e with ⟨y, hg, e⟩ | ⟨c, hg, rfl⟩
    · refine ⟨B, H0, ρ, _, rep.ext s1, hg, fun u H2 s2 bu => ?_⟩
      obtain ⟨d, hh, rfl⟩ := li_inv e
      exact ⟨_, x, y, d, ((rep.ext s1).ext s2).bn, bv.ext s2, bu, hh, FinD.shift (s1.trans s2) fin⟩
    · exact ⟨B, H0, ρ, _, rep.ext s1, hg, fun H' s => fin H' (s1.trans s)⟩
  · exact ⟨B, H0, ρ, _, rep, hf, fin⟩
theorem pe_bin {m : Md} {op : Operator} {h : D → D → Option D} (ha : PE X a (rd .b K cv W f)) (hb : PE X b (rd .b K cv W g)) (r : OpR X (binaryOp op) (r2 m K h)) :
    PE X (.BinOp a op b pos) (rd m K cv W (fun ρ => bd (f ρ) fun x => bd (g ρ) fun y => li (h x y))) := pe_imp (pe_op r ha hb) op_read
theorem pe_cmpD {op : CmpOp} {h : D → D → Option D} (ha : PE X a (rd .b K cv W f)) (hb : PE X b (rd .b K cv W g)) (r : OpR X (compareOp op) (r2 .v K h)) (hm : behindInMarks op b = false) :
    PE X (.Compare a [op] [b] pos) (rd .v K cv W (fun ρ => bd (f ρ) fun x => bd (g ρ) fun y => li (h x y))) := pe_imp (pe_cmpR r ha hb hm) op_read
/-- a test by its value -/
theorem rdT_of : ∀ σ H Q, rdT K cv W f σ H Q → tTest (rd .v K cv W f) σ H Q := by
  rintro σ H Q ⟨B, H0, ρ, r, rep, e, fin⟩
  refine ⟨B, H0, ρ, r, rep, e, ?_⟩
  cases r with
  | exc c => exact fin
  | ok d =>
    obtain ⟨b, rfl, q⟩ := fin
    intro v H' s h
    cases h
    exact ⟨b, rfl, q H' s⟩
theorem rdT_ofB : ∀ σ H Q, rdT K cv W f σ H Q → tB (rd .v K cv W f) σ H Q := rdT_of
theorem pt_of (h : PE X e (rd .v K cv W f)) (he : ∀ whole, isTrue e X.env whole = (do let v ← whole; standAt e.pos; holding [v] (truthy v))) : PT X e (rdT K cv W f) := pt_imp (pt_val h he) rdT_ofB
theorem rdT_cmp {m : Md} {h : D → D → Option D} : ∀ σ H Q, rdT K cv W (fun ρ => bd (f ρ) fun x => bd (g ρ) fun y => li (h x y)) σ H Q → tTest (tOp (r2 .v K h) (rd .b K cv W f) (rd .b K cv W g)) σ H Q := fun σ H Q q => op_read σ H _ (rdT_of σ H Q q)
theorem pt_cmpD {op : CmpOp} {h : D → D → Option D} (ha : PE X a (rd .b K cv W f)) (hb : PE X b (rd .b K cv W g)) (r : OpR X (compareOp op) (r2 .v K h)) (hm : behindInMarks op b = false) :
    PT X (.Compare a [op] [b] pos) (rdT K cv W (fun ρ => bd (f ρ) fun x => bd (g ρ) fun y => li (h x y))) := pt_imp (pt_cmpR r ha hb hm) (rdT_cmp (m := .v))
end
end Mn
end
section
set_option Elab.async false
set_option linter.all false
set_option maxRecDepth 100000
set_option maxHeartbeats 4000000
set_option autoImplicit false
/-! D3: operators of trees. -/
namespace Mn
open PySem PySem.Spec L2
theorem tx_len (s : Tx) : (tx s).length = s.length := by unfold tx Str.length; simp
theorem tx_app (s t : Tx) : tx s ++ tx t = tx (s ++ t) := by
  show (⟨s.toArray ++ t.toArray⟩ : Str) = ⟨(s ++ t).toArray⟩
  simp
theorem tx_cps (s : Tx) : (tx s).cps.toList = s := by unfold tx; simp
theorem tx_inj {s t : Tx} (h : tx s = tx t) : s = t := by
  have := congrArg (fun z : Str => z.cps.toList) h
  simpa [tx_cps] using this
theorem okTx.app {s t : Tx} (hs : okTx s) (ht : okTx t) (l : s.length + t.length ≤ lim) : okTx (s ++ t) :=
  ⟨by rw [List.length_append]; exact l, fun c hc => (List.mem_append.mp hc).elim (hs.2 c) (ht.2 c)⟩
theorem okTx.sub {s t : Tx} (hs : okTx s) (h : t.Sublist s) : okTx t := ⟨Nat.le_trans h.length_le hs.1, fun c hc => hs.2 c (h.subset hc)⟩
section
variable {X : Cx} {K : Frag} {H : Hp} {B : Addr → Prop} {Q : VK} {m : Md}
theorem fin_str {s : Tx} (ok : okTx s) (f : FinD .n K B H Q (.str s)) : Q (.str (tx s)) H := f _ _ (Same.refl H) (.str ok)
theorem fin_int {i : Int} (f : FinD .n K B H Q (.int i)) : Q (.int i) H := f _ _ (Same.refl H) (.int i)
theorem fin_bl {b : Bool} (f : FinD .n K B H Q (.bl b)) : Q (.bl b) H := f _ _ (Same.refl H) (.bl b)
theorem fin_blv {b : Bool} (f : FinD .v K B H Q (.bl b)) : Q (.bl b) H := f _ _ (Same.refl H) (.bl b)
theorem fin_lst {vs : List V} {ds : List D} (l : ds.length ≤ lim) (h : Dvs K H B vs ds) (f : FinD .n K B H Q (.lst ds)) : ∀ p, H p = none → Q (.ref p) (upd H p (.lst vs)) := fun p n => f p H vs (Same.refl H) n l h
theorem fin_tup {vs : List V} {ds : List D} (t : Tr H B) (l : ds.length ≤ lim) (h : Dvs K H B vs ds) (f : FinV K B H Q (.tup ds)) : ∀ p its, H p = none → Q (.ref p) (upd H p (.frz (tupO its) (.tup vs))) := fun p its n =>
  f _ _ (same_upd n) (.tup (fun z => t p z n) ⟨its, upd_same⟩ l (h.ext (same_upd n)))
/-- a new tuple is laid -/
theorem tnew {pins : List (Addr × Obj)} {σ : St} {s : Shared} {its : List Value} {t' : Nat} {ys : List V} (I : Inv X pins σ H s) (hv : Vals ys its) (hz : ys.length ≤ sizeLine) :
    Inv X pins σ (upd H s.heap.objs.size (.frz (tupO its) (.tup ys))) { s with heap := s.heap.push (tupO its), toks := t' } :=
  I.laid (fun _ _ q => Heap.get?_push_of_some _ q) (Nat.le_refl _) ⟨Heap.get?_push_size _ rfl, hz, its, hv, _, Heap.get?_push_size _ rfl, rfl, _, rfl⟩
/-- t + u -/
theorem op_catF : OpR X (binaryOp .Add) (fun x y H Q => ∃ a b xs ys, x = .ref a ∧ y = .ref b ∧ SqT X.K H a xs ∧ SqT X.K H b ys ∧ xs.length + ys.length ≤ sizeLine ∧
    (xs = [] → Q (.ref b) H) ∧ (xs ≠ [] → ys = [] → Q (.ref a) H) ∧ (∀ p its, H p = none → Q (.ref p) (upd H p (.frz (tupO its) (.tup (xs ++ ys)))))) := by
  rintro pins s σ H x y v u Q I rx ry ⟨a, b, xs, ys, rfl, rfl, ha, hb, hz, q0, q1, q2⟩
  cases rx
  cases ry
  obtain ⟨i1, r1, p1, _⟩ := I.tuple ha
  obtain ⟨i2, r2, p2, _⟩ := I.tuple hb
  by_cases hx : xs = []
  · subst hx
    cases r1
    exact cat_tup0 p1 p2 ⟨.ref b, H, I, rfl, q0 rfl⟩
  · have e1 := r1.length
    have e2 := r2.length
    refine HT.cat_tup p1 p2 (fun z => hx (List.eq_nil_of_length_eq_zero (by rw [e1, z]; rfl))) (fun z => ⟨.ref a, H, I, rfl, q1 hx (List.eq_nil_of_length_eq_zero (by rw [e2, z]; rfl))⟩) (fun z => ?_) (by rw [← e1, ← e2]; exact hz)
    exact ⟨.ref _, _, tnew (t' := s.toks) I (r1.append r2) (by rw [List.length_append]; exact hz), rfl, q2 _ _ I.fresh⟩
theorem Dvs.nil_iff {vs : List V} {ds : List D} (h : Dvs K H B vs ds) : vs = [] ↔ ds = [] := by
  cases h with
  | nil => simp
  | cons a b => simp
theorem or_add : OpR X (binaryOp .Add) (r2 .n X.K (binO .add)) := by
  rintro pins s σ H x y v u Q I rx ry ⟨B, dx, dy, d, t, bx, by_, e, f⟩
  cases dx <;> cases dy <;> first
    | (cases e; done)
    | skip
  case int.int i j => cases e; cases bx; cases by_; exact op_add pins s σ H _ _ v u Q I rx ry ⟨i, j, rfl, rfl, fin_int f⟩
  case str.str i j =>
    simp only [binO] at e
    split at e
    · rename_i l
      cases e
      cases bx with
      | str o1 =>
        cases by_ with
        | str o2 => exact op_add_str pins s σ H _ _ v u Q I rx ry ⟨_, _, rfl, rfl, by rw [tx_len, tx_len]; exact l, by rw [tx_app]; exact fin_str (o1.app o2 l) f⟩
    · cases e
  case lst.lst i j =>
    simp only [binO] at e
    split at e
    · rename_i l
      cases e
      obtain ⟨a, vs, rfl, h1, l1, d1⟩ := bx
      obtain ⟨b, ws, rfl, h2, l2, d2⟩ := by_
      exact op_cat pins s σ H _ _ v u Q I rx ry ⟨a, b, vs, ws, rfl, rfl, h1, h2, by rw [d1.length, d2.length]; exact l, fin_lst (by rw [List.length_append]; exact l) (d1.append d2) f⟩
    · cases e
  case tup.tup i j =>
    simp only [binO] at e
    split at e
    · rename_i l
      cases e
      cases bx with
      | @tup a vs _ n1 h1 l1 d1 =>
        cases by_ with
        | @tup b ws _ n2 h2 l2 d2 =>
          refine op_catF pins s σ H _ _ v u Q I rx ry ⟨a, b, vs, ws, rfl, rfl, h1.sq, h2.sq, by rw [d1.length, d2.length]; exact l, fun z => ?_, fun _ z => ?_, fin_tup t (by rw [List.length_append]; exact l) (d1.append d2) f⟩
          · have : i = [] := d1.nil_iff.mp z
            subst this
            exact f _ _ (Same.refl H) (.tup n2 h2 l2 d2)
          · have : j = [] := d2.nil_iff.mp z
            subst this
            rw [List.append_nil] at f
            exact f _ _ (Same.refl H) (.tup n1 h1 l1 d1)
    · cases e
theorem or_sub : OpR X (binaryOp .Sub) (r2 .n X.K (binO .sub)) := by
  rintro pins s σ H x y v u Q I rx ry ⟨B, dx, dy, d, t, bx, by_, e, f⟩
  cases dx <;> cases dy <;> first
    | (cases e; done)
    | skip
  case int.int i j => cases e; cases bx; cases by_; exact op_sub pins s σ H _ _ v u Q I rx ry ⟨i, j, rfl, rfl, fin_int f⟩
theorem or_fdiv : OpR X (binaryOp .FloorDiv) (r2 .n X.K (binO .fdiv)) := by
  rintro pins s σ H x y v u Q I rx ry ⟨B, dx, dy, d, t, bx, by_, e, f⟩
  cases dx <;> cases dy <;> first
    | (cases e; done)
    | skip
  case int.int i j =>
    simp only [binO] at e
    split at e
    · rename_i l
      cases e
      cases bx
      cases by_
      have l' : 0 < j ∧ j < 2 ^ 63 := by simpa using l
      exact op_fdivW pins s σ H _ _ v u Q I rx ry ⟨i, j, rfl, rfl, wide_div (b := 63) l'.1 (by omega) (by decide) (by decide), fin_int f⟩
    · cases e
theorem or_mod : OpR X (binaryOp .Mod) (r2 .n X.K (binO .mod)) := by
  rintro pins s σ H x y v u Q I rx ry ⟨B, dx, dy, d, t, bx, by_, e, f⟩
  cases dx <;> cases dy <;> first
    | (cases e; done)
    | skip
  case int.int i j =>
    simp only [binO] at e
    split at e
    · rename_i l
      cases e
      cases bx
      cases by_
      refine op_modN pins s σ H _ _ v u Q I rx ry ⟨i, j, rfl, rfl, by omega, ?_⟩
      show Q (.int (i.fmod j)) H
      rw [Int.fmod_eq_emod_of_nonneg i (by omega)]
      exact fin_int f
    · cases e
theorem or_pow : OpR X (binaryOp .Pow) (r2 .n X.K (binO .pow)) := by
  rintro pins s σ H x y v u Q I rx ry ⟨B, dx, dy, d, t, bx, by_, e, f⟩
  cases dx <;> cases dy <;> first
    | (cases e; done)
    | skip
  case int.int i j =>
    simp only [binO] at e
    split at e
    · rename_i l
      cases e
      cases bx
      cases by_
      have l' : (i.natAbs < 2 ^ 63 ∧ 0 ≤ j) ∧ j ≤ 1000 := by simpa using l
      exact op_pow pins s σ H _ _ v u Q I rx ry ⟨i, j, rfl, rfl, ⟨l'.1.2, by omega, by omega⟩, fin_int f⟩
    · cases e
theorem repL_rep {α : Type} (xs : List α) : ∀ n, (List.replicate n xs).flatten = repL xs n
  | 0 => rfl
  | n + 1 => by rw [List.replicate_succ, List.flatten_cons, repL_rep xs n]; rfl
theorem repL_len {α : Type} (xs : List α) : ∀ n, (repL xs n).length = xs.length * n
  | 0 => rfl
  | n + 1 => by unfold repL; rw [List.length_append, repL_len xs n, Nat.mul_succ]; omega
theorem repL_mem {α : Type} {xs : List α} {x : α} : ∀ {n}, x ∈ repL xs n → x ∈ xs
  | 0, h => by cases h
  | n + 1, h => by
    rcases List.mem_append.mp h with h | h
    · exact h
    · exact repL_mem h
theorem Dvs.rep {vs : List V} {ds : List D} (h : Dvs K H B vs ds) : ∀ n, Dvs K H B (repL vs n) (repL ds n)
  | 0 => .nil
  | n + 1 => h.append (h.rep n)
/-- a text times an int -/
theorem op_rep_str : OpR X (binaryOp .Mult) (fun x y H Q => ∃ (z : Tx) (j : Int), x = .str (tx z) ∧ y = .int j ∧ 0 ≤ j ∧ j ≤ 1000 ∧ z.length ≤ 1000 ∧ Q (.str (tx (repL z j.toNat))) H) := by
  rintro pins s σ H x y v u Q I rx ry ⟨z, j, rfl, rfl, h0, h1, hl, q⟩
  obtain ⟨t, rfl⟩ := rx
  obtain ⟨t', rfl⟩ := ry
  have ls : (tx z).length = z.length := tx_len z
  have sm : z.length * j.toNat ≤ 1000 * 1000 := Nat.mul_le_mul hl (by omega)
  have fr : ∀ (k : Nat) (acc : List Nat), (List.replicate k (tx z).cps).foldl (· ++ ·) acc.toArray = (acc ++ repL z k).toArray := by
    intro k
    induction k with
    | zero => intro acc; simp [repL]
    | succ k ih =>
      intro acc
      rw [List.replicate_succ, List.foldl_cons]
      have e1 : acc.toArray ++ (tx z).cps = (acc ++ z).toArray := by unfold tx; simp
      rw [e1, ih (acc ++ z)]
      show _ = (acc ++ (z ++ repL z k)).toArray
      rw [List.append_assoc]
  refine PySem.P.mul_str (by rw [decide_eq_false (by omega), decide_eq_false (by omega)]; rfl) (fun n1 n2 => ?_) (fun n1 n2 => ?_) ?_
  · rw [ls]
    have : (1000 : Int) ≤ (2 ^ 63 - 1) / j := by
      rw [Int.le_ediv_iff_mul_le (by omega)]
      omega
    omega
  · rw [ls]
    unfold PySem.Builtin.Str.tooLong
    have : (sizeLine : Nat) = 16777216 := by decide
    exact decide_eq_false (by omega)
  · by_cases h3 : j < 1
    · rw [if_pos h3]
      have e0 : j.toNat = 0 := by omega
      rw [e0] at q
      exact ⟨by decide, .str (tx (repL z 0)), H, I.tok _, ⟨_, rfl⟩, q⟩
    · rw [if_neg h3]
      by_cases h4 : (j == 1 || (tx z).length == 0) = true
      · rw [if_pos h4]
        have e : repL z j.toNat = z := by
          rw [Bool.or_eq_true] at h4
          rcases h4 with h4 | h4
          · have : j = 1 := by simpa using h4
            subst this
            show z ++ [] = z
            rw [List.append_nil]
          · rw [ls] at h4
            have : z = [] := by
              have h5 : z.length = 0 := by simpa using h4
              exact List.eq_nil_of_length_eq_zero h5
            subst this
            apply List.eq_nil_of_length_eq_zero
            rw [repL_len]
            simp
        rw [e] at q
        exact ⟨.str (tx z), H, I, ⟨_, rfl⟩, q⟩
      · rw [if_neg h4]
        have e := fr j.toNat []
        rw [List.nil_append] at e
        have e2 : (⟨(List.replicate j.toNat (tx z).cps).foldl (· ++ ·) #[]⟩ : Str) = tx (repL z j.toNat) := by
          unfold tx
          unfold tx at e
          exact congrArg Str.mk e
        rw [e2]
        exact ⟨by rw [tx_len, repL_len]; exact Nat.le_trans sm (by decide), .str (tx (repL z j.toNat)), H, I.tok _, ⟨_, rfl⟩, q⟩
/-- a tuple times an int -/
theorem op_repF : OpR X (binaryOp .Mult) (fun x y H Q => ∃ l k xs, x = .ref l ∧ y = .int k ∧ SqT X.K H l xs ∧ xs ≠ [] ∧ 2 ≤ k ∧ k ≤ 1000 ∧ xs.length ≤ 1000 ∧ ∀ p its, H p = none → Q (.ref p) (upd H p (.frz (tupO its) (.tup (repL xs k.toNat))))) := by
  rintro pins s σ H x y v u Q I rx ry ⟨l, k, xs, rfl, rfl, hT, hne, h1, h2, hz, q⟩
  cases rx
  obtain ⟨t, rfl⟩ := ry
  obtain ⟨its, r, ⟨⟨cls, dd, data, sl⟩, ho, hc, n, hd⟩, hs⟩ := I.tuple hT
  simp only at hc hd
  subst hc hd
  have hle : its.length = xs.length := r.length.symm
  have hi : its.toArray.isEmpty = false := by
    cases its with
    | nil => exact absurd (List.eq_nil_of_length_eq_zero hle.symm) hne
    | cons a b => rfl
  have hm : its.toArray.size * k.toNat ≤ 1000 * 1000 := by
    rw [List.size_toArray, hle]
    exact Nat.mul_le_mul hz (by omega)
  have hk : (k.toNat : Int) = k := by omega
  have hm2 : ((its.toArray.size : Nat) : Int) * k ≤ 1000 * 1000 := by
    rw [← hk]
    exact_mod_cast hm
  have sl' : (sizeLine : Nat) = 16777216 := by decide
  have hfl : ((List.replicate k.toNat its).flatten).length ≤ sizeLine := by
    rw [repL_rep, repL_len, hle]
    have : xs.length * k.toNat ≤ 1000 * 1000 := Nat.mul_le_mul hz (by omega)
    omega
  refine wpAny_binaryOp_repeat_ref (T := "tuple") (U := "int") (by decide) ⟨_, ho, rfl⟩ (fun s' => typeIs_int s' k t) noFill_tuple_mul F.fills_int_mul F.slot_int_rmul repeat_tuple F.slot_int_index.lookup
    (call_meets F.slot_int_rmul (typeIs_int s k t) F.entry_int_rmul (F.args_int_rmul_2 _ _) (int_rmul_tuple k t l its.toArray n dd sl)
      ⟨ho, rfl, ⟨_, ho, rfl⟩, call_meets F.slot_tuple_mul ⟨_, ho, rfl⟩ F.entry_tuple_mul (F.args_tuple_mul_2 _ _) (tuple_mulW l its.toArray n dd sl k t (by rw [decide_eq_false (by omega), decide_eq_false (by omega)]; rfl)
        (by rw [hi, Bool.false_or]; exact beq_eq_false_iff_ne.mpr (by omega)) (by rw [hi, Bool.or_false]; exact decide_eq_false (by omega)) (by omega) (by unfold Builtin.Tuple.tupleTooMany; exact decide_eq_false (by omega))
        (by rw [size_rep, List.size_toArray]; exact hfl)) ⟨ho, ?_⟩⟩)
  rw [size_rep]
  have q2 := q s.heap.objs.size (List.replicate k.toNat its).flatten I.fresh
  rw [← repL_rep] at q2
  refine ⟨.ref _, _, tnew (t' := s.toks) I (r.rep k.toNat) ?_, rfl, q2⟩
  rw [repL_rep, repL_len]
  have : xs.length * k.toNat ≤ 1000 * 1000 := Nat.mul_le_mul hz (by omega)
  omega
theorem or_mul : OpR X (binaryOp .Mult) (r2 .n X.K (binO .mul)) := by
  rintro pins s σ H x y v u Q I rx ry ⟨B, dx, dy, d, t, bx, by_, e, f⟩
  cases dx <;> cases dy <;> first
    | (cases e; done)
    | skip
  case int.int i j =>
    simp only [binO] at e
    split at e
    · rename_i l
      cases e
      cases bx
      cases by_
      have l' : i.natAbs < 2 ^ 63 ∨ j.natAbs < 2 ^ 63 := by simpa using l
      exact op_mul pins s σ H _ _ v u Q I rx ry ⟨i, j, rfl, rfl, l'.imp (fun z => by omega) fun z => by omega, fin_int f⟩
    · cases e
  case str.int i j =>
    simp only [binO] at e
    split at e
    · rename_i l
      cases e
      cases bx with
      | str o1 =>
        cases by_
        have l' : (0 ≤ j ∧ j ≤ 1000) ∧ i.length ≤ 1000 := by simpa using l
        have sm : i.length * j.toNat ≤ 1000 * 1000 := Nat.mul_le_mul l'.2 (by omega)
        exact op_rep_str pins s σ H _ _ v u Q I rx ry ⟨i, j, rfl, rfl, l'.1.1, l'.1.2, l'.2, fin_str ⟨by rw [repL_len]; exact Nat.le_trans sm (by decide), fun c hc => o1.2 c (repL_mem hc)⟩ f⟩
    · cases e
  case lst.int i j =>
    simp only [binO] at e
    split at e
    · rename_i l
      cases e
      obtain ⟨a, vs, rfl, h1, l1, d1⟩ := bx
      cases by_
      have l' : (0 ≤ j ∧ j < 2 ^ 60) ∧ i.length * j.toNat ≤ lim := by simpa using l
      refine op_rep pins s σ H _ _ v u Q I rx ry ⟨a, j, vs, rfl, rfl, h1, by omega, by omega, by rw [d1.length]; exact l'.2, ?_⟩
      rw [repL_rep]
      exact fin_lst (by rw [repL_len]; exact l'.2) (d1.rep _) f
    · cases e
  case tup.int i j =>
    simp only [binO] at e
    split at e
    · rename_i l
      cases e
      cases bx with
      | @tup a vs _ n1 h1 l1 d1 =>
        cases by_
        have l' : ((2 ≤ j ∧ j ≤ 1000) ∧ 0 < i.length) ∧ i.length ≤ 1000 := by simpa using l
        have sm : i.length * j.toNat ≤ 1000 * 1000 := Nat.mul_le_mul l'.2 (by omega)
        refine op_repF pins s σ H _ _ v u Q I rx ry ⟨a, j, vs, rfl, rfl, h1.sq, fun z => ?_, l'.1.1.1, l'.1.1.2, by rw [d1.length]; exact l'.2, fin_tup t (by rw [repL_len]; exact Nat.le_trans sm (by decide)) (d1.rep _) f⟩
        have : i = [] := d1.nil_iff.mp z
        subst this
        exact absurd l'.1.2 (by decide)
    · cases e
  case lst.bl i b =>
    cases e
    obtain ⟨a, vs, rfl, h1, l1, d1⟩ := bx
    cases by_
    refine op_mul_lb pins s σ H _ _ v u Q I rx ry ⟨a, vs, b, rfl, rfl, .inl (.inl h1), ?_⟩
    cases b with
    | true => exact fin_lst l1 d1 f
    | false => exact fin_lst (Nat.zero_le _) .nil f
end
end Mn
end
section
set_option Elab.async false
set_option linter.all false
set_option maxRecDepth 100000
set_option maxHeartbeats 4000000
set_option autoImplicit false
/-! D4: comparisons of trees. -/
namespace Mn
open PySem PySem.Spec L2
mutual
def toP : D → PyData
  | .non => .none
  | .bl b => .bool b
  | .int i => .int i
  | .str s => .str (tx s)
  | .tup xs => .tuple (toPL xs)
  | .lst xs => .list (toPL xs)
  | .dct _ _ => .dict []
  | .scr ns => .list (ns.map .int)
def toPL : List D → List PyData
  | [] => []
  | x :: xs => toP x :: toPL xs
end
theorem beq_sym (i n : Int) : (i == n) = (n == i) := by
  rw [Bool.eq_iff_iff, beq_iff_eq, beq_iff_eq]
  exact ⟨Eq.symm, Eq.symm⟩
theorem eqI_r : ∀ (xs : List D) (ns : List Int), plL xs = true → PyData.eqvAll (toPL xs) (ns.map .int) = eqI ns xs
  | [], [], _ => by simp [toPL, PyData.eqvAll, eqI]
  | [], _ :: _, _ => by simp [toPL, PyData.eqvAll, eqI]
  | x :: xs, [], _ => by simp [toPL, PyData.eqvAll, eqI]
  | x :: xs, n :: ns, h => by
    simp only [plL, Bool.and_eq_true] at h
    simp only [toPL, List.map_cons, PyData.eqvAll]
    rw [eqI_r xs ns h.2]
    cases x <;> simp [toP, PyData.eqv, eqI, Mn.b2i, D.pl] at h ⊢
    · rename_i b
      rw [beq_sym]
    · rename_i i
      rw [beq_sym]
theorem eqI_l : ∀ (xs : List D) (ns : List Int), plL xs = true → PyData.eqvAll (ns.map .int) (toPL xs) = eqI ns xs
  | [], [], _ => by simp [toPL, PyData.eqvAll, eqI]
  | [], _ :: _, _ => by simp [toPL, PyData.eqvAll, eqI]
  | x :: xs, [], _ => by simp [toPL, PyData.eqvAll, eqI]
  | x :: xs, n :: ns, h => by
    simp only [plL, Bool.and_eq_true] at h
    simp only [toPL, List.map_cons, PyData.eqvAll]
    rw [eqI_l xs ns h.2]
    cases x <;> simp [toP, PyData.eqv, eqI, Mn.b2i, D.pl] at h ⊢
theorem eqI_i : ∀ (ms ns : List Int), PyData.eqvAll (ms.map .int) (ns.map .int) = (ms == ns)
  | [], [] => by simp [PyData.eqvAll]
  | [], _ :: _ => by simp [PyData.eqvAll]
  | x :: xs, [] => by simp [PyData.eqvAll]
  | x :: xs, n :: ns => by
    simp only [List.map_cons, PyData.eqvAll, PyData.eqv]
    rw [eqI_i xs ns]
    rfl
mutual
theorem eqv_toP : ∀ x y : D, x.pl = true → y.pl = true → PyData.eqv (toP x) (toP y) = eqD x y
  | .non, y, _, h => by cases y <;> first | rfl | (simp [toP, PyData.eqv, eqD]; done) | (simp [D.pl] at h)
  | .bl a, y, _, h => by cases y <;> first | (simp [toP, PyData.eqv, eqD, Mn.b2i]; done) | (simp [D.pl] at h)
  | .int i, y, _, h => by cases y <;> first | (simp [toP, PyData.eqv, eqD, Mn.b2i]; done) | (simp [D.pl] at h)
  | .str s, y, _, h => by
    cases y <;> first
      | (simp [toP, PyData.eqv, eqD]; done)
      | (simp [D.pl] at h; done)
      | skip
    rename_i t
    simp only [toP, PyData.eqv, eqD]
    by_cases e : s = t
    · subst e; simp
    · have e2 : ¬ tx s = tx t := fun z => e (tx_inj z)
      rw [beq_eq_false_iff_ne.mpr e, beq_eq_false_iff_ne.mpr e2]
  | .tup xs, y, h1, h => by
    cases y <;> first
      | (simp [toP, PyData.eqv, eqD]; done)
      | (simp [D.pl] at h; done)
      | skip
    rename_i ys
    simp only [toP, PyData.eqv, eqD]
    exact eqv_toPL xs ys (by simpa [D.pl] using h1) (by simpa [D.pl] using h)
  | .lst xs, y, h1, h => by
    cases y <;> first
      | (simp [toP, PyData.eqv, eqD]; done)
      | (simp [D.pl] at h; done)
      | skip
    · rename_i ys
      simp only [toP, PyData.eqv, eqD]
      exact eqv_toPL xs ys (by simpa [D.pl] using h1) (by simpa [D.pl] using h)
    · rename_i ns
      simp only [toP, PyData.eqv, eqD]
      exact eqI_r xs ns (by simpa [D.pl] using h1)
  | .dct _ _, _, h, _ => by simp [D.pl] at h
  | .scr ns, y, h1, h => by
    cases y <;> first
      | (simp [toP, PyData.eqv, eqD]; done)
      | (simp [D.pl] at h; done)
      | skip
    · rename_i xs
      simp only [toP, PyData.eqv, eqD]
      exact eqI_l xs ns (by simpa [D.pl] using h)
    · rename_i ms
      simp only [toP, PyData.eqv, eqD]
      exact eqI_i ns ms
theorem eqv_toPL : ∀ xs ys : List D, plL xs = true → plL ys = true → PyData.eqvAll (toPL xs) (toPL ys) = eqL xs ys
  | [], [], _, _ => by simp [toPL, PyData.eqvAll, eqL]
  | [], _ :: _, _, _ => by simp [toPL, PyData.eqvAll, eqL]
  | _ :: _, [], _, _ => by simp [toPL, PyData.eqvAll, eqL]
  | x :: xs, y :: ys, h1, h2 => by
    simp only [plL, Bool.and_eq_true] at h1 h2
    simp only [toPL, PyData.eqvAll, eqL]
    rw [eqv_toP x y h1.1 h2.1, eqv_toPL xs ys h1.2 h2.2]
end
section
variable {K : Frag} {H : Hp} {B : Addr → Prop}
theorem dp_ints (ns : List Int) : DpAll K H (ns.map V.int) (ns.map PyData.int) := by
  induction ns with
  | nil => exact .nil
  | cons n ns ih => exact .cons (.int n) ih
mutual
theorem dp_of : ∀ (d : D) (v : V), d.pl = true → Bor K H B v d → Dp K H v (toP d)
  | .non, _, _, h => by cases h; exact .non
  | .bl _, _, _, h => by cases h; exact .bl _
  | .int _, _, _, h => by cases h; exact .int _
  | .str _, _, _, h => by cases h; exact .str _
  | .tup ds, _, p, h => by
    cases h with
    | tup h1 h2 h3 h4 => exact .tup h2.sq (dpL_of ds _ (by simpa [D.pl] using p) h4.bors)
  | .lst ds, _, p, h => by
    obtain ⟨a, vs, rfl, h2, h3, h4⟩ := h
    exact .lst (.inl (.inl h2)) (dpL_of ds _ (by simpa [D.pl] using p) h4.bors)
  | .dct _ _, _, p, _ => by simp [D.pl] at p
  | .scr ns, _, _, h => by
    cases h with
    | scr h1 h2 => exact .lst (h1.imp And.right id) (dp_ints ns)
theorem dpL_of : ∀ (ds : List D) (vs : List V), plL ds = true → Bors K H B vs ds → DpAll K H vs (toPL ds)
  | [], _, _, h => by cases h; exact .nil
  | d :: ds, _, p, h => by
    simp only [plL, Bool.and_eq_true] at p
    cases h with
    | cons a b => exact .cons (dp_of d _ p.1 a) (dpL_of ds _ p.2 b)
end
theorem okTx.strOk {s : Tx} (h : okTx s) : PyData.strOk (tx s) = true := by
  unfold PyData.strOk tx
  simp only [List.all_toArray, List.all_eq_true, decide_eq_true_eq]
  exact fun c hc => h.2 c hc
theorem can_ints (ns : List Int) : PyData.canLayAll0 (ns.map PyData.int) = true := by
  induction ns with
  | nil => simp [PyData.canLayAll0]
  | cons n ns ih => simp [PyData.canLayAll0, PyData.canLay0, ih]
mutual
theorem can_of : ∀ (d : D) (v : V), d.pl = true → Bor K H B v d → PyData.canLay0 (toP d) = true
  | .non, _, _, h => by simp [toP, PyData.canLay0]
  | .bl _, _, _, h => by simp [toP, PyData.canLay0]
  | .int _, _, _, h => by simp [toP, PyData.canLay0]
  | .str _, _, _, h => by
    cases h with
    | str o => simp only [toP, PyData.canLay0]; exact o.strOk
  | .tup ds, _, p, h => by
    cases h with
    | tup h1 h2 h3 h4 => simp only [toP, PyData.canLay0]; exact canL_of ds _ (by simpa [D.pl] using p) h4.bors
  | .lst ds, _, p, h => by
    obtain ⟨a, vs, rfl, h2, h3, h4⟩ := h
    simp only [toP, PyData.canLay0]
    exact canL_of ds _ (by simpa [D.pl] using p) h4.bors
  | .dct _ _, _, p, _ => by simp [D.pl] at p
  | .scr ns, _, _, h => by simp only [toP, PyData.canLay0]; exact can_ints ns
theorem canL_of : ∀ (ds : List D) (vs : List V), plL ds = true → Bors K H B vs ds → PyData.canLayAll0 (toPL ds) = true
  | [], _, _, h => by simp [toPL, PyData.canLayAll0]
  | d :: ds, _, p, h => by
    simp only [plL, Bool.and_eq_true] at p
    cases h with
    | cons a b => simp only [toPL, PyData.canLayAll0, Bool.and_eq_true]; exact ⟨can_of d _ p.1 a, canL_of ds _ p.2 b⟩
end
theorem dep_ints : ∀ ns : List Int, PyData.depthAll (ns.map PyData.int) = 0
  | [] => by simp [PyData.depthAll]
  | n :: ns => by simp [PyData.depthAll, PyData.depth, dep_ints ns]
mutual
theorem dep_toP : ∀ d : D, d.pl = true → (toP d).depth = d.dep
  | .non, _ => by simp [toP, PyData.depth, D.dep]
  | .bl _, _ => by simp [toP, PyData.depth, D.dep]
  | .int _, _ => by simp [toP, PyData.depth, D.dep]
  | .str _, _ => by simp [toP, PyData.depth, D.dep]
  | .tup ds, p => by simp only [toP, PyData.depth, D.dep]; rw [depL_toP ds (by simpa [D.pl] using p)]
  | .lst ds, p => by simp only [toP, PyData.depth, D.dep]; rw [depL_toP ds (by simpa [D.pl] using p)]
  | .dct _ _, p => by simp [D.pl] at p
  | .scr ns, _ => by simp only [toP, PyData.depth, D.dep]; rw [dep_ints]
theorem depL_toP : ∀ ds : List D, plL ds = true → PyData.depthAll (toPL ds) = depL ds
  | [], _ => by simp [toPL, PyData.depthAll, depL]
  | d :: ds, p => by
    simp only [plL, Bool.and_eq_true] at p
    simp only [toPL, PyData.depthAll, depL]
    rw [dep_toP d p.1, depL_toP ds p.2]
end
theorem shaped_of {d : D} {v : V} (o : okEq d = true) (h : Bor K H B v d) : SeqAt.shaped (toP d) = true := by
  unfold okEq at o
  rw [Bool.and_eq_true, decide_eq_true_eq] at o
  unfold SeqAt.shaped
  rw [can_of d v o.1 h, dep_toP d o.1]
  simpa using o.2
theorem okEq.pl {d : D} (o : okEq d = true) : d.pl = true := by
  unfold okEq at o
  rw [Bool.and_eq_true] at o
  exact o.1
end
section
variable {X : Cx} {K : Frag} {H : Hp} {B : Addr → Prop} {Q : VK}
theorem or_eq (hu : X.A.units + 64 < cLine) : OpR X (compareOp .Eq) (r2 .v X.K fun x y => (cmpO .eq x y).map .bl) := by
  rintro pins s σ H x y v u Q I rx ry ⟨B, dx, dy, d, t, bx, by_, e, f⟩
  simp only [cmpO, eqO] at e
  split at e
  · rename_i o
    rw [Bool.and_eq_true] at o
    cases e
    refine op_eqD hu pins s σ H _ _ v u Q I rx ry ⟨toP dx, toP dy, dp_of _ _ (okEq.pl o.1) bx, dp_of _ _ (okEq.pl o.2) by_, shaped_of o.1 bx, shaped_of o.2 by_, ?_⟩
    rw [eqv_toP _ _ (okEq.pl o.1) (okEq.pl o.2)]
    exact fin_blv f
  · cases e
theorem or_ne (hu : X.A.units + 64 < cLine) : OpR X (compareOp .NotEq) (r2 .v X.K fun x y => (cmpO .ne x y).map .bl) := by
  rintro pins s σ H x y v u Q I rx ry ⟨B, dx, dy, d, t, bx, by_, e, f⟩
  simp only [cmpO, eqO] at e
  split at e
  · rename_i o
    rw [Bool.and_eq_true] at o
    cases e
    refine op_neD hu pins s σ H _ _ v u Q I rx ry ⟨toP dx, toP dy, dp_of _ _ (okEq.pl o.1) bx, dp_of _ _ (okEq.pl o.2) by_, shaped_of o.1 bx, shaped_of o.2 by_, ?_⟩
    rw [eqv_toP _ _ (okEq.pl o.1) (okEq.pl o.2)]
    exact fin_blv f
  · cases e
theorem ltTx_eq : ∀ a b : Tx, decide (a < b) = ltTx a b
  | _, [] => by simp [ltTx]
  | [], _ :: _ => by simp [ltTx]
  | a :: as, b :: bs => by
    unfold ltTx
    rw [← ltTx_eq as bs]
    by_cases h1 : a < b
    · simp [h1, List.cons_lt_cons_iff]
    · by_cases h2 : b < a
      · have h3 : ¬ a = b := by omega
        simp [h1, h2, List.cons_lt_cons_iff, h3]
      · have h3 : a = b := by omega
        subst h3
        simp [List.cons_lt_cons_iff]
theorem or_lt : OpR X (compareOp .Lt) (r2 .v X.K fun x y => (cmpO .lt x y).map .bl) := by
  rintro pins s σ H x y v u Q I rx ry ⟨B, dx, dy, d, t, bx, by_, e, f⟩
  cases dx <;> cases dy <;> simp only [cmpO, ltO] at e <;> first
    | (cases e; done)
    | skip
  case int.int i j => cases e; cases bx; cases by_; exact op_lt pins s σ H _ _ v u Q I rx ry ⟨i, j, rfl, rfl, fin_blv f⟩
  case str.str i j =>
    cases e
    cases bx
    cases by_
    refine op_lt_str pins s σ H _ _ v u Q I rx ry ⟨_, _, rfl, rfl, ?_⟩
    rw [tx_cps, tx_cps, ltTx_eq]
    exact fin_blv f
theorem or_gt : OpR X (compareOp .Gt) (r2 .v X.K fun x y => (cmpO .gt x y).map .bl) := by
  rintro pins s σ H x y v u Q I rx ry ⟨B, dx, dy, d, t, bx, by_, e, f⟩
  cases dx <;> cases dy <;> simp only [cmpO, ltO] at e <;> first
    | (cases e; done)
    | skip
  case int.int i j => cases e; cases bx; cases by_; exact op_gt pins s σ H _ _ v u Q I rx ry ⟨i, j, rfl, rfl, fin_blv f⟩
  case str.str i j =>
    cases e
    cases bx
    cases by_
    refine op_gt_str pins s σ H _ _ v u Q I rx ry ⟨_, _, rfl, rfl, ?_⟩
    rw [tx_cps, tx_cps, ltTx_eq]
    exact fin_blv f
theorem or_le : OpR X (compareOp .LtE) (r2 .v X.K fun x y => (cmpO .le x y).map .bl) := by
  rintro pins s σ H x y v u Q I rx ry ⟨B, dx, dy, d, t, bx, by_, e, f⟩
  cases dx <;> cases dy <;> simp only [cmpO, leO] at e <;> first
    | (cases e; done)
    | skip
  case int.int i j => cases e; cases bx; cases by_; exact op_le pins s σ H _ _ v u Q I rx ry ⟨i, j, rfl, rfl, fin_blv f⟩
  case str.str i j =>
    cases e
    cases bx
    cases by_
    refine op_le_str pins s σ H _ _ v u Q I rx ry ⟨_, _, rfl, rfl, ?_⟩
    rw [tx_cps, tx_cps, ltTx_eq]
    exact fin_blv f
theorem or_ge : OpR X (compareOp .GtE) (r2 .v X.K fun x y => (cmpO .ge x y).map .bl) := by
  rintro pins s σ H x y v u Q I rx ry ⟨B, dx, dy, d, t, bx, by_, e, f⟩
  cases dx <;> cases dy <;> simp only [cmpO, leO] at e <;> first
    | (cases e; done)
    | skip
  case int.int i j => cases e; cases bx; cases by_; exact op_ge pins s σ H _ _ v u Q I rx ry ⟨i, j, rfl, rfl, fin_blv f⟩
  case str.str i j =>
    cases e
    cases bx
    cases by_
    refine op_ge_str pins s σ H _ _ v u Q I rx ry ⟨_, _, rfl, rfl, ?_⟩
    rw [tx_cps, tx_cps, ltTx_eq]
    exact fin_blv f
theorem flat_dv {x : D} {v : V} (fx : flat x = true) (h : Bor K H B v x) : flatV v = true ∧ Dv K H B v x := by
  cases x <;> first
    | (cases fx; done)
    | exact ⟨by cases h; rfl, h⟩
theorem eqV_eq {x y : D} {v w : V} (fx : flat x = true) (fy : flat y = true) (hx : Dv K H B v x) (hy : Dv K H B w y) : eqV v w = eqD x y := by
  cases x <;> first
    | (cases fx; done)
    | (cases y <;> first
        | (cases fy; done)
        | (cases hx; cases hy; simp [eqV, eqD, Mn.b2i]; done)
        | skip)
  rename_i s t
  cases hx
  cases hy
  simp only [eqV, eqD]
  by_cases e : s = t
  · subst e; simp
  · have e2 : ¬ tx s = tx t := fun z => e (tx_inj z)
    rw [beq_eq_false_iff_ne.mpr e, beq_eq_false_iff_ne.mpr e2]
theorem flats_dv {ds : List D} {vs : List V} (fx : ds.all flat = true) (h : Dvs K H B vs ds) : vs.all flatV = true := by
  induction ds generalizing vs with
  | nil => cases h; rfl
  | cons d ds ih =>
    rw [List.all_cons, Bool.and_eq_true] at fx
    cases h with
    | cons a b => rw [List.all_cons, (flat_dv fx.1 a.bor).1, ih fx.2 b]; rfl
theorem inV_eq {x : D} {v : V} {ds : List D} {vs : List V} (f1 : flat x = true) (hx : Dv K H B v x) (fx : ds.all flat = true) (h : Dvs K H B vs ds) : inV v vs = inL x ds := by
  induction ds generalizing vs with
  | nil => cases h; rfl
  | cons d ds ih =>
    rw [List.all_cons, Bool.and_eq_true] at fx
    cases h with
    | @cons w ws _ _ a b =>
      show (w :: ws).any (fun y => eqV y v) = _
      rw [List.any_cons, eqV_eq fx.1 f1 a hx]
      show (eqD d x || inV v ws) = (eqD d x || inL x ds)
      rw [ih fx.2 b]
end
end Mn
end
section
set_option Elab.async false
set_option linter.all false
set_option maxRecDepth 100000
set_option maxHeartbeats 4000000
set_option autoImplicit false
/-! D5: in, is; items, slices. -/
namespace Mn
open PySem PySem.Spec L2
abbrev kvs (ks : List Tx) (vs : List V) : List (Key × V) := (ks.map fun k => (Sum.inr (tx k) : Key)).zip vs
def assocV (k : Tx) : List Tx → List V → Option V
  | a :: as, v :: vs => if a = k then some v else assocV k as vs
  | _, _ => none
theorem key_eq (a k : Tx) : decide ((Sum.inr (tx a) : Key) = Sum.inr (tx k)) = decide (a = k) := by
  by_cases e : a = k
  · subst e; simp
  · have e2 : ¬ (Sum.inr (tx a) : Key) = Sum.inr (tx k) := fun z => e (tx_inj (Sum.inr.inj z))
    rw [decide_eq_false e, decide_eq_false e2]
theorem valV_kvs (k : Tx) : ∀ (ks : List Tx) (vs : List V), valV (kvs ks vs) (Sum.inr (tx k)) = assocV k ks vs
  | [], _ => rfl
  | _ :: _, [] => rfl
  | a :: as, v :: vs => by
    unfold valV assocV
    show Option.map _ (((Sum.inr (tx a) : Key), v) :: kvs as vs |>.find? _) = _
    rw [List.find?_cons]
    simp only [key_eq]
    by_cases e : a = k
    · rw [decide_eq_true e, if_pos e]; rfl
    · rw [decide_eq_false e, if_neg e]
      exact valV_kvs k as vs
section
variable {X : Cx} {K : Frag} {H : Hp} {B : Addr → Prop} {Q : VK}
theorem assoc_some (k : Tx) : ∀ {ks : List Tx} {vs : List V} {ds : List D} {d : D}, Dvs K H B vs ds → assocD k ks ds = some d → ∃ v, assocV k ks vs = some v ∧ Dv K H B v d
  | [], _, _, _, _, e => by cases e
  | _ :: _, _, _, _, .nil, e => by cases e
  | a :: as, _, _, d, .cons h t, e => by
    unfold assocD at e
    unfold assocV
    by_cases z : a = k
    · rw [if_pos (by simpa using z)] at e
      cases e
      exact ⟨_, if_pos z, h⟩
    · rw [if_neg (by simpa using z)] at e
      rw [if_neg z]
      exact assoc_some k t e
theorem assoc_none (k : Tx) : ∀ {ks : List Tx} {vs : List V} {ds : List D}, Dvs K H B vs ds → assocD k ks ds = none → assocV k ks vs = none
  | [], _, _, _, _ => rfl
  | _ :: _, _, _, .nil, _ => rfl
  | a :: as, _, _, .cons h t, e => by
    unfold assocD at e
    unfold assocV
    by_cases z : a = k
    · rw [if_pos (by simpa using z)] at e
      cases e
    · rw [if_neg (by simpa using z)] at e
      rw [if_neg z]
      exact assoc_none k t e
theorem assoc_mem (k : Tx) : ∀ (ks : List Tx) (vs : List V), ks.length = vs.length → (assocV k ks vs).isSome = decide (k ∈ ks)
  | [], _, _ => by simp [assocV]
  | _ :: _, [], h => by simp at h
  | a :: as, v :: vs, h => by
    unfold assocV
    by_cases z : a = k
    · subst z; simp
    · rw [if_neg z, assoc_mem k as vs (by simpa using h)]
      have z2 : ¬ k = a := fun e => z e.symm
      simp [z2]
/-- what in asks of its two operands, both answers -/
theorem or_inG (neg : Bool) (op : CmpOp) (ho : op = if neg then .NotIn else .In) (hu : X.A.units + 1 < cLine) : OpR X (compareOp op) (r2 .v X.K fun x y => ((inO x y).map fun b => if neg then !b else b).map .bl) := by
  rintro pins s σ H x y v u Q I rx ry ⟨B, dx, dy, d, t, bx, by_, e, f⟩
  have sgn : ∀ c (y : Tx), dx = .str [c] → dy = .str y → wpAny (model X.prog X.w) X.A (compareOp op v u) (EP X pins σ Q) X.xe s := by
    rintro c y rfl rfl
    simp only [inO, Option.map_some, Option.some.injEq] at e
    subst e
    cases bx
    cases by_
    cases neg with
    | false =>
      subst ho
      refine op_in_sign pins s σ H _ _ v u Q I rx ry ⟨c, _, rfl, rfl, ?_⟩
      rw [tx_cps]
      exact fin_blv f
    | true =>
      subst ho
      refine op_notIn_sign pins s σ H _ _ v u Q I rx ry ⟨c, _, rfl, rfl, ?_⟩
      rw [tx_cps]
      exact fin_blv f
  have seqv : ∀ ys, (dy = .lst ys ∨ dy = .tup ys) → flat dx = true → ys.all flat = true → d = .bl (if neg then !inL dx ys else inL dx ys) → wpAny (model X.prog X.w) X.A (compareOp op v u) (EP X pins σ Q) X.xe s := by
    rintro ys hy f1 f2 rfl
    have hx := flat_dv f1 bx
    obtain ⟨p, ws, rfl, hq, dw⟩ : ∃ p ws, y = .ref p ∧ (SqL X.K H p ws ∨ SqT X.K H p ws) ∧ Dvs X.K H B ws ys := by
      rcases hy with rfl | rfl
      · obtain ⟨a, vs, rfl, h1, _, h2⟩ := by_
        exact ⟨a, vs, rfl, .inl (.inl (.inl h1)), h2⟩
      · cases by_ with
        | tup h0 h1 _ h2 => exact ⟨_, _, rfl, .inr h1.sq, h2⟩
    have q : Q (.bl (if neg then !inV x ws else inV x ws)) H := by
      rw [inV_eq f1 hx.2 f2 dw]
      exact fin_blv f
    cases neg with
    | false => subst ho; exact op_in_seq pins s σ H _ _ v u Q I rx ry ⟨p, ws, rfl, hq, hx.1, flats_dv f2 dw, q⟩
    | true => subst ho; exact op_notIn_seq pins s σ H _ _ v u Q I rx ry ⟨p, ws, rfl, hq, hx.1, flats_dv f2 dw, q⟩
  have din : ∀ (k : Tx) (ks : List Tx) (vs : List D), dx = .str k → dy = .dct ks vs → d = .bl (if neg then !decide (k ∈ ks) else decide (k ∈ ks)) → wpAny (model X.prog X.w) X.A (compareOp op v u) (EP X pins σ Q) X.xe s := by
    rintro k ks vs rfl rfl rfl
    cases bx
    obtain ⟨a, ws, rfl, h1, h2, h3, h4, h5, h6⟩ := by_
    obtain rfl : u = Value.ref a := ry
    have g : DGet H a (.str (tx k)) (assocV k ks ws) := .inl ⟨_, Sum.inr (tx k), h1, rfl, (valV_kvs k ks ws).symm⟩
    have m := assoc_mem k ks ws h3
    cases neg with
    | false => subst ho; exact d_in hu I g rx fun s3 I3 => ⟨.bl _, H, I3, rfl, by rw [m]; exact fin_blv f⟩
    | true => subst ho; exact d_notIn hu I g rx fun s3 I3 => ⟨.bl _, H, I3, rfl, by rw [m]; exact fin_blv f⟩
  cases dy with
  | str y =>
    cases dx with
    | str z =>
      match z, e with
      | [c], e => exact sgn c y rfl rfl
      | [], e => cases e
      | _ :: _ :: _, e => cases e
    | _ => cases e
  | lst ys =>
    by_cases z : (flat dx && ys.all flat) = true
    · simp only [inO, if_pos z, Option.map_some, Option.some.injEq] at e
      rw [Bool.and_eq_true] at z
      exact seqv ys (.inl rfl) z.1 z.2 e.symm
    · simp only [inO, if_neg z] at e
      cases e
  | tup ys =>
    by_cases z : (flat dx && ys.all flat) = true
    · simp only [inO, if_pos z, Option.map_some, Option.some.injEq] at e
      rw [Bool.and_eq_true] at z
      exact seqv ys (.inr rfl) z.1 z.2 e.symm
    · simp only [inO, if_neg z] at e
      cases e
  | dct ks vs =>
    cases dx with
    | str k => exact din k ks vs rfl rfl (Option.some.inj e).symm
    | _ => cases e
  | _ => cases e
theorem or_in (hu : X.A.units + 1 < cLine) : OpR X (compareOp .In) (r2 .v X.K fun x y => (cmpO .isIn x y).map .bl) := by
  have h := or_inG (X := X) false .In rfl hu
  rintro pins s σ H x y v u Q I rx ry ⟨B, dx, dy, d, t, bx, by_, e, f⟩
  refine h pins s σ H x y v u Q I rx ry ⟨B, dx, dy, d, t, bx, by_, ?_, f⟩
  rw [← e]
  show ((inO dx dy).map fun b => b).map D.bl = (inO dx dy).map D.bl
  cases inO dx dy <;> rfl
theorem or_notIn (hu : X.A.units + 1 < cLine) : OpR X (compareOp .NotIn) (r2 .v X.K fun x y => (cmpO .notIn x y).map .bl) := or_inG (X := X) true .NotIn rfl hu
/-! is -/
def nonD : D → Bool
  | .non => true
  | _ => false
theorem non_iff {x : D} {v : V} (h : Bor K H B v x) : decide (v = .non) = nonD x := by
  cases x <;> first
    | (cases h; rfl)
    | (obtain ⟨a, vs, rfl, _⟩ := h; rfl)
theorem or_is : OpR X (compareOp .Is) (r2 .v X.K fun x y => (cmpO .is x y).map .bl) := by
  rintro pins s σ H x y v u Q I rx ry ⟨B, dx, dy, d, t, bx, by_, e, f⟩
  cases dy <;> first
    | (cases e; done)
    | skip
  · cases by_
    refine op_isN pins s σ H _ _ v u Q I rx ry ⟨rfl, ?_⟩
    rw [non_iff bx]
    have e' : d = .bl (nonD dx) := by
      cases dx <;> exact (Option.some.inj e).symm
    subst e'
    exact fin_blv f
  · rename_i b
    cases by_
    cases dx <;> first
      | (cases e; done)
      | skip
    cases bx
    cases e
    exact op_isBl pins s σ H _ _ v u Q I rx ry ⟨_, _, rfl, rfl, fin_blv f⟩
theorem or_isNot : OpR X (compareOp .IsNot) (r2 .v X.K fun x y => (cmpO .isNot x y).map .bl) := by
  rintro pins s σ H x y v u Q I rx ry ⟨B, dx, dy, d, t, bx, by_, e, f⟩
  cases dy <;> first
    | (cases e; done)
    | skip
  · cases by_
    refine op_notN pins s σ H _ _ v u Q I rx ry ⟨rfl, ?_⟩
    rw [non_iff bx]
    have e' : d = .bl (!(nonD dx)) := by
      cases dx <;> exact (Option.some.inj e).symm
    subst e'
    exact fin_blv f
  · rename_i b
    cases by_
    cases dx <;> first
      | (cases e; done)
      | skip
    cases bx
    cases e
    exact op_notBl pins s σ H _ _ v u Q I rx ry ⟨_, _, rfl, rfl, fin_blv f⟩
/-- every comparison -/
def copOf : CmpOp → Cop
  | .Eq => .eq
  | .NotEq => .ne
  | .Lt => .lt
  | .LtE => .le
  | .Gt => .gt
  | .GtE => .ge
  | .In => .isIn
  | .NotIn => .notIn
  | .Is => .is
  | .IsNot => .isNot
theorem or_cmp (hu : X.A.units + 64 < cLine) (op : CmpOp) : OpR X (compareOp op) (r2 .v X.K fun x y => (cmpO (copOf op) x y).map .bl) := by
  cases op with
  | Eq => exact or_eq hu
  | NotEq => exact or_ne hu
  | Lt => exact or_lt
  | LtE => exact or_le
  | Gt => exact or_gt
  | GtE => exact or_ge
  | In => exact or_in (by omega)
  | NotIn => exact or_notIn (by omega)
  | Is => exact or_is
  | IsNot => exact or_isNot
def bopOf : Operator → Option Bop
  | .Add => some .add
  | .Sub => some .sub
  | .Mult => some .mul
  | .FloorDiv => some .fdiv
  | .Mod => some .mod
  | .Pow => some .pow
  | _ => none
theorem or_bin (op : Operator) (o : Bop) (h : bopOf op = some o) : OpR X (binaryOp op) (r2 .n X.K (binO o)) := by
  cases op <;> cases h
  · exact or_add
  · exact or_sub
  · exact or_mul
  · exact or_mod
  · exact or_pow
  · exact or_fdiv
end
end Mn
end
section
set_option Elab.async false
set_option linter.all false
set_option maxRecDepth 100000
set_option maxHeartbeats 4000000
set_option autoImplicit false
/-! D6: names, logic, items, slices, displays. -/
namespace Mn
open PySem PySem.Spec L2
section
variable {X : Cx} {K : Frag} {cv : Nat → Value} {W : WX} {e a b c : Expr} {pos : Pos} {f g h : Env → M D}
def fVar (i : Nat) : Env → M D := fun ρ => match ρ[i]? with
  | some (.sh d) => rt d
  | _ => none
def fBor (i : Nat) : Env → M D := fun ρ => match ρ[i]? with
  | some (.sh d) => rt d
  | some (.ow d) => rt d
  | _ => none
theorem pe_varD {i : Nat} {x : Str} (hN : X.N[i]? = some x) (hv : Vis X.env.scope x) (hd : (x == ("__debug__" : Str)) = false) (hcd : (x == ("__classdict__" : Str)) = false) : PE X (.Name x pos) (rd .v K cv W (fVar i)) := by
  refine pe_imp (pe_var hN hv hd hcd) ?_
  rintro σ H Q ⟨B, H0, ρ, r, rep, e, fin⟩
  unfold fVar at e
  split at e
  · rename_i d q
    cases e
    obtain ⟨v, e1, dv⟩ := rep.sh i d q
    exact ⟨v, e1, fin v H (Same.refl H) dv⟩
  · cases e
theorem pe_borD {i : Nat} {x : Str} (hN : X.N[i]? = some x) (hv : Vis X.env.scope x) (hd : (x == ("__debug__" : Str)) = false) (hcd : (x == ("__classdict__" : Str)) = false) : PE X (.Name x pos) (rd .b K cv W (fBor i)) := by
  refine pe_imp (pe_var hN hv hd hcd) ?_
  rintro σ H Q ⟨B, H0, ρ, r, rep, e, fin⟩
  unfold fBor at e
  split at e
  · rename_i d q
    cases e
    obtain ⟨v, e1, dv⟩ := rep.sh i d q
    exact ⟨v, e1, fin v H (Same.refl H) dv.bor⟩
  · rename_i d q
    cases e
    obtain ⟨a, e1, h0, hb, ho⟩ := rep.ow i d q
    refine ⟨_, e1, fin _ H (Same.refl H) ?_⟩
    cases d <;> first
      | exact ho.elim
      | (obtain ⟨vs, h, l, z⟩ := ho; exact ⟨a, vs, rfl, h, l, z⟩)
      | (obtain ⟨vs, h, l, l2, n2, o2, z⟩ := ho; exact ⟨a, vs, rfl, .inl h, l, l2, n2, o2, z⟩)
  · cases e
/-- a constant -/
theorem pe_cstD {v : V} {d : D} (hp : PE X e (tC v)) (hd : ∀ H B, Dv K H B v d) : PE X e (rd .v K cv W fun _ => rt d) := by
  refine pe_imp hp ?_
  rintro σ H Q ⟨B, H0, ρ, r, rep, e, fin⟩
  cases e
  exact fin v H (Same.refl H) (hd H _)
theorem pe_negD (ha : PE X a (rd .b K cv W f)) : PE X (.UnaryOp .USub a pos) (rd .v K cv W fun ρ => bd (f ρ) fun x => match x with
    | .int i => rt (.int (-i))
    | _ => none) := by
  refine pe_imp (pe_un un_neg ha) ?_
  rintro σ H Q ⟨B, H0, ρ, r, rep, e, fin⟩
  rcases bd_inv e with ⟨x, hf, e⟩ | ⟨c, hf, rfl⟩
  · refine ⟨B, H0, ρ, _, rep, hf, fun v H1 s1 bv => ?_⟩
    cases x <;> first
      | (cases e; done)
      | skip
    cases e
    cases bv
    exact ⟨_, rfl, fin _ H1 s1 (.int _)⟩
  · exact ⟨B, H0, ρ, _, rep, hf, fin⟩
/-! ### logic: tests and values -/
def fNot (f : Env → M D) : Env → M D := fun ρ => bd (f ρ) fun x => match x with
  | .bl b => rt (.bl (!b))
  | _ => none
def fAnd (f g : Env → M D) : Env → M D := fun ρ => bd (f ρ) fun x => match x with
  | .bl true => g ρ
  | .bl false => rt (.bl false)
  | _ => none
def fOr (f g : Env → M D) : Env → M D := fun ρ => bd (f ρ) fun x => match x with
  | .bl false => g ρ
  | .bl true => rt (.bl true)
  | _ => none
def fIte (f g h : Env → M D) : Env → M D := fun ρ => bd (f ρ) fun x => match x with
  | .bl true => g ρ
  | .bl false => h ρ
  | _ => none
theorem pt_notD (ha : PT X a (rdT K cv W f)) : PT X (.UnaryOp .Not a pos) (rdT K cv W (fNot f)) := by
  refine pt_imp (pt_not ha) ?_
  rintro σ H Q ⟨B, H0, ρ, r, rep, e, fin⟩
  rcases bd_inv e with ⟨x, hf, e⟩ | ⟨c, hf, rfl⟩
  · cases x <;> first
      | (cases e; done)
      | skip
    cases e
    obtain ⟨b, eb, q⟩ := fin
    cases eb
    exact ⟨B, H0, ρ, _, rep, hf, _, rfl, q⟩
  · exact ⟨B, H0, ρ, _, rep, hf, fin⟩
theorem pe_notD (ha : PE X a (rd .v K cv W f)) : PE X (.UnaryOp .Not a pos) (rd .v K cv W (fNot f)) := by
  refine pe_imp (pe_not ha) ?_
  rintro σ H Q ⟨B, H0, ρ, r, rep, e, fin⟩
  rcases bd_inv e with ⟨x, hf, e⟩ | ⟨c, hf, rfl⟩
  · cases x <;> first
      | (cases e; done)
      | skip
    cases e
    refine ⟨B, H0, ρ, _, rep, hf, fun v H1 s1 bv => ?_⟩
    cases bv
    exact ⟨_, rfl, fin _ H1 s1 (.bl _)⟩
  · exact ⟨B, H0, ρ, _, rep, hf, fin⟩
variable {rest : List Expr}
theorem pe_andD (ha : PE X a (rd .v K cv W f)) (hb : PE X (.BoolOp .And (b :: rest) pos) (rd .v K cv W g)) : PE X (.BoolOp .And (a :: b :: rest) pos) (rd .v K cv W (fAnd f g)) := by
  refine pe_imp (pe_and ha hb) ?_
  rintro σ H Q ⟨B, H0, ρ, r, rep, e, fin⟩
  rcases bd_inv e with ⟨x, hf, e⟩ | ⟨c, hf, rfl⟩
  · cases x <;> first
      | (cases e; done)
      | skip
    rename_i k
    refine ⟨B, H0, ρ, _, rep, hf, fun v H1 s1 bv => ?_⟩
    cases bv
    refine ⟨k, rfl, ?_⟩
    cases k with
    | true =>
      rw [if_pos rfl]
      exact ⟨B, H0, ρ, r, rep.ext s1, e, fin.shift s1⟩
    | false =>
      cases e
      rw [if_neg Bool.false_ne_true]
      exact fin _ H1 s1 (.bl false)
  · exact ⟨B, H0, ρ, _, rep, hf, fin⟩
theorem pe_orD (ha : PE X a (rd .v K cv W f)) (hb : PE X (.BoolOp .Or (b :: rest) pos) (rd .v K cv W g)) : PE X (.BoolOp .Or (a :: b :: rest) pos) (rd .v K cv W (fOr f g)) := by
  refine pe_imp (pe_or ha hb) ?_
  rintro σ H Q ⟨B, H0, ρ, r, rep, e, fin⟩
  rcases bd_inv e with ⟨x, hf, e⟩ | ⟨c, hf, rfl⟩
  · cases x <;> first
      | (cases e; done)
      | skip
    rename_i k
    refine ⟨B, H0, ρ, _, rep, hf, fun v H1 s1 bv => ?_⟩
    cases bv
    refine ⟨k, rfl, ?_⟩
    cases k with
    | false =>
      rw [if_neg Bool.false_ne_true]
      exact ⟨B, H0, ρ, r, rep.ext s1, e, fin.shift s1⟩
    | true =>
      cases e
      rw [if_pos rfl]
      exact fin _ H1 s1 (.bl true)
  · exact ⟨B, H0, ρ, _, rep, hf, fin⟩
theorem pw_andD (ha : PT X a (rdT K cv W f)) (hb : PW X (.BoolOp .And (b :: rest) pos) (rdT K cv W g)) : PW X (.BoolOp .And (a :: b :: rest) pos) (rdT K cv W (fAnd f g)) := by
  refine ⟨fun wh pins s σ H Q I q => (pw_and ha hb).run wh pins s σ H Q I ?_⟩
  obtain ⟨B, H0, ρ, r, rep, e, fin⟩ := q
  rcases bd_inv e with ⟨x, hf, e⟩ | ⟨c, hf, rfl⟩
  · cases x <;> first
      | (cases e; done)
      | skip
    rename_i k
    refine ⟨B, H0, ρ, _, rep, hf, k, rfl, fun H1 s1 => ?_⟩
    cases k with
    | true =>
      rw [if_pos rfl]
      refine ⟨B, H0, ρ, r, rep.ext s1, e, ?_⟩
      cases r with
      | ok d => obtain ⟨b, eb, q⟩ := fin; exact ⟨b, eb, fun H' s => q H' (s1.trans s)⟩
      | exc c => exact fun H' s => fin H' (s1.trans s)
    | false =>
      cases e
      obtain ⟨b, eb, q⟩ := fin
      cases eb
      rw [if_neg Bool.false_ne_true]
      exact q H1 s1
  · exact ⟨B, H0, ρ, _, rep, hf, fin⟩
theorem pw_orD (ha : PT X a (rdT K cv W f)) (hb : PW X (.BoolOp .Or (b :: rest) pos) (rdT K cv W g)) : PW X (.BoolOp .Or (a :: b :: rest) pos) (rdT K cv W (fOr f g)) := by
  refine ⟨fun wh pins s σ H Q I q => (pw_or ha hb).run wh pins s σ H Q I ?_⟩
  obtain ⟨B, H0, ρ, r, rep, e, fin⟩ := q
  rcases bd_inv e with ⟨x, hf, e⟩ | ⟨c, hf, rfl⟩
  · cases x <;> first
      | (cases e; done)
      | skip
    rename_i k
    refine ⟨B, H0, ρ, _, rep, hf, k, rfl, fun H1 s1 => ?_⟩
    cases k with
    | false =>
      rw [if_neg Bool.false_ne_true]
      refine ⟨B, H0, ρ, r, rep.ext s1, e, ?_⟩
      cases r with
      | ok d => obtain ⟨b, eb, q⟩ := fin; exact ⟨b, eb, fun H' s => q H' (s1.trans s)⟩
      | exc c => exact fun H' s => fin H' (s1.trans s)
    | true =>
      cases e
      obtain ⟨b, eb, q⟩ := fin
      cases eb
      rw [if_pos rfl]
      exact q H1 s1
  · exact ⟨B, H0, ρ, _, rep, hf, fin⟩
theorem pe_iteD (hc : PT X c (rdT K cv W f)) (ha : PE X a (rd .v K cv W g)) (hb : PE X b (rd .v K cv W h)) : PE X (.IfExp c a b pos) (rd .v K cv W (fIte f g h)) := by
  refine pe_imp (pe_ifExp hc ha hb) ?_
  rintro σ H Q ⟨B, H0, ρ, r, rep, e, fin⟩
  rcases bd_inv e with ⟨x, hf, e⟩ | ⟨c, hf, rfl⟩
  · cases x <;> first
      | (cases e; done)
      | skip
    rename_i k
    refine ⟨B, H0, ρ, _, rep, hf, k, rfl, fun H1 s1 => ?_⟩
    have fin' := fin.shift s1
    cases k with
    | true => exact iteT ⟨B, H0, ρ, r, rep.ext s1, e, fin'⟩
    | false => exact iteF ⟨B, H0, ρ, r, rep.ext s1, e, fin'⟩
  · exact ⟨B, H0, ρ, _, rep, hf, fin⟩
/-- a < b < c -/
def fChn (p q : D → D → Option Bool) (f g h : Env → M D) : Env → M D := fun ρ => bd (f ρ) fun x => bd (g ρ) fun y => match p x y with
  | some true => bd (h ρ) fun z => li ((q y z).map .bl)
  | some false => rt (.bl false)
  | none => none
theorem chn_read {p q : D → D → Option Bool} : ∀ σ H Q, rd .v K cv W (fChn p q f g h) σ H Q → tChain (r2 .v K fun x y => (p x y).map .bl) (r2 .v K fun x y => (q x y).map .bl) (rd .b K cv W f) (rd .b K cv W g) (rd .b K cv W h) σ H Q := by
  rintro σ H Q ⟨B, H0, ρ, r, rep, e, fin⟩
  rcases bd_inv e with ⟨x, hf, e⟩ | ⟨c, hf, rfl⟩
  · refine ⟨B, H0, ρ, _, rep, hf, fun v H1 s1 bv => ?_⟩
    rcases bd_inv e with ⟨y, hg, e⟩ | ⟨c, hg, rfl⟩
    · refine ⟨B, H0, ρ, _, rep.ext s1, hg, fun u H2 s2 bu => ?_⟩
      have s12 := s1.trans s2
      cases hp : p x y with
      | none => rw [hp] at e; cases e
      | some k =>
        rw [hp] at e
        refine ⟨_, x, y, .bl k, (rep.ext s12).bn, bv.ext s2, bu, by show Option.map _ (p x y) = _; rw [hp]; rfl, fun z H3 s3 dz => ?_⟩
        cases dz
        refine ⟨k, rfl, ?_⟩
        have s123 := s12.trans s3
        cases k with
        | true =>
          rw [if_pos rfl]
          rcases bd_inv e with ⟨z, hh, e⟩ | ⟨c, hh, rfl⟩
          · refine ⟨B, H0, ρ, _, rep.ext s123, hh, fun w H4 s4 bw => ?_⟩
            obtain ⟨d, hd, rfl⟩ := li_inv e
            exact ⟨_, y, z, d, (rep.ext (s123.trans s4)).bn, bu.ext (s3.trans s4), bw, hd, FinD.shift (s123.trans s4) fin⟩
          · exact ⟨B, H0, ρ, _, rep.ext s123, hh, fun H' s => fin H' (s123.trans s)⟩
        | false =>
          cases e
          rw [if_neg Bool.false_ne_true]
          exact fin _ H3 s123 (.bl false)
    · exact ⟨B, H0, ρ, _, rep.ext s1, hg, fun H' s => fin H' (s1.trans s)⟩
  · exact ⟨B, H0, ρ, _, rep, hf, fin⟩
theorem pe_chnD {p q : D → D → Option Bool} {op op' : CmpOp} (ho : OpR X (compareOp op) (r2 .v K fun x y => (p x y).map .bl)) (ho' : OpR X (compareOp op') (r2 .v K fun x y => (q x y).map .bl)) (ha : PE X a (rd .b K cv W f)) (hb : PE X b (rd .b K cv W g)) (hc : PE X c (rd .b K cv W h)) (hm : lastMarks [op, op'] [b, c] = false) :
    PE X (.Compare a [op, op'] [b, c] pos) (rd .v K cv W (fChn p q f g h)) := pe_imp (pe_chain ho ho' ha hb hc hm) chn_read
theorem pt_chnD {p q : D → D → Option Bool} {op op' : CmpOp} (ho : OpR X (compareOp op) (r2 .v K fun x y => (p x y).map .bl)) (ho' : OpR X (compareOp op') (r2 .v K fun x y => (q x y).map .bl)) (ha : PE X a (rd .b K cv W f)) (hb : PE X b (rd .b K cv W g)) (hc : PE X c (rd .b K cv W h)) (hm : lastMarks [op, op'] [b, c] = false) :
    PT X (.Compare a [op, op'] [b, c] pos) (rdT K cv W (fChn p q f g h)) := pt_imp (pt_chain ho ho' ha hb hc hm) fun σ H Q z => chn_read σ H _ (rdT_of σ H Q z)
/-! ### arguments -/
variable {es : List Expr} {fa : Env → M (List D)}
def fCons (f : Env → M D) (g : Env → M (List D)) : Env → M (List D) := fun ρ => bd (f ρ) fun d => bd (g ρ) fun ds => rt (d :: ds)
theorem pa_nilD {m : Bool} : PA X [] (rdA m K cv W fun _ => rt []) := by
  refine pa_imp pa_nil ?_
  rintro σ H Q ⟨B, H0, ρ, r, rep, e, fin⟩
  cases e
  refine fin [] H (Same.refl H) ?_
  cases m with
  | true => exact .nil
  | false => exact .nil
theorem pa_consD (ha : PE X a (rd .v K cv W f)) (hr : PA X es (rdA true K cv W fa)) (hs : starEach (a :: es) X.env = (false, eval a X.env) :: starEach es X.env) : PA X (a :: es) (rdA true K cv W (fCons f fa)) := by
  refine pa_imp (pa_cons ha hr hs) ?_
  rintro σ H Q ⟨B, H0, ρ, r, rep, e, fin⟩
  rcases bd_inv e with ⟨x, hf, e⟩ | ⟨c, hf, rfl⟩
  · refine ⟨B, H0, ρ, _, rep, hf, fun v H1 s1 bv => ?_⟩
    rcases bd_inv e with ⟨y, hg, e⟩ | ⟨c, hg, rfl⟩
    · cases e
      exact ⟨B, H0, ρ, _, rep.ext s1, hg, fun u H2 s2 bu => fin _ H2 (s1.trans s2) (.cons (bv.ext s2) bu)⟩
    · exact ⟨B, H0, ρ, _, rep.ext s1, hg, fun H' s => fin H' (s1.trans s)⟩
  · exact ⟨B, H0, ρ, _, rep, hf, fin⟩
theorem pa_consB (ha : PE X a (rd .b K cv W f)) (hr : PA X es (rdA false K cv W fa)) (hs : starEach (a :: es) X.env = (false, eval a X.env) :: starEach es X.env) : PA X (a :: es) (rdA false K cv W (fCons f fa)) := by
  refine pa_imp (pa_cons ha hr hs) ?_
  rintro σ H Q ⟨B, H0, ρ, r, rep, e, fin⟩
  rcases bd_inv e with ⟨x, hf, e⟩ | ⟨c, hf, rfl⟩
  · refine ⟨B, H0, ρ, _, rep, hf, fun v H1 s1 bv => ?_⟩
    rcases bd_inv e with ⟨y, hg, e⟩ | ⟨c, hg, rfl⟩
    · cases e
      exact ⟨B, H0, ρ, _, rep.ext s1, hg, fun u H2 s2 bu => fin _ H2 (s1.trans s2) (Paired.cons (bv.ext s2) bu)⟩
    · exact ⟨B, H0, ρ, _, rep.ext s1, hg, fun H' s => fin H' (s1.trans s)⟩
  · exact ⟨B, H0, ρ, _, rep, hf, fin⟩
/-- a tuple, a list written -/
theorem pe_tupF {t : TA} {k : Nat} (h : PA X es t) : PE X (.Tuple es k pos) (fun σ H Q => t σ H fun xs H1 => xs.length ≤ sizeLine ∧ ∀ p its, H1 p = none → Q (.ref p) (upd H1 p (.frz (tupO its) (.tup xs)))) := by
  refine ⟨fun pins s σ H Q I hq => ?_⟩
  refine wpAny_Tuple_spliced (thn (h.run pos pins s σ H _ I hq) fun us s1 ⟨xs, H1, I1, r, z, q⟩ => ⟨by rw [← r.length]; exact z, ?_⟩)
  exact ⟨.ref _, _, tnew (t' := s1.toks) I1 r z, rfl, q _ _ I1.fresh⟩
theorem pe_tupD {k : Nat} (ha : PA X es (rdA true K cv W fa)) : PE X (.Tuple es k pos) (rd .v K cv W fun ρ => bd (fa ρ) fun ds => if ds.length ≤ lim then rt (.tup ds) else none) := by
  refine pe_imp (pe_tupF ha) ?_
  rintro σ H Q ⟨B, H0, ρ, r, rep, e, fin⟩
  rcases bd_inv e with ⟨ds, hf, e⟩ | ⟨c, hf, rfl⟩
  · split at e
    · rename_i l
      cases e
      refine ⟨B, H0, ρ, _, rep, hf, fun vs H1 s1 bv => ?_⟩
      have bv : Dvs K H1 (Bn B σ ρ) vs ds := bv
      exact ⟨by rw [bv.length]; exact l, fin_tup (rep.ext s1).bn l bv (FinD.shift (m := .v) s1 fin)⟩
    · cases e
  · exact ⟨B, H0, ρ, _, rep, hf, fin⟩
theorem pe_lstD (ha : PA X es (rdA true K cv W fa)) : PE X (.List es pos) (rd .n K cv W fun ρ => bd (fa ρ) fun ds => if ds.length ≤ lim then rt (.lst ds) else none) := by
  refine pe_imp (pe_lst ha) ?_
  rintro σ H Q ⟨B, H0, ρ, r, rep, e, fin⟩
  rcases bd_inv e with ⟨ds, hf, e⟩ | ⟨c, hf, rfl⟩
  · split at e
    · rename_i l
      cases e
      refine ⟨B, H0, ρ, _, rep, hf, fun vs H1 s1 bv => ?_⟩
      have bv : Dvs K H1 (Bn B σ ρ) vs ds := bv
      exact ⟨by rw [bv.length]; exact l, fun p n => fin p H1 vs s1 n l bv⟩
    · cases e
  · exact ⟨B, H0, ρ, _, rep, hf, fin⟩
theorem pe_dctD : PE X (.Dict [] [] pos) (rd .n K cv W fun _ => rt (.dct [] [])) := by
  refine pe_imp pe_dnewK ?_
  rintro σ H Q ⟨B, H0, ρ, r, rep, e, fin⟩
  cases e
  exact fun p n => fin p H [] (Same.refl H) n (Nat.zero_le _) rfl List.nodup_nil (fun _ z => nomatch z) .nil
/-! ### items -/
theorem ix_atI {α : Type} (xs : List α) (i : Int) : atI xs i = match ixN xs.length i with
  | some k => xs[k]?
  | none => none := by
  show (L2.ixN xs.length i).bind _ = _
  show (ixN xs.length i).bind _ = _
  cases ixN xs.length i <;> rfl
theorem tx_one (c : Nat) : (⟨#[c]⟩ : Str) = tx [c] := rfl
theorem ix_all (hu : X.A.units + 1 < cLine) : IxR X (r2 .v X.K idxO) := by
  rintro value slice pins s σ H x y v u Q I rx ry ⟨B, dx, dy, d, t, bx, by_, e, f⟩ hs
  cases dx <;> cases dy <;> first
    | (cases e; done)
    | skip
  case str.int z i =>
    cases bx with
    | str o =>
      cases by_
      have e' : (atI z i).map (fun c => D.str [c]) = some d := by
        rw [ix_atI, ← e]
        show _ = idxO (.str z) (.int i)
        unfold idxO
        simp only
        cases ixN z.length i <;> rfl
      cases hk : atI z i with
      | none => rw [hk] at e'; cases e'
      | some k =>
        rw [hk] at e'
        cases e'
        have hm : k ∈ z := by
          rw [ix_atI] at hk
          split at hk
          · exact List.mem_of_getElem? hk
          · cases hk
        refine ix_str value slice pins s σ H _ _ v u Q I rx ry ⟨_, i, k, rfl, rfl, by rw [tx_len]; exact o.1, by rw [tx_cps]; exact hk, ?_⟩ hs
        rw [tx_one]
        exact f _ _ (Same.refl H) (.str ⟨(by decide : 1 ≤ lim), fun c hc => by
          have : c = k := by simpa using hc
          rw [this]; exact o.2 k hm⟩)
  case tup.int z i =>
    cases bx with
    | @tup a vs _ n1 h1 l1 d1 =>
      cases by_
      have e' : atI z i = some d := by rw [ix_atI]; exact e
      have e2 := e'
      rw [ix_atI] at e'
      split at e'
      · rename_i k hk
        obtain ⟨w, hw, dw⟩ := d1.get e'
        refine ix_tup value slice pins s σ H _ _ v u Q I rx ry ⟨a, vs, i, w, rfl, rfl, h1.sq, ?_, f _ _ (Same.refl H) dw⟩ hs
        rw [ix_atI, d1.length, hk]
        exact hw
      · cases e'
  case lst.int z i =>
    obtain ⟨a, vs, rfl, h1, l1, d1⟩ := bx
    cases by_
    have e' : atI z i = some d := by rw [ix_atI]; exact e
    rw [ix_atI] at e'
    split at e'
    · rename_i k hk
      obtain ⟨w, hw, dw⟩ := d1.get e'
      refine ix_list value slice pins s σ H _ _ v u Q I rx ry ⟨a, vs, i, w, rfl, rfl, .inl (.inl h1), ?_, f _ _ (Same.refl H) dw⟩ hs
      rw [ix_atI, d1.length, hk]
      exact hw
    · cases e'
  case scr.int z i =>
    cases bx with
    | @scr a _ h1 l1 =>
      cases by_
      have e' : (atI z i).map D.int = some d := by
        rw [ix_atI, ← e]
        show _ = idxO (.scr z) (.int i)
        unfold idxO
        simp only
        cases ixN z.length i <;> rfl
      cases hk : atI z i with
      | none => rw [hk] at e'; cases e'
      | some k =>
        rw [hk] at e'
        cases e'
        refine ix_list value slice pins s σ H _ _ v u Q I rx ry ⟨a, z.map V.int, i, .int k, rfl, rfl, h1.imp And.right id, ?_, f _ _ (Same.refl H) (.int k)⟩ hs
        rw [ix_atI] at hk ⊢
        rw [List.length_map]
        split at hk
        · rename_i j hj
          show (z.map V.int)[j]? = _
          rw [List.getElem?_map, hk]
          rfl
        · cases hk
  case dct.str ks vs k =>
    obtain ⟨a, ws, rfl, h1, h2, h3, h4, h5, h6⟩ := bx
    cases by_
    obtain rfl : v = Value.ref a := rx
    obtain ⟨w, e1, dw⟩ := assoc_some k h6 e
    have g : DGet H a (.str (tx k)) (some w) := .inl ⟨_, Sum.inr (tx k), h1, rfl, by rw [valV_kvs]; exact e1.symm⟩
    exact PyProof.Rows.tail_any (dict_typeIs I g) PySem.F.slot_dict_getitem.lookup (d_getItem hu I g ry fun w' s3 I3 rw' => ⟨w, H, I3, rw', f _ _ (Same.refl H) dw⟩) hs
theorem pe_idxD (hu : X.A.units + 1 < cLine) (ha : PE X a (rd .b X.K cv W f)) (hb : PE X b (rd .b X.K cv W g)) (hs : PlainIx b) : PE X (.Subscript a b pos) (rd .v X.K cv W fun ρ => bd (f ρ) fun x => bd (g ρ) fun y => li (idxO x y)) := pe_imp (pe_ix (ix_all hu) ha hb hs) op_read
end
end Mn
end
section
set_option Elab.async false
set_option linter.all false
set_option maxRecDepth 100000
set_option maxHeartbeats 4000000
set_option autoImplicit false
/-! D7: slices, built-in functions, methods. -/
namespace Mn
open PySem PySem.Spec L2
section
variable {X : Cx} {K : Frag} {cv : Nat → Value} {W : WX} {e a b c : Expr} {pos : Pos} {f g h : Env → M D}
/-! ### slices -/
def rdO (K : Frag) (cv : Nat → Value) (W : WX) (f : Env → M (Option Int)) : TO := fun σ H Q =>
  ∃ B H0 ρ r, Rep K B H0 H σ ρ ∧ f ρ = some r ∧ match r with
    | .ok o => ∀ H', Same H H' → Q o H'
    | .exc c => ∀ H', Same H H' → W (cv c) none σ H'
def fPart (f : Env → M D) : Env → M (Option Int) := fun ρ => bd (f ρ) fun x => match x with
  | .int i => rt (some i)
  | _ => none
theorem po_noneD : PO X none (rdO K cv W fun _ => rt none) := ⟨fun pins s σ H Q I q => po_none.run pins s σ H Q I (by
  obtain ⟨B, H0, ρ, r, rep, e, fin⟩ := q
  cases e
  exact fin H (Same.refl H))⟩
theorem po_someD (ha : PE X a (rd .b K cv W f)) : PO X (some a) (rdO K cv W (fPart f)) := ⟨fun pins s σ H Q I q => (po_some ha).run pins s σ H Q I (by
  obtain ⟨B, H0, ρ, r, rep, e, fin⟩ := q
  rcases bd_inv e with ⟨x, hf, e⟩ | ⟨c, hf, rfl⟩
  · cases x <;> first
      | (cases e; done)
      | skip
    cases e
    refine ⟨B, H0, ρ, _, rep, hf, fun v H1 s1 bv => ?_⟩
    cases bv
    exact ⟨_, rfl, fin H1 s1⟩
  · exact ⟨B, H0, ρ, _, rep, hf, fin⟩)⟩
theorem cut_sub {α : Type} (xs : List α) (lo hi : Option Int) : (cut xs lo hi).Sublist xs := (List.take_sublist _ _).trans (List.drop_sublist _ _)
theorem Dvs.cut {H : Hp} {B : Addr → Prop} {vs : List V} {ds : List D} (h : Dvs K H B vs ds) (lo hi : Option Int) : Dvs K H B (cutV vs lo hi) (Mn.cut ds lo hi) := by
  have e : cutV vs lo hi = Mn.cut vs lo hi := by unfold cutV Mn.cut; rfl
  rw [e]
  unfold Mn.cut
  rw [h.length]
  exact (h.drop _).take _
def rSlD (K : Frag) : V → Option Int → Option Int → Hp → VK → Prop := fun x lo hi H Q => ∃ B dx d, Tr H B ∧ Bor K H B x dx ∧ slcO dx lo hi = some d ∧ FinD .n K B H Q d
theorem sl_all : SlR X (rSlD X.K) := by
  rintro pins s σ H x v vl vu lo hi sl Q I rx hs pl pu ⟨B, dx, d, t, bx, e, fi⟩
  cases dx <;> first
    | (cases e; done)
    | skip
  case str z =>
    cases e
    cases bx with
    | str o =>
      refine sl_str pins s σ H _ v vl vu lo hi sl Q I rx hs pl pu ⟨_, rfl, by rw [tx_len]; exact o.1, ?_⟩
      have ec : cutS (tx z) lo hi = tx (cut z lo hi) := by
        unfold cutS
        rw [tx_cps, tx_len]
        rfl
      rw [ec]
      exact fin_str (o.sub (cut_sub z lo hi)) fi
  case tup z =>
    cases e
    cases bx with
    | @tup a vs _ n1 h1 l1 d1 =>
      by_cases z2 : HT.sIx vs.length 0 lo = 0 ∧ HT.sIx vs.length vs.length hi = vs.length
      · refine sl_tupA pins s σ H _ v vl vu lo hi sl Q I rx hs pl pu ⟨a, vs, rfl, h1.sq, fun _ => ?_, fun z3 => absurd z2 z3⟩
        have ec : cut z lo hi = z := by
          rw [d1.length] at z2
          show (z.drop (HT.sIx z.length 0 lo)).take (HT.sIx z.length z.length hi - HT.sIx z.length 0 lo) = z
          rw [z2.1, z2.2, List.drop_zero, Nat.sub_zero, List.take_length]
        rw [ec] at fi
        exact fi _ _ (Same.refl H) (.tup n1 h1 l1 d1)
      · cases rx
        obtain ⟨its, r, ht, hz⟩ := I.tuple (h1.sq (K := X.K))
        have hlen : its.toArray.size = vs.length := by rw [List.size_toArray, r.length]
        refine ⟨"tuple", _, PyProof.Rows.slot_tuple_getitem.lookup, ht.typeIs, HT.getItem_tuple_cut ht hs pl pu (by rw [hlen]; exact z2) ?_ (by rw [hlen]; exact hz)⟩
        rw [hlen]
        exact ⟨.ref _, _, tnew (ys := cutV vs lo hi) (t' := s.toks) I ((r.drop _).take _) (Nat.le_trans (cutV_length vs lo hi) hz), rfl, fin_tup t (Nat.le_trans (cut_sub z lo hi).length_le l1) (d1.cut lo hi) fi _ _ I.fresh⟩
  case lst z =>
    cases e
    obtain ⟨a, vs, rfl, h1, l1, d1⟩ := bx
    exact sl_list pins s σ H _ v vl vu lo hi sl Q I rx hs pl pu ⟨a, vs, rfl, .inl (.inl h1), fin_lst (Nat.le_trans (cut_sub z lo hi).length_le l1) (d1.cut lo hi) fi⟩
theorem pe_slcD {lo hi : Option Expr} {p2 : Pos} {fl fh : Env → M (Option Int)} (ha : PE X a (rd .b X.K cv W f)) (hl : PO X lo (rdO X.K cv W fl)) (hh : PO X hi (rdO X.K cv W fh)) :
    PE X (.Subscript a (.Slice lo hi none p2) pos) (rd .n X.K cv W fun ρ => bd (f ρ) fun x => bd (fl ρ) fun l => bd (fh ρ) fun h => li (slcO x l h)) := by
  refine pe_imp (pe_slice sl_all ha hl hh) ?_
  rintro σ H Q ⟨B, H0, ρ, r, rep, e, fin⟩
  rcases bd_inv e with ⟨x, hf, e⟩ | ⟨c, hf, rfl⟩
  · refine ⟨B, H0, ρ, _, rep, hf, fun v H1 s1 bv => ?_⟩
    rcases bd_inv e with ⟨y, hg, e⟩ | ⟨c, hg, rfl⟩
    · refine ⟨B, H0, ρ, _, rep.ext s1, hg, fun H2 s2 => ?_⟩
      have s12 := s1.trans s2
      rcases bd_inv e with ⟨z, hg2, e⟩ | ⟨c, hg2, rfl⟩
      · refine ⟨B, H0, ρ, _, rep.ext s12, hg2, fun H3 s3 => ?_⟩
        obtain ⟨d, hd, rfl⟩ := li_inv e
        exact ⟨_, x, d, (rep.ext (s12.trans s3)).bn, bv.ext (s2.trans s3), hd, FinD.shift (s12.trans s3) fin⟩
      · exact ⟨B, H0, ρ, _, rep.ext s12, hg2, fun H' s => fin H' (s12.trans s)⟩
    · exact ⟨B, H0, ρ, _, rep.ext s1, hg, fun H' s => fin H' (s1.trans s)⟩
  · exact ⟨B, H0, ρ, _, rep, hf, fin⟩
/-! ### built-in functions -/
variable {es : List Expr} {fa : Env → M (List D)}
def rB (m : Md) (K : Frag) (h : List D → Option D) : List V → Hp → VK → Prop := fun vs H Q => ∃ B ds d, Tr H B ∧ Bors K H B vs ds ∧ h ds = some d ∧ FinD m K B H Q d
theorem cb_read {m : Md} {h : List D → Option D} : ∀ σ H Q, rd m K cv W (fun ρ => bd (fa ρ) fun ds => li (h ds)) σ H Q → tCB (rB m K h) (rdA false K cv W fa) σ H Q := by
  rintro σ H Q ⟨B, H0, ρ, r, rep, e, fin⟩
  rcases bd_inv e with ⟨ds, hf, e⟩ | ⟨c, hf, rfl⟩
  · refine ⟨B, H0, ρ, _, rep, hf, fun vs H1 s1 bv => ?_⟩
    obtain ⟨d, hd, rfl⟩ := li_inv e
    exact ⟨_, ds, d, (rep.ext s1).bn, bv, hd, FinD.shift s1 fin⟩
  · exact ⟨B, H0, ρ, _, rep, hf, fin⟩
/-- a def of the list: no star -/
def noStar : Expr → Bool
  | .Starred _ _ => false
  | _ => true
theorem star_one {e : Expr} {es : List Expr} {env : PySem.Env} (h : noStar e = true) : starEach (e :: es) env = (false, eval e env) :: starEach es env := by
  cases e <;> first
    | rfl
    | cases h
theorem star_any {env : PySem.Env} {pos : Pos} : ∀ {es : List Expr}, es.all noStar = true → (backTo pos (starEach es env)).any (·.1) = false
  | [], _ => rfl
  | e :: es, h => by
    rw [List.all_cons, Bool.and_eq_true] at h
    rw [star_one h.1]
    show (false || (backTo pos (starEach es env)).any (·.1)) = false
    rw [star_any h.2]
    rfl
theorem star_all {env : PySem.Env} {pos : Pos} : ∀ {es : List Expr}, es.all noStar = true → (backTo pos (starEach es env)).all (fun x => !x.1) = true
  | [], _ => rfl
  | e :: es, h => by
    rw [List.all_cons, Bool.and_eq_true] at h
    rw [star_one h.1]
    show (true && (backTo pos (starEach es env)).all (fun x => !x.1)) = true
    rw [star_all h.2]
    rfl
theorem pe_bltD {m : Md} {id : String} {x : Str} {p : Pos} {h : List D → Option D} (hc : CallR X (.builtin id) (rB m X.K h)) (hg : Gl X x) (hm : X.mg x = none) (hv : bootBuiltins x = some (.builtin id)) (ha : PA X (a :: es) (rdA false X.K cv W fa))
    (hn : x ≠ "__name__") (hdb : (x == ("__debug__" : Str)) = false) (hs : (a :: es).all noStar = true) : PE X (.Call (.Name x p) (a :: es) [] pos) (rd m X.K cv W fun ρ => bd (fa ρ) fun ds => li (h ds)) := by
  have hs' := hs
  rw [List.all_cons, Bool.and_eq_true] at hs'
  exact pe_imp (pe_callB hc hg hm hv ha hn hdb (star_one hs'.1) (star_any hs'.2)) cb_read
theorem pe_bltTy {m : Md} {T : String} {x : Str} {p : Pos} {h : List D → Option D} (hc : CallR X (.type T) (rB m X.K h)) (hg : Gl X x) (hm : X.mg x = none) (hv : bootBuiltins x = some (.type T)) (ha : PA X (a :: es) (rdA false X.K cv W fa))
    (hn : x ≠ "__name__") (hdb : (x == ("__debug__" : Str)) = false) (hs : (a :: es).all noStar = true) : PE X (.Call (.Name x p) (a :: es) [] pos) (rd m X.K cv W fun ρ => bd (fa ρ) fun ds => li (h ds)) := by
  have hs' := hs
  rw [List.all_cons, Bool.and_eq_true] at hs'
  exact pe_imp (pe_callTy hc hg hm hv ha hn hdb (star_one hs'.1) (star_any hs'.2)) cb_read
/-- one argument -/
theorem bors_one {H : Hp} {B : Addr → Prop} {vs : List V} {d : D} (h : Bors K H B vs [d]) : ∃ v, vs = [v] ∧ Bor K H B v d := by
  cases h with
  | cons a b => cases b; exact ⟨_, rfl, a⟩
theorem bors_two {H : Hp} {B : Addr → Prop} {vs : List V} {d e : D} (h : Bors K H B vs [d, e]) : ∃ v w, vs = [v, w] ∧ Bor K H B v d ∧ Bor K H B w e := by
  cases h with
  | cons a b =>
    cases b with
    | cons c d => cases d; exact ⟨_, _, rfl, a, c⟩
theorem cr_len : CallR X (.builtin "len") (rB .n X.K (bltO .len)) := by
  rintro pins s σ H xs us Q I rv ⟨B, ds, d, t, bs, e, fi⟩
  match ds, e with
  | [.str z], e =>
    cases e
    obtain ⟨v, rfl, bv⟩ := bors_one bs
    cases bv with
    | str o =>
      refine call_len_str pins s σ H _ us Q I rv ⟨_, rfl, by rw [tx_len]; exact o.1, ?_⟩
      rw [tx_len]
      exact fin_int fi
  | [.lst z], e =>
    cases e
    obtain ⟨v, rfl, bv⟩ := bors_one bs
    obtain ⟨a, vs, rfl, h1, l1, d1⟩ := bv
    refine call_len_seq pins s σ H _ us Q I rv ⟨a, vs, rfl, .inl (.inl (.inl h1)), ?_⟩
    rw [d1.length]
    exact fin_int fi
  | [.tup z], e =>
    cases e
    obtain ⟨v, rfl, bv⟩ := bors_one bs
    cases bv with
    | @tup a vs _ n1 h1 l1 d1 =>
      refine call_len_seq pins s σ H _ us Q I rv ⟨a, vs, rfl, .inr h1.sq, ?_⟩
      rw [d1.length]
      exact fin_int fi
  | [.scr z], e =>
    cases e
    obtain ⟨v, rfl, bv⟩ := bors_one bs
    cases bv with
    | @scr a _ h1 l1 =>
      refine call_len_seq pins s σ H _ us Q I rv ⟨a, z.map V.int, rfl, .inl (h1.imp And.right id), ?_⟩
      rw [List.length_map]
      exact fin_int fi
  | [.dct ks vs], e =>
    cases e
    obtain ⟨v, rfl, bv⟩ := bors_one bs
    obtain ⟨a, ws, rfl, h1, h2, h3, h4, h5, h6⟩ := bv
    obtain ⟨u, rfl, ru⟩ := vals1 rv
    cases ru
    refine d_len I h1 fun t s' I' => ⟨.int ks.length, H, I', ⟨t, ?_⟩, fin_int fi⟩
    rw [List.length_zip, List.length_map, ← h3, Nat.min_self]
theorem allB_map : ∀ {H : Hp} {B : Addr → Prop} {vs : List V} {ds : List D} {b : Bool}, Dvs K H B vs ds → allB ds = some b → ∃ bs : List Bool, vs = bs.map V.bl ∧ b = bs.all id
  | _, _, _, [], b, .nil, e => ⟨[], rfl, by cases e; rfl⟩
  | _, _, _, d :: ds, b, .cons h t, e => by
    cases d <;> first
      | (cases e; done)
      | skip
    rename_i k
    cases h
    cases q : allB ds with
    | none => simp only [allB, q] at e; cases e
    | some z =>
      simp only [allB, q, Option.map_some, Option.some.injEq] at e
      obtain ⟨bs, rfl, rfl⟩ := allB_map t q
      exact ⟨k :: bs, rfl, by rw [← e]; rfl⟩
theorem anyB_map : ∀ {H : Hp} {B : Addr → Prop} {vs : List V} {ds : List D} {b : Bool}, Dvs K H B vs ds → anyB ds = some b → ∃ bs : List Bool, vs = bs.map V.bl ∧ b = bs.any id
  | _, _, _, [], b, .nil, e => ⟨[], rfl, by cases e; rfl⟩
  | _, _, _, d :: ds, b, .cons h t, e => by
    cases d <;> first
      | (cases e; done)
      | skip
    rename_i k
    cases h
    cases q : anyB ds with
    | none => simp only [anyB, q] at e; cases e
    | some z =>
      simp only [anyB, q, Option.map_some, Option.some.injEq] at e
      obtain ⟨bs, rfl, rfl⟩ := anyB_map t q
      exact ⟨k :: bs, rfl, by rw [← e]; rfl⟩
theorem cr_allD (hc : X.calm = true) : CallR X (.builtin "all") (rB .n X.K (bltO .all)) := by
  rintro pins s σ H xs us Q I rv ⟨B, ds, d, t, bs, e, fi⟩
  match ds, e with
  | [.lst z], e =>
    obtain ⟨v, rfl, bv⟩ := bors_one bs
    obtain ⟨a, vs, rfl, h1, l1, d1⟩ := bv
    cases q : allB z with
    | none => simp only [bltO, q] at e; cases e
    | some k =>
      simp only [bltO, q, Option.map_some, Option.some.injEq] at e
      subst e
      obtain ⟨bs, rfl, rfl⟩ := allB_map d1 q
      exact cr_all hc pins s σ H _ us Q I rv ⟨a, bs, rfl, .inl (.inl h1), fin_bl fi⟩
theorem cr_anyD (hc : X.calm = true) : CallR X (.builtin "any") (rB .n X.K (bltO .any)) := by
  rintro pins s σ H xs us Q I rv ⟨B, ds, d, t, bs, e, fi⟩
  match ds, e with
  | [.lst z], e =>
    obtain ⟨v, rfl, bv⟩ := bors_one bs
    obtain ⟨a, vs, rfl, h1, l1, d1⟩ := bv
    cases q : anyB z with
    | none => simp only [bltO, q] at e; cases e
    | some k =>
      simp only [bltO, q, Option.map_some, Option.some.injEq] at e
      subst e
      obtain ⟨bs, rfl, rfl⟩ := anyB_map d1 q
      exact cr_any hc pins s σ H _ us Q I rv ⟨a, bs, rfl, .inl (.inl h1), fin_bl fi⟩
theorem cr_max2D (hc : X.calm = true) : CallR X (.builtin "max") (rB .n X.K (bltO .max2)) := by
  rintro pins s σ H xs us Q I rv ⟨B, ds, d, t, bs, e, fi⟩
  match ds, e with
  | [.int i, .int j], e =>
    cases e
    obtain ⟨v, w, rfl, bv, bw⟩ := bors_two bs
    cases bv
    cases bw
    exact call_max2 hc pins s σ H _ us Q I rv ⟨i, j, rfl, fin_int fi⟩
theorem cr_min2D (hc : X.calm = true) : CallR X (.builtin "min") (rB .n X.K (bltO .min2)) := by
  rintro pins s σ H xs us Q I rv ⟨B, ds, d, t, bs, e, fi⟩
  match ds, e with
  | [.int i, .int j], e =>
    cases e
    obtain ⟨v, w, rfl, bv, bw⟩ := bors_two bs
    cases bv
    cases bw
    exact call_min2 hc pins s σ H _ us Q I rv ⟨i, j, rfl, fin_int fi⟩
end
end Mn
end
section
set_option Elab.async false
set_option linter.all false
set_option maxRecDepth 100000
set_option maxHeartbeats 4000000
set_option autoImplicit false
/-! D8: isinstance, list, tuple, dict; texts' methods. -/
namespace Mn
open PySem PySem.Spec L2
section
variable {X : Cx} {K : Frag} {cv : Nat → Value} {W : WX} {e a b c : Expr} {pos : Pos} {f g h : Env → M D}
/-! ### isinstance -/
def tyS : Ty → String
  | .int => "int"
  | .bool => "bool"
  | .str => "str"
  | .tuple => "tuple"
  | .list => "list"
  | .own _ => "object"
theorem isi_ok {H : Hp} {B : Addr → Prop} {t : Ty} {d : D} {v : V} {b : Bool} (e : isiO t d = some b) (h : Bor K H B v d) : ∃ T : String, TyX K H v (.type T) ∧ kitB T (tyS t) = some b := by
  cases t <;> cases d <;> simp only [isiO, Option.some.injEq, reduceCtorEq] at e <;> subst e <;> first
    | (cases h; exact ⟨_, .base .non, by decide +kernel⟩)
    | (cases h; exact ⟨_, .base (.bl _), by decide +kernel⟩)
    | (cases h; exact ⟨_, .base (.int _), by decide +kernel⟩)
    | (cases h; exact ⟨_, .base (.str _), by decide +kernel⟩)
    | (obtain ⟨a, vs, rfl, h1, _⟩ := h; exact ⟨_, .base (.lst h1), by decide +kernel⟩)
    | (cases h with | tup h0 h1 _ _ => obtain ⟨its, h1⟩ := h1; exact ⟨_, .fTuple h1, by decide +kernel⟩)
theorem pe_isiD {t : Ty} {n : Str} {p p2 : Pos} (ha : PE X a (rd .b X.K cv W f)) (hg : Gl X "isinstance") (hm : X.mg "isinstance" = none) (hv : bootBuiltins "isinstance" = some (.builtin "isinstance"))
    (hg2 : Gl X n) (hm2 : X.mg n = none) (hv2 : bootBuiltins n = some (.type (tyS t))) (hn : n ≠ "__name__") (hdb : (n == ("__debug__" : Str)) = false) (hs : noStar a = true) :
    PE X (.Call (.Name "isinstance" p) [a, .Name n p2] [] pos) (rd .v X.K cv W fun ρ => bd (f ρ) fun x => li (bltO (.isi t) [x])) := by
  have hT : PE X (.Name n p2) (tC (.ty (tyS t))) := pe_bltn hg2 hm2 hv2 rfl hn hdb
  refine pe_imp (pe_callB call_isi hg hm hv (pa_cons ha (pa_cons hT pa_nil (star_one rfl)) (star_one hs)) (by decide) (by decide) (star_one hs) (star_any (es := [.Name n p2]) rfl)) ?_
  rintro σ H Q ⟨B, H0, ρ, r, rep, e, fin⟩
  rcases bd_inv e with ⟨x, hf, e⟩ | ⟨c, hf, rfl⟩
  · refine ⟨B, H0, ρ, _, rep, hf, fun v H1 s1 bv => ?_⟩
    obtain ⟨d, hd, rfl⟩ := li_inv e
    simp only [bltO] at hd
    cases hi : isiO t x with
    | none => rw [hi] at hd; cases hd
    | some k =>
      rw [hi] at hd
      cases hd
      obtain ⟨T, h1, h2⟩ := isi_ok hi bv
      exact ⟨v, .ty (tyS t), _, _, k, rfl, .ty _, h1, kit_ty h2, fin _ H1 s1 (.bl k)⟩
  · exact ⟨B, H0, ρ, _, rep, hf, fin⟩
/-! ### list(..), tuple(..) -/
theorem signs_vals : ∀ (x : List Nat) (us : List Value), us.length = x.length → (∀ (j : Nat) (v : Value), us[j]? = some v → ∃ c : Nat, x[j]? = some c ∧ RelV (.str ⟨#[c]⟩) v) → Vals (x.map fun c => V.str ⟨#[c]⟩) us
  | [], [], _, _ => .nil
  | [], _ :: _, h, _ => by simp at h
  | _ :: _, [], h, _ => by simp at h
  | c :: x, u :: us, h, q => by
    obtain ⟨c', e1, e2⟩ := q 0 u rfl
    have e1 : c = c' := by simpa using e1
    subst e1
    exact .cons e2 (signs_vals x us (by simpa using h) fun j v e => by
      obtain ⟨c', e1, e2⟩ := q (j + 1) v (by simpa using e)
      exact ⟨c', by simpa using e1, e2⟩)
theorem signs_dvs {K : Frag} {H : Hp} {B : Addr → Prop} : ∀ (x : Tx), (∀ c ∈ x, c < 1114112) → Dvs K H B (x.map fun c => V.str ⟨#[c]⟩) (x.map fun c => D.str [c])
  | [], _ => .nil
  | c :: x, h => .cons (.str (s := [c]) ⟨by show 1 ≤ lim; decide, fun z hz => by rw [List.mem_singleton.mp hz]; exact h c List.mem_cons_self⟩) (signs_dvs x fun z hz => h z (List.mem_cons_of_mem _ hz))
theorem cr_listD (hc : X.calm = true) : CallR X (.type "list") (rB .n X.K fun ds => match ds with
    | [.lst x] => some (.lst x)
    | [.tup x] => some (.lst x)
    | [.str x] => some (.lst (x.map fun c => .str [c]))
    | _ => none) := by
  rintro pins s σ H xs us Q I rv ⟨B, ds, d, t, bs, e, fi⟩
  match ds, e with
  | [.lst z], e =>
    cases e
    obtain ⟨v, rfl, bv⟩ := bors_one bs
    obtain ⟨a, vs, rfl, h1, l1, d1⟩ := bv
    exact call_list_of pins s σ H _ us Q I rv ⟨a, vs, rfl, .inl (.inl (.inl h1)), fin_lst l1 d1 fi⟩
  | [.tup z], e =>
    cases e
    obtain ⟨v, rfl, bv⟩ := bors_one bs
    cases bv with
    | tup h0 h1 l1 d1 => exact call_list_of pins s σ H _ us Q I rv ⟨_, _, rfl, .inr h1.sq, fin_lst l1 d1 fi⟩
  | [.str z], e =>
    cases e
    obtain ⟨v, rfl, bv⟩ := bors_one bs
    cases bv with
    | str ok =>
      obtain ⟨u, rfl, ru⟩ := vals1 rv
      obtain ⟨t, rfl⟩ := ru
      have hz : (tx z).cps.size ≤ sizeLine := ok.1
      refine call_list_str (I.ok.hd hc) (tx z) t (fun h' tk acc c' hk hS hi => ?_) hz
      have vl : Vals (z.map fun c => V.str ⟨#[c]⟩) acc.toList := signs_vals z _ (by rw [Array.length_toList, hi.1]; rfl) fun j v e => by
        rw [Array.getElem?_toList] at e
        obtain ⟨c, u, e1, rfl⟩ := hi.2 j v e
        exact ⟨c, by simpa [tx] using e1, u, rfl⟩
      refine ⟨.ref _, upd H _ (.lst (z.map fun c => V.str ⟨#[c]⟩)), I.laid (t' := tk) hk (Nat.le_refl _) ⟨by rw [List.length_map]; exact ok.1, acc.toList, c', vl, by rw [Array.toArray_toList]; exact hS⟩, rfl, ?_⟩
      exact fi _ H _ (Same.refl _) (I.hok.fresh (Nat.le_refl _)) (by rw [List.length_map]; exact ok.1) (signs_dvs z ok.2)
theorem cr_tupleD : CallR X (.type "tuple") (rB .n X.K fun ds => match ds with
    | [.lst x] => some (.tup x)
    | [.tup x] => some (.tup x)
    | _ => none) := by
  rintro pins s σ H xs us Q I rv ⟨B, ds, d, t, bs, e, fi⟩
  match ds, e with
  | [.lst z], e =>
    cases e
    obtain ⟨v, rfl, bv⟩ := bors_one bs
    obtain ⟨a, vs, rfl, h1, l1, d1⟩ := bv
    obtain ⟨u, rfl, ru⟩ := vals1 rv
    cases ru
    obtain ⟨its, r', pl, hz⟩ := I.list (SqL.of (K := X.K) h1)
    have hlen := r'.length
    refine call_tuple_list pl.isList (fun h' kp => ?_) (by simp only [List.size_toArray] <;> omega)
    have I1 : Inv X pins σ H { s with heap := h' } := I.kept (t' := s.toks) kp
    exact ⟨.ref _, _, tnew (t' := s.toks) I1 r' hz, rfl, fin_tup t l1 d1 fi _ _ I1.fresh⟩
  | [.tup z], e =>
    cases e
    obtain ⟨v, rfl, bv⟩ := bors_one bs
    cases bv with
    | tup h0 h1 l1 d1 => exact call_tuple_of pins s σ H _ us Q I rv ⟨_, _, rfl, .inr ⟨h1.sq, fi _ _ (Same.refl H) (.tup h0 h1 l1 d1)⟩⟩
/-! ### dict(pairs) -/
theorem put_mem {α : Type} {k x : Tx} {v : α} : ∀ {ks : List Tx} {vs : List α}, x ∈ (putD k v ks vs).1 → x = k ∨ x ∈ ks
  | [], _, h => by simp [putD] at h; exact .inl h
  | a :: as, [], h => by simp [putD] at h; exact .inl h
  | a :: as, w :: ws, h => by
    unfold putD at h
    by_cases z : a = k
    · rw [if_pos z] at h; exact .inr h
    · rw [if_neg z] at h
      rcases List.mem_cons.mp h with h | h
      · exact .inr (by rw [h]; exact List.mem_cons_self)
      · exact (put_mem h).imp id (List.mem_cons_of_mem _)
theorem put_nodup {α : Type} {k : Tx} {v : α} : ∀ {ks : List Tx} {vs : List α}, ks.length = vs.length → ks.Nodup → (putD k v ks vs).1.Nodup
  | [], _, _, _ => by simp [putD]
  | a :: as, [], h, _ => by simp at h
  | a :: as, w :: ws, h, n => by
    unfold putD
    by_cases z : a = k
    · rw [if_pos z]; exact n
    · rw [if_neg z]
      rw [List.nodup_cons] at n ⊢
      refine ⟨fun hm => ?_, put_nodup (by simpa using h) n.2⟩
      rcases put_mem hm with q | q
      · exact z q
      · exact n.1 q
theorem put_len {α : Type} {k : Tx} {v : α} : ∀ {ks : List Tx} {vs : List α}, ks.length = vs.length → (putD k v ks vs).1.length = (putD k v ks vs).2.length
  | [], [], _ => rfl
  | [], _ :: _, h => by simp at h
  | a :: as, [], h => by simp at h
  | a :: as, w :: ws, h => by
    unfold putD
    by_cases z : a = k
    · rw [if_pos z]; simpa using h
    · rw [if_neg z]
      simp only [List.length_cons]
      rw [put_len (by simpa using h)]
theorem put_le {α : Type} {k : Tx} {v : α} : ∀ {ks : List Tx} {vs : List α}, (putD k v ks vs).1.length ≤ ks.length + 1
  | [], _ => by simp [putD]
  | a :: as, [] => by simp [putD]
  | a :: as, w :: ws => by
    unfold putD
    by_cases z : a = k
    · rw [if_pos z]; simp
    · rw [if_neg z]
      simp only [List.length_cons]
      have := put_le (k := k) (v := v) (ks := as) (vs := ws)
      omega
theorem put_keys {α β : Type} {k : Tx} {v : α} {w : β} : ∀ {ks : List Tx} {vs : List α} {ws : List β}, ks.length = vs.length → ks.length = ws.length → (putD k v ks vs).1 = (putD k w ks ws).1
  | [], _, _, _, _ => by simp [putD]
  | a :: as, [], _, h, _ => by simp at h
  | a :: as, _ :: _, [], _, h => by simp at h
  | a :: as, x :: xs, y :: ys, h1, h2 => by
    unfold putD
    by_cases z : a = k
    · rw [if_pos z, if_pos z]
    · rw [if_neg z, if_neg z]
      simp only
      rw [put_keys (v := v) (w := w) (by simpa using h1) (by simpa using h2)]
theorem put_dvs {H : Hp} {B : Addr → Prop} {k : Tx} {v : V} {d : D} (hv : Dv K H B v d) : ∀ {ks : List Tx} {vs : List V} {ds : List D}, Dvs K H B vs ds → Dvs K H B (putD k v ks vs).2 (putD k d ks ds).2
  | [], _, _, _ => by simp only [putD]; exact .cons hv .nil
  | a :: as, _, _, .nil => by simp only [putD]; exact .cons hv .nil
  | a :: as, _, _, .cons x t => by
    unfold putD
    by_cases z : a = k
    · rw [if_pos z, if_pos z]; exact .cons hv t
    · rw [if_neg z, if_neg z]; exact .cons x (put_dvs hv t)
theorem map_kvs_id {k : Tx} {v : V} : ∀ {ks : List Tx} {vs : List V}, k ∉ ks → (kvs ks vs).map (fun kv => if kv.1 = Sum.inr (tx k) then (kv.1, v) else kv) = kvs ks vs
  | [], _, _ => rfl
  | _ :: _, [], _ => rfl
  | a :: as, w :: ws, h => by
    show (if (Sum.inr (tx a) : Key) = Sum.inr (tx k) then ((Sum.inr (tx a) : Key), v) else ((Sum.inr (tx a) : Key), w)) :: _ = ((Sum.inr (tx a) : Key), w) :: kvs as ws
    rw [if_neg (fun z => h (by rw [tx_inj (Sum.inr.inj z)]; exact List.mem_cons_self))]
    exact congrArg _ (map_kvs_id fun z => h (List.mem_cons_of_mem _ z))
theorem any_kvs {k : Tx} : ∀ {ks : List Tx} {vs : List V}, ks.length = vs.length → ((kvs ks vs).any fun kv => decide (kv.1 = Sum.inr (tx k))) = decide (k ∈ ks)
  | [], _, _ => by simp [kvs]
  | _ :: _, [], h => by simp at h
  | a :: as, w :: ws, h => by
    show (decide ((Sum.inr (tx a) : Key) = Sum.inr (tx k)) || (kvs as ws).any _) = _
    rw [key_eq, any_kvs (by simpa using h)]
    by_cases z : a = k
    · subst z; simp
    · have z2 : ¬ k = a := fun e => z e.symm
      simp [z, z2]
theorem putK_kvs {k : Tx} {v : V} : ∀ {ks : List Tx} {vs : List V}, ks.length = vs.length → ks.Nodup → putK (kvs ks vs) (Sum.inr (tx k)) v = kvs (putD k v ks vs).1 (putD k v ks vs).2 := by
  intro ks
  induction ks with
  | nil =>
    intro vs h n
    cases vs with
    | nil => rfl
    | cons _ _ => simp at h
  | cons a as ih =>
    intro vs h n
    cases vs with
    | nil => simp at h
    | cons w ws =>
      rw [List.nodup_cons] at n
      have h' : as.length = ws.length := by simpa using h
      have ih' := ih h' n.2
      unfold putK at ih' ⊢
      rw [any_kvs h]
      rw [any_kvs h'] at ih'
      unfold putD
      by_cases z : a = k
      · subst z
        rw [if_pos rfl, if_pos (by simp)]
        show (if (Sum.inr (tx a) : Key) = Sum.inr (tx a) then ((Sum.inr (tx a) : Key), v) else ((Sum.inr (tx a) : Key), w)) :: _ = ((Sum.inr (tx a) : Key), v) :: kvs as ws
        rw [if_pos rfl]
        exact congrArg _ (map_kvs_id n.1)
      · rw [if_neg z]
        have zk : ¬ (Sum.inr (tx a) : Key) = Sum.inr (tx k) := fun e => z (tx_inj (Sum.inr.inj e))
        by_cases hm : k ∈ as
        · rw [if_pos (by simpa using hm)] at ih'
          rw [if_pos (by simp [hm])]
          show (if (Sum.inr (tx a) : Key) = Sum.inr (tx k) then ((Sum.inr (tx a) : Key), v) else ((Sum.inr (tx a) : Key), w)) :: _ = ((Sum.inr (tx a) : Key), w) :: kvs _ _
          rw [if_neg zk]
          exact congrArg _ ih'
        · rw [if_neg (by simpa using hm)] at ih'
          rw [if_neg (by simp [hm]; exact fun e => z e.symm)]
          show ((Sum.inr (tx a) : Key), w) :: (kvs as ws ++ _) = ((Sum.inr (tx a) : Key), w) :: kvs _ _
          exact congrArg _ ih'
theorem dictO_cons {x : D} {z : List D} {ks : List Tx} {ds : List D} {d : D} (e : dictO (x :: z) ks ds = some d) : ∃ k y, x = .tup [.str k, y] ∧ dictO z (putD k y ks ds).1 (putD k y ks ds).2 = some d := by
  match x, e with
  | .tup [.str k, y], e => exact ⟨k, y, rfl, e⟩
/-- the pairs of dict's argument -/
theorem dict_pairs {H : Hp} {B : Addr → Prop} : ∀ {z : List D} {vs : List V} {ks0 : List Tx} {ws0 : List V} {ds0 : List D} {d : D}, Dvs K H B vs z → dictO z ks0 ds0 = some d → ks0.length = ws0.length → Dvs K H B ws0 ds0 → ks0.Nodup → (∀ k ∈ ks0, okTx k) →
    ∃ (ps : List Addr) (kvl : List (Key × V)) (ks' : List Tx) (ws' : List V) (ds' : List D), vs = ps.map V.ref ∧ Paired (fun p kv => SqT K H p [kV kv.1, kv.2]) ps kvl ∧ mergeK (kvs ks0 ws0) kvl = kvs ks' ws' ∧ d = .dct ks' ds' ∧
      ks'.length = ws'.length ∧ Dvs K H B ws' ds' ∧ ks'.Nodup ∧ (∀ k ∈ ks', okTx k) ∧ ks'.length ≤ ks0.length + z.length
  | [], _, ks0, ws0, ds0, d, .nil, e, l, dv, n, o => by
    cases e
    exact ⟨[], [], ks0, ws0, ds0, rfl, .nil, rfl, rfl, l, dv, n, o, by simp⟩
  | x :: z, _, ks0, ws0, ds0, d, .cons hx t, e, l, dv, n, o => by
    obtain ⟨k, y, rfl, e2⟩ := dictO_cons e
    cases hx with
    | tup h0 h1 h2 h3 =>
      cases h3 with
      | cons ha hb =>
        cases ha with
        | str ok =>
          cases hb with
          | @cons w _ _ _ hy hc =>
            cases hc
            have l2 : ks0.length = ds0.length := l.trans dv.length
            have kk : (putD k y ks0 ds0).1 = (putD k w ks0 ws0).1 := put_keys l2 l
            rw [kk] at e2
            obtain ⟨ps, kvl, ks', ws', ds', rfl, h3, h4, h5, h6, h7, h8, h9, h10⟩ := dict_pairs (ws0 := (putD k w ks0 ws0).2) t e2 (put_len l) (put_dvs hy dv) (put_nodup l n) (fun q hq => (put_mem hq).elim (fun z => z ▸ ok) (o q))
            refine ⟨_ :: ps, (Sum.inr (tx k), w) :: kvl, ks', ws', ds', rfl, .cons h1.sq h3, ?_, h5, h6, h7, h8, h9, ?_⟩
            · rw [← h4, ← putK_kvs l n]
              rfl
            · have := put_le (k := k) (v := w) (ks := ks0) (vs := ws0)
              rw [List.length_cons]
              omega
/-- dict(t) of a tuple of pairs -/
theorem call_dictT (hcalm : X.calm = true) : CallR X (.type "dict") (fun xs H Q => ∃ (a : Addr) (ps : List Addr) (kvl : List (Key × V)), xs = [.ref a] ∧ FT H a (ps.map V.ref) ∧ Paired (fun p kv => SqT X.K H p [kV kv.1, kv.2]) ps kvl ∧
    ∀ p, H p = none → Q (.ref p) (upd H p (.dK (mergeK [] kvl)))) := by
  rintro pins s σ H xs us Q I r ⟨a, ps, kvl, rfl, ⟨i0, ft⟩, hp, q⟩
  obtain ⟨u, rfl, rx⟩ := vals1 r
  cases rx
  obtain ⟨ho, hz, its, rv, _⟩ := (show ObjOk X.prog X.w H s.heap a (.frz (tupO i0) (.tup (ps.map V.ref))) from I.hok a _ ft)
  obtain ⟨its, rv, ⟨o, ho2, hc2, n2, hd2⟩, _⟩ := I.tuple (show SqT X.K H a (ps.map V.ref) from .inl (.inr ⟨_, ft⟩))
  rw [ho] at ho2
  cases ho2
  have ei := refs_at rv
  subst ei
  have ei2 : i0 = ps.map Value.ref := by
    have z : (Data.seq i0.toArray _ : Data) = Data.seq (ps.map Value.ref).toArray n2 := hd2
    injection z with z1 _
    simpa using congrArg Array.toList z1
  subst ei2
  rw [List.length_map] at hz
  obtain ⟨prs, rel, hl, hpr⟩ := pairs_of I hp
  have ex : ∃ us : List Value, us.length = prs.length ∧ ∀ (j : Nat) (q : Key × Value), prs[j]? = some q → ∃ b, ps[j]? = some b ∧ ∃ u, us[j]? = some u ∧ PyProof.Rows.IsTup s.heap b #[u, q.2] ∧ keyIs q.1 u = true := by
    clear rel
    have : ∀ (m : Nat), m ≤ prs.length → ∃ us : List Value, us.length = m ∧ ∀ (j : Nat) (q : Key × Value), j < m → prs[j]? = some q → ∃ b, ps[j]? = some b ∧ ∃ u, us[j]? = some u ∧ PyProof.Rows.IsTup s.heap b #[u, q.2] ∧ keyIs q.1 u = true := by
      intro m
      induction m with
      | zero => exact fun _ => ⟨[], rfl, fun j q h => absurd h (Nat.not_lt_zero _)⟩
      | succ m ih =>
        intro hm
        obtain ⟨us, h1, h2⟩ := ih (by omega)
        obtain ⟨b, u, e1, e2, e3⟩ := hpr m prs[m] (List.getElem?_eq_getElem (by omega))
        refine ⟨us ++ [u], by simp [h1], fun j q hj e => ?_⟩
        by_cases z : j < m
        · obtain ⟨b', g1, u', g2, g3⟩ := h2 j q z e
          exact ⟨b', g1, u', by rw [List.getElem?_append_left (by omega)]; exact g2, g3⟩
        · have : j = m := by omega
          subst this
          rw [List.getElem?_eq_getElem (by omega)] at e
          cases e
          exact ⟨b, e1, u, by rw [List.getElem?_append_right (by omega), h1]; simp, e2, e3⟩
    obtain ⟨us, h1, h2⟩ := this prs.length (Nat.le_refl _)
    exact ⟨us, h1, fun j q e => h2 j q (List.getElem?_eq_some_iff.mp e).1 e⟩
  obtain ⟨us, hul, hus⟩ := ex
  have hzip : ∀ (j : Nat) k v, (us.zip (prs.map (·.2)))[j]? = some (k, v) → ∃ q, prs[j]? = some q ∧ us[j]? = some k ∧ v = q.2 := by
    intro j k v e
    rw [List.getElem?_zip_eq_some] at e
    obtain ⟨e1, e2⟩ := e
    rw [List.getElem?_map] at e2
    cases q : prs[j]? with
    | none => rw [q] at e2; cases e2
    | some p => rw [q] at e2; cases e2; exact ⟨p, rfl, e1, rfl⟩
  have hlen : (us.zip (prs.map (·.2))).length = prs.length := by rw [List.length_zip, List.length_map, hul, Nat.min_self]
  refine call_dict_pairs (knd := mixKind X.prog X.w) (kvs := prs) (PairArg.tuple a (ps.map Value.ref).toArray (fun j => ps.getD j 0) (us.zip (prs.map (·.2)))) (I.ok.hd hcalm) ?_ ?_ (by rw [hlen, hl]; exact hz) fun h' tk hd' k => ?_
  · refine ⟨⟨_, _, ho, rfl, rfl, rfl⟩, by rw [List.size_toArray, List.length_map, hlen, hl], fun j k v e => ?_⟩
    obtain ⟨q, e1, e2, rfl⟩ := hzip j k v e
    obtain ⟨b, g1, u, g2, g3, g4⟩ := hus j q e1
    rw [e2] at g2
    cases g2
    have eb : ps.getD j 0 = b := by rw [List.getD_eq_getElem?_getD, g1]; rfl
    show _ = some (Value.ref (ps.getD j 0)) ∧ PairAt s.heap (ps.getD j 0) _ _
    rw [eb]
    exact ⟨by rw [List.getElem?_toArray, List.getElem?_map, g1]; rfl, .inl g3⟩
  · refine ⟨hlen.symm, fun j k v e => ?_⟩
    obtain ⟨q, e1, e2, rfl⟩ := hzip j k v e
    obtain ⟨b, g1, u, g2, g3, g4⟩ := hus j q e1
    rw [e2] at g2
    cases g2
    exact ⟨q.1, e1, g4⟩
  · have hm : (s.heap.objs.size == sysModules) = false := beq_eq_false_iff_ne.mpr (Nat.ne_of_gt I.big)
    have hle : (mergeK [] kvl).length ≤ sizeLine := by
      refine Nat.le_trans (length_mergeK kvl []) ?_
      rw [List.length_nil, Nat.zero_add, rel.length, hl]
      exact hz
    exact ⟨.ref _, upd H s.heap.objs.size (.dK (mergeK [] kvl)), I.laid (t' := tk) (fun b o e => k b o (fun z => nomatch z) e) (Nat.le_refl _) (show ObjOk X.prog X.w _ _ _ (.dK (mergeK [] kvl)) from ⟨hle, hm, merged [] prs, KV.merge rel .nil, hd'⟩), rfl, q _ I.fresh⟩
theorem fin_dct {H : Hp} {B : Addr → Prop} {Q : VK} {ks : List Tx} {ws : List V} {ds : List D} (l : ks.length ≤ lim) (l2 : ks.length = ws.length) (n : ks.Nodup) (o : ∀ k ∈ ks, okTx k) (h : Dvs K H B ws ds) (f : FinD .n K B H Q (.dct ks ds)) :
    ∀ p, H p = none → Q (.ref p) (upd H p (.dK (kvs ks ws))) := fun p z => f p H ws (Same.refl H) z l l2 n o h
theorem cr_dictD (hc : X.calm = true) : CallR X (.type "dict") (rB .n X.K (bltO .dict)) := by
  rintro pins s σ H xs us Q I rv ⟨B, ds, d, t, bs, e, fi⟩
  match ds, e with
  | [.lst z], e =>
    obtain ⟨v, rfl, bv⟩ := bors_one bs
    obtain ⟨a, vs, rfl, h1, l1, d1⟩ := bv
    obtain ⟨ps, kvl, ks', ws', ds', rfl, h3, h4, rfl, h6, h7, h8, h9, h10⟩ := dict_pairs (ks0 := []) (ws0 := []) d1 e rfl .nil List.nodup_nil (fun _ z => nomatch z)
    refine call_dictP hc pins s σ H _ us Q I rv ⟨a, ps, kvl, rfl, .inl (.inl h1), h3, ?_⟩
    rw [show mergeK [] kvl = kvs ks' ws' from h4]
    exact fin_dct (Nat.le_trans (by simpa using h10) l1) h6 h8 h9 h7 fi
  | [.tup z], e =>
    obtain ⟨v, rfl, bv⟩ := bors_one bs
    cases bv with
    | tup h0 h1 l1 d1 =>
      obtain ⟨ps, kvl, ks', ws', ds', rfl, h3, h4, rfl, h6, h7, h8, h9, h10⟩ := dict_pairs (ks0 := []) (ws0 := []) d1 e rfl .nil List.nodup_nil (fun _ z => nomatch z)
      refine call_dictT hc pins s σ H _ us Q I rv ⟨_, ps, kvl, rfl, h1, h3, ?_⟩
      rw [show mergeK [] kvl = kvs ks' ws' from h4]
      exact fin_dct (Nat.le_trans (by simpa using h10) l1) h6 h8 h9 h7 fi
end
end Mn
end
section
set_option Elab.async false
set_option linter.all false
set_option maxRecDepth 100000
set_option maxHeartbeats 4000000
set_option autoImplicit false
/-! D9: methods. -/
namespace Mn
open PySem PySem.Spec L2
section
variable {X : Cx} {K : Frag} {cv : Nat → Value} {W : WX} {e a b c o : Expr} {pos apos : Pos} {f g h : Env → M D} {es : List Expr} {fa : Env → M (List D)}
def noSuper : Expr → Bool
  | .Call (.Name _ _) [] [] _ => false
  | _ => true
theorem base_of {o : Expr} {name : Str} {env : PySem.Env} (h : noSuper o = true) : attributeBase o name env (eval o env) = eval o env := by
  unfold attributeBase
  split
  · cases h
  · rfl
def fMth (m : Mth) (f : Env → M D) (fa : Env → M (List D)) : Env → M D := fun ρ => bd (f ρ) fun x => if rcv m x then bd (fa ρ) fun ds => li (mthO m x ds) else none
/-- by values -/
def rM (m : Md) (K : Frag) (t : Mth) (p : D → Prop) : V → List V → Hp → VK → Prop := fun x xs H Q => ∃ B dx ds d, Tr H B ∧ p dx ∧ Bor K H B x dx ∧ Bors K H B xs ds ∧ mthO t dx ds = some d ∧ FinD m K B H Q d
/-- a receiver of the kind p has the type T -/
def Kind (K : Frag) (T : String) (p : D → Prop) : Prop := ∀ x H B v, p x → Bor K H B v x → tyV K T v H
theorem kind_str : Kind K "str" fun x => ∃ s, x = .str s := by
  rintro x H B v ⟨s, rfl⟩ h
  cases h
  rfl
theorem kind_lst : Kind K "list" fun x => ∃ s, x = .lst s := by
  rintro x H B v ⟨s, rfl⟩ ⟨a, vs, rfl, h, _⟩
  exact .inl ⟨rfl, vs, .inl (.inl h)⟩
theorem mth_read {m : Md} {t : Mth} {T : String} {p : D → Prop} (hk : Kind K T p) : ∀ σ H Q, (∃ B H0 ρ r, Rep K B H0 H σ ρ ∧ fMth t f fa ρ = some r ∧ (∀ x, f ρ = some (.ok x) → p x) ∧ FinR m K cv W (Bn B σ ρ) σ H Q r) → tBM K T (rM m K t p) (rd .b K cv W f) (rdA false K cv W fa) σ H Q := by
  rintro σ H Q ⟨B, H0, ρ, r, rep, e, hp, fin⟩
  rcases bd_inv e with ⟨x, hf, e⟩ | ⟨c, hf, rfl⟩
  · refine ⟨B, H0, ρ, _, rep, hf, fun v H1 s1 bv => ⟨hk x H1 _ v (hp x hf) bv, ?_⟩⟩
    split at e
    · rcases bd_inv e with ⟨ds, hg, e⟩ | ⟨c, hg, rfl⟩
      · refine ⟨B, H0, ρ, _, rep.ext s1, hg, fun vs H2 s2 bu => ?_⟩
        obtain ⟨d, hh, rfl⟩ := li_inv e
        exact ⟨_, x, ds, d, ((rep.ext s1).ext s2).bn, hp x hf, bv.ext s2, bu, hh, FinD.shift (s1.trans s2) fin⟩
      · exact ⟨B, H0, ρ, _, rep.ext s1, hg, fun H' s => fin H' (s1.trans s)⟩
    · cases e
  · exact ⟨B, H0, ρ, _, rep, hf, fin⟩
theorem few_of {cpos : Pos} {env : PySem.Env} {es : List Expr} (hs : es.all noStar = true) (hl : es.length < 29) : ((backTo cpos (starEach es env)).all (fun x => !x.1) && (backToKw cpos (keywordEach [] env)).all (fun x => x.1.isSome)
      && decide (es.length + ([] : List Keyword).length + (if ([] : List Keyword).isEmpty then 0 else 1) < 30)) = true := by
  rw [star_all hs]
  show (true && true && decide (es.length + 0 + 0 < 30)) = true
  rw [decide_eq_true (by omega)]
  rfl
theorem pe_mthD {m : Md} {t : Mth} {T id : String} {name : Str} {p : D → Prop} (hk : Kind X.K T p) (pa : PlainAttrs T) (slot : Slot T name id) (hty : typeOf (.builtin id) = pure (.type "method_descriptor")) (hm : MtR X id (rM m X.K t p))
    (ho : PE X o (rd .b X.K cv W f)) (ha : PA X (a :: es) (rdA false X.K cv W fa)) (hb : noSuper o = true) (hs : (a :: es).all noStar = true) (hl : (a :: es).length < 29) (hline : (apos.endLine == pos.line) = true) :
    PE X (.Call (.Attribute o name apos) (a :: es) [] pos) (fun σ H Q => ∃ B H0 ρ r, Rep X.K B H0 H σ ρ ∧ fMth t f fa ρ = some r ∧ (∀ x, f ρ = some (.ok x) → p x) ∧ FinR m X.K cv W (Bn B σ ρ) σ H Q r) := by
  have hs' := hs
  rw [List.all_cons, Bool.and_eq_true] at hs'
  exact pe_imp (pe_bm pa slot hty hm ho ha (base_of hb) (few_of hs hl) hline (star_one hs'.1) (star_any hs'.2)) (mth_read hk)
/-- one kind alone -/
theorem pe_mth1 {m : Md} {t : Mth} {p : D → Prop} {e : Expr} (hp : ∀ x, rcv t x = true → p x) (h : PE X e (fun σ H Q => ∃ B H0 ρ r, Rep X.K B H0 H σ ρ ∧ fMth t f fa ρ = some r ∧ (∀ x, f ρ = some (.ok x) → p x) ∧ FinR m X.K cv W (Bn B σ ρ) σ H Q r)) : PE X e (rd m X.K cv W (fMth t f fa)) := by
  refine pe_imp h ?_
  rintro σ H Q ⟨B, H0, ρ, r, rep, e, fin⟩
  refine ⟨B, H0, ρ, r, rep, e, fun x hx => ?_, fin⟩
  unfold fMth at e
  rw [hx, bd_ok] at e
  by_cases z : rcv t x = true
  · exact hp x z
  · rw [if_neg z] at e; cases e
theorem pe_mth2 {m : Md} {t : Mth} {p q : D → Prop} {e : Expr} (hp : ∀ x, rcv t x = true → p x ∨ q x) (h : PE X e (fun σ H Q => ∃ B H0 ρ r, Rep X.K B H0 H σ ρ ∧ fMth t f fa ρ = some r ∧ (∀ x, f ρ = some (.ok x) → p x) ∧ FinR m X.K cv W (Bn B σ ρ) σ H Q r))
    (h2 : PE X e (fun σ H Q => ∃ B H0 ρ r, Rep X.K B H0 H σ ρ ∧ fMth t f fa ρ = some r ∧ (∀ x, f ρ = some (.ok x) → q x) ∧ FinR m X.K cv W (Bn B σ ρ) σ H Q r)) : PE X e (rd m X.K cv W (fMth t f fa)) := by
  refine ⟨fun pins s σ H Q I ⟨B, H0, ρ, r, rep, e, fin⟩ => ?_⟩
  have key : (∀ x, f ρ = some (.ok x) → p x) ∨ (∀ x, f ρ = some (.ok x) → q x) := by
    cases hf : f ρ with
    | none => exact .inl fun x z => nomatch z
    | some rf =>
      cases rf with
      | exc c => exact .inl fun x z => nomatch z
      | ok x =>
        have e2 := e
        unfold fMth at e2
        rw [hf, bd_ok] at e2
        by_cases z : rcv t x = true
        · exact (hp x z).imp (fun w y hy => by cases hy; exact w) (fun w y hy => by cases hy; exact w)
        · rw [if_neg z] at e2; cases e2
  rcases key with k | k
  · exact h.run pins s σ H Q I ⟨B, H0, ρ, r, rep, e, k, fin⟩
  · exact h2.run pins s σ H Q I ⟨B, H0, ρ, r, rep, e, k, fin⟩
/-! no argument -/
theorem mth_read0 {m : Md} {t : Mth} {T : String} {p : D → Prop} (hk : Kind K T p) : ∀ σ H Q, (∃ B H0 ρ r, Rep K B H0 H σ ρ ∧ fMth t f (fun _ => rt []) ρ = some r ∧ (∀ x, f ρ = some (.ok x) → p x) ∧ FinR m K cv W (Bn B σ ρ) σ H Q r) → tBM0 K T (rM m K t p) (rd .b K cv W f) σ H Q := by
  rintro σ H Q ⟨B, H0, ρ, r, rep, e, hp, fin⟩
  rcases bd_inv e with ⟨x, hf, e⟩ | ⟨c, hf, rfl⟩
  · refine ⟨B, H0, ρ, _, rep, hf, fun v H1 s1 bv => ⟨hk x H1 _ v (hp x hf) bv, ?_⟩⟩
    split at e
    · rw [bd_ok] at e
      obtain ⟨d, hh, rfl⟩ := li_inv e
      exact ⟨_, x, [], d, (rep.ext s1).bn, hp x hf, bv, .nil, hh, FinD.shift s1 fin⟩
    · cases e
  · exact ⟨B, H0, ρ, _, rep, hf, fin⟩
theorem pe_mthD0 {m : Md} {t : Mth} {T id : String} {name : Str} {p : D → Prop} (hk : Kind X.K T p) (pa : PlainAttrs T) (slot : Slot T name id) (hty : typeOf (.builtin id) = pure (.type "method_descriptor")) (hm : MtR X id (rM m X.K t p))
    (ho : PE X o (rd .b X.K cv W f)) (hb : noSuper o = true) (hline : (apos.endLine == pos.line) = true) :
    PE X (.Call (.Attribute o name apos) [] [] pos) (fun σ H Q => ∃ B H0 ρ r, Rep X.K B H0 H σ ρ ∧ fMth t f (fun _ => rt []) ρ = some r ∧ (∀ x, f ρ = some (.ok x) → p x) ∧ FinR m X.K cv W (Bn B σ ρ) σ H Q r) :=
  pe_imp (pe_bm0 pa slot hty hm ho (base_of hb) hline) (mth_read0 hk)
/-! ### the methods -/
theorem strs_map {H : Hp} {B : Addr → Prop} : ∀ {ds : List D} {vs : List V} {ts : List Tx}, Dvs K H B vs ds → strL ds = some ts → vs = (ts.map tx).map V.str ∧ (∀ t ∈ ts, okTx t)
  | [], _, ts, .nil, e => by cases e; exact ⟨rfl, fun _ z => nomatch z⟩
  | d :: ds, _, ts, .cons h t, e => by
    cases d <;> first
      | (cases e; done)
      | skip
    rename_i z
    cases q : strL ds with
    | none => simp only [strL, q] at e; cases e
    | some us =>
      simp only [strL, q, Option.map_some, Option.some.injEq] at e
      subst e
      obtain ⟨h1, h2⟩ := strs_map t q
      cases h with
      | str ok =>
        refine ⟨by rw [h1]; rfl, fun y hy => ?_⟩
        rcases List.mem_cons.mp hy with rfl | hy
        · exact ok
        · exact h2 y hy
theorem join_tx (s : Tx) : ∀ ts : List Tx, Str.join (tx s) (ts.map tx) = tx (joinTx s ts)
  | [] => rfl
  | [x] => rfl
  | x :: y :: r => by
    show tx x ++ tx s ++ Str.join (tx s) ((y :: r).map tx) = _
    rw [join_tx s (y :: r), tx_app, tx_app]
    rfl
theorem join_mem {s : Tx} {c : Nat} : ∀ {ts : List Tx}, c ∈ joinTx s ts → c ∈ s ∨ ∃ t ∈ ts, c ∈ t
  | [], h => nomatch h
  | [x], h => .inr ⟨x, List.mem_cons_self, h⟩
  | x :: y :: r, h => by
    rcases List.mem_append.mp h with h | h
    · rcases List.mem_append.mp h with h | h
      · exact .inr ⟨x, List.mem_cons_self, h⟩
      · exact .inl h
    · rcases join_mem h with h | ⟨t, ht, hc⟩
      · exact .inl h
      · exact .inr ⟨t, List.mem_cons_of_mem _ ht, hc⟩
theorem join_len (s : Tx) : ∀ ts : List Tx, (joinTx s ts).length ≤ joinSz s ts
  | [] => Nat.zero_le _
  | [x] => by simp [joinTx, joinSz]
  | x :: y :: r => by
    have := join_len s (y :: r)
    unfold joinSz at this ⊢
    simp only [joinTx, List.length_append, List.map_cons, List.sum_cons, List.length_cons] at this ⊢
    rw [Nat.add_mul, Nat.one_mul]
    omega
theorem mt_joinD : MtR X "str.join" (rM .n X.K .join fun x => ∃ s, x = .str s) := by
  rintro pins s σ H x xs v us Q I rx rxs ⟨B, dx, ds, d, t, ⟨z, rfl⟩, bx, bs, e, fi⟩
  cases bx with
  | str o =>
    have key : ∀ (w : V) (ys : List D) (ts : List Tx) (q : Addr) (ws : List V), xs = [w] → w = .ref q → (SqL X.K H q ws ∨ SqT X.K H q ws) → Dvs X.K H B ws ys → strL ys = some ts → joinSz z ts ≤ lim → FinD .n X.K B H Q (.str (joinTx z ts)) → wpAny (model X.prog X.w) X.A (call (.builtin "str.join") (v :: us)) (EP X pins σ Q) X.xe s := by
      rintro w ys ts q ws rfl rfl hq dw hs hl fi
      obtain ⟨rfl, hok⟩ := strs_map dw hs
      refine mt_join pins s σ H _ _ v us Q I rx rxs ⟨tx z, q, ts.map tx, rfl, rfl, hq, ?_, ?_⟩
      · have e1 : (ts.map tx).map (·.length) = ts.map (·.length) := by
          rw [List.map_map]
          exact List.map_congr_left fun y _ => tx_len y
        rw [e1, List.length_map, tx_len]
        exact hl
      · have e2 : Txt.join (tx z) (ts.map tx) = tx (joinTx z ts) := (StrLaws.glued_eq_join _ _).trans (join_tx z ts)
        rw [e2]
        refine fin_str ⟨Nat.le_trans (join_len z ts) hl, fun c hc => ?_⟩ fi
        rcases join_mem hc with h | ⟨y, hy, h⟩
        · exact o.2 c h
        · exact (hok y hy).2 c h
    match ds, e with
    | [.lst y], e =>
      obtain ⟨w, rfl, bw⟩ := bors_one bs
      obtain ⟨q, ws, rfl, h1, l1, d1⟩ := bw
      simp only [mthO] at e
      split at e
      · rename_i ts hs
        split at e
        · rename_i hl
          cases e
          exact key _ y ts q ws rfl rfl (.inl (.inl (.inl h1))) d1 hs hl fi
        · cases e
      · cases e
    | [.tup y], e =>
      obtain ⟨w, rfl, bw⟩ := bors_one bs
      cases bw with
      | tup h0 h1 l1 d1 =>
        simp only [mthO] at e
        split at e
        · rename_i ts hs
          split at e
          · rename_i hl
            cases e
            exact key _ y ts _ _ rfl rfl (.inr h1.sq) d1 hs hl fi
          · cases e
        · cases e
theorem mt_lowerD : MtR X "str.lower" (rM .n X.K .lower fun x => ∃ s, x = .str s) := by
  rintro pins s σ H x xs v us Q I rx rxs ⟨B, dx, ds, d, t, ⟨z, rfl⟩, bx, bs, e, fi⟩
  match ds, e with
  | [], e =>
    cases bs
    simp only [mthO] at e
    split at e
    · rename_i h
      cases e
      rw [Bool.and_eq_true, List.all_eq_true, decide_eq_true_eq] at h
      cases bx with
      | str o =>
        refine mt_lower pins s σ H _ _ v us Q I rx rxs ⟨tx z, rfl, rfl, by rw [tx_len]; omega, ?_⟩
        rw [PyProof.Rows.lower_ascii (x := tx z) (fun c hc => by rw [tx_cps] at hc; simpa using h.1 c hc)]
        have e2 : (⟨(tx z).cps.map PyProof.Rows.lo1⟩ : Str) = tx (z.map lowC) := by
          unfold tx
          rw [List.map_toArray]
          rfl
        rw [e2]
        refine fin_str ⟨by rw [List.length_map]; exact o.1, fun c hc => ?_⟩ fi
        obtain ⟨y, hy, rfl⟩ := List.mem_map.mp hc
        have := h.1 y hy
        simp only [decide_eq_true_eq] at this
        unfold lowC
        split <;> omega
    · cases e
theorem mt_upperD : MtR X "str.upper" (rM .n X.K .upper fun x => ∃ s, x = .str s) := by
  rintro pins s σ H x xs v us Q I rx rxs ⟨B, dx, ds, d, t, ⟨z, rfl⟩, bx, bs, e, fi⟩
  match ds, e with
  | [], e =>
    cases bs
    simp only [mthO] at e
    split at e
    · rename_i h
      cases e
      rw [Bool.and_eq_true, List.all_eq_true, decide_eq_true_eq] at h
      cases bx with
      | str o =>
        refine mt_upper pins s σ H _ _ v us Q I rx rxs ⟨tx z, rfl, rfl, by rw [tx_len]; omega, ?_⟩
        rw [PyProof.Rows.upper_ascii (x := tx z) (fun c hc => by rw [tx_cps] at hc; simpa using h.1 c hc)]
        have e2 : (⟨(tx z).cps.map PyProof.Rows.up1⟩ : Str) = tx (z.map uppC) := by
          unfold tx
          rw [List.map_toArray]
          rfl
        rw [e2]
        refine fin_str ⟨by rw [List.length_map]; exact o.1, fun c hc => ?_⟩ fi
        obtain ⟨y, hy, rfl⟩ := List.mem_map.mp hc
        have := h.1 y hy
        simp only [decide_eq_true_eq] at this
        unfold uppC
        split <;> omega
    · cases e
/-- the first place of a sign -/
theorem findC_get {c : Nat} : ∀ {z : Tx} {n k : Nat}, findC c z n = some k → n ≤ k ∧ z[k - n]? = some c ∧ ∀ j, j < k - n → z[j]? ≠ some c
  | [], _, _, e => by cases e
  | x :: xs, n, k, e => by
    unfold findC at e
    by_cases h : x = c
    · rw [if_pos h] at e
      cases e
      refine ⟨Nat.le_refl _, by simp [h], fun j hj => by omega⟩
    · rw [if_neg h] at e
      obtain ⟨h1, h2, h3⟩ := findC_get e
      have e1 : k - n = (k - (n + 1)) + 1 := by omega
      refine ⟨by omega, by rw [e1, List.getElem?_cons_succ]; exact h2, fun j hj => ?_⟩
      cases j with
      | zero => simpa using h
      | succ j => rw [List.getElem?_cons_succ]; exact h3 j (by omega)
theorem occ_findC {z : Tx} {c k : Nat} (e : findC c z 0 = some k) : ∃ rest, Builtin.Str.occurrences (tx z) (tx [c]) 0 (tx z).length 1 = k :: rest := by
  obtain ⟨_, h2, h3⟩ := findC_get e
  rw [Nat.sub_zero] at h2 h3
  have at_ : ∀ i, StrLaws.At (tx z) (tx [c]) (tx z).length i ↔ z[i]? = some c := fun i => by
    have := StrLaws.subAt_one (tx z) c i
    rw [tx_cps] at this
    exact this
  rw [StrLaws.occ_eq]
  rcases StrLaws.occ_first (tx z) (tx [c]) (tx z).length 1 (Nat.le_refl _) (List.range' 0 ((tx z).length + 1 - 0)) 0 (fun _ _ => Nat.zero_le _) with ⟨_, hn⟩ | ⟨pre, a, post, el, h0, ha, hn⟩
  · have hk : k < z.length := (List.getElem?_eq_some_iff.mp h2).1
    refine absurd ((at_ k).mpr h2) (hn k ?_)
    rw [List.mem_range'_1, tx_len]
    omega
  · have hka : k = a := by
      have h4 := (at_ a).mp ha
      by_cases z1 : a < k
      · exact absurd h4 (h3 a z1)
      · by_cases z2 : k < a
        · exact absurd ((at_ k).mpr h2) (hn k (StrLaws.range'_split el k z2))
        · omega
    subst hka
    generalize (forIn (List.range' 0 ((tx z).length + 1 - 0)) ((#[] : Array Nat), 0) (StrLaws.occBody (tx z) (tx [c]) (tx z).length 1)).run.fst = arr at h0 ⊢
    cases q : arr.toList with
    | nil =>
      rw [← Array.getElem?_toList, q] at h0
      cases h0
    | cons y r =>
      rw [← Array.getElem?_toList, q] at h0
      cases h0
      exact ⟨r, rfl⟩
theorem mt_sindexD : MtR X "str.index" (rM .n X.K .index fun x => ∃ s, x = .str s) := by
  rintro pins s σ H x xs v us Q I rx rxs ⟨B, dx, ds, d, t, ⟨z, rfl⟩, bx, bs, e, fi⟩
  match ds, e with
  | [.str [c]], e =>
    obtain ⟨w, rfl, bw⟩ := bors_one bs
    cases bx
    cases bw
    cases q : findC c z 0 with
    | none => simp only [mthO, q] at e; cases e
    | some k =>
      simp only [mthO, q, Option.map_some, Option.some.injEq] at e
      subst e
      obtain ⟨rest, ho⟩ := occ_findC q
      exact mt_sindex pins s σ H _ _ v us Q I rx rxs ⟨_, _, k, rest, rfl, rfl, ho, fin_int fi⟩
theorem findL_get {c : D} : ∀ {z : List D} {n k : Nat}, findL c z n = some k → n ≤ k ∧ (∃ y, z[k - n]? = some y ∧ eqD y c = true) ∧ ∀ j y, j < k - n → z[j]? = some y → eqD y c = false
  | [], _, _, e => by cases e
  | x :: xs, n, k, e => by
    unfold findL at e
    by_cases h : eqD x c = true
    · rw [if_pos h] at e
      cases e
      exact ⟨Nat.le_refl _, ⟨x, by simp, h⟩, fun j y hj => by omega⟩
    · rw [if_neg h] at e
      obtain ⟨h1, ⟨y, h2, hy⟩, h3⟩ := findL_get e
      have e1 : k - n = (k - (n + 1)) + 1 := by omega
      refine ⟨by omega, ⟨y, by rw [e1, List.getElem?_cons_succ]; exact h2, hy⟩, fun j y hj ej => ?_⟩
      cases j with
      | zero => rw [List.getElem?_cons_zero] at ej; cases ej; simpa using h
      | succ j => rw [List.getElem?_cons_succ] at ej; exact h3 j y (by omega) ej
theorem all_get {z : List D} {j : Nat} {y : D} (h : z.all flat = true) (e : z[j]? = some y) : flat y = true := List.all_eq_true.mp h y (List.mem_of_getElem? e)
theorem mt_lindexD : MtR X "list.index" (rM .n X.K .index fun x => ∃ s, x = .lst s) := by
  rintro pins s σ H x xs v us Q I rx rxs ⟨B, dx, ds, d, t, ⟨z, rfl⟩, bx, bs, e, fi⟩
  match ds, e with
  | [y], e =>
    obtain ⟨w, rfl, bw⟩ := bors_one bs
    obtain ⟨a, vs, rfl, h1, l1, d1⟩ := bx
    have e' : (if (flat y && z.all flat) = true then (findL y z 0).map (fun (n : Nat) => D.int (n : Int)) else none) = some d := by
      cases y <;> exact e
    split at e'
    · rename_i fl
      rw [Bool.and_eq_true] at fl
      cases q : findL y z 0 with
      | none => rw [q] at e'; cases e'
      | some k =>
        rw [q] at e'
        cases e'
        obtain ⟨_, ⟨y', h2, hy⟩, h3⟩ := findL_get q
        rw [Nat.sub_zero] at h2 h3
        have fw := flat_dv fl.1 bw
        obtain ⟨w', e1, dw⟩ := d1.get h2
        refine mt_index pins s σ H _ _ v us Q I rx rxs ⟨a, vs, w, k, w', rfl, rfl, .inl (.inl h1), fw.1, flats_dv fl.2 d1, e1, ?_, fun m z' hm ez => ?_, fin_int fi⟩
        · rw [eqV_eq (all_get fl.2 h2) fl.1 dw fw.2]; exact hy
        · obtain ⟨dz, e2, dz2⟩ := d1.getV ez
          rw [eqV_eq (all_get fl.2 e2) fl.1 dz2 fw.2]
          exact h3 m dz hm e2
    · cases e'
/-! ### d.get(k, x) -/
theorem pe_getD (hu : X.A.units + 1 < cLine) (ho : PE X o (rd .b X.K cv W f)) (ha : PE X a (rd .v X.K cv W g)) (hb : PE X b (rd .v X.K cv W h)) (hs : noSuper o = true) (h1 : noStar a = true) (h2 : noStar b = true) (hline : (apos.endLine == pos.line) = true) :
    PE X (.Call (.Attribute o "get" apos) [a, b] [] pos) (rd .v X.K cv W (fMth .get f (fCons g (fCons h fun _ => rt [])))) := by
  have m : M2 X o "get" apos a b pos := ⟨base_of hs, few_of (by simp [h1, h2]) (by decide : 2 < 29), hline, by rw [star_one h1, star_one h2]; rfl⟩
  refine pe_imp (pe_dget2 hu ho ha hb m) ?_
  rintro σ H Q ⟨B, H0, ρ, r, rep, e, fin⟩
  rcases bd_inv e with ⟨x, hf, e⟩ | ⟨c, hf, rfl⟩
  · by_cases hr : rcv .get x = true
    · rw [if_pos hr] at e
      cases x <;> first
        | (cases hr; done)
        | skip
      rename_i ks vs
      refine ⟨B, H0, ρ, _, rep, hf, fun v H1 s1 bv => ?_⟩
      have bv2 := bv
      obtain ⟨a, ws, rfl, h1, h2, h3, h4, h5, h6⟩ := bv
      refine ⟨a, rfl, .inl ⟨_, h1⟩, ?_⟩
      rcases bd_inv e with ⟨ds, he, e⟩ | ⟨c, he, rfl⟩
      · rcases bd_inv he with ⟨y, hg, he⟩ | ⟨c, hg, hr⟩
        · refine ⟨B, H0, ρ, _, rep.ext s1, hg, fun u H2 s2 bu => ?_⟩
          have s12 := s1.trans s2
          rcases bd_inv he with ⟨ds2, he2, he⟩ | ⟨c, hg2, hr⟩
          · cases he
            rcases bd_inv he2 with ⟨z, hh, he3⟩ | ⟨c, hg2, hr⟩
            · rw [bd_ok] at he3
              cases he3
              refine ⟨B, H0, ρ, _, rep.ext s12, hh, fun w H3 s3 bw => ?_⟩
              obtain ⟨d, hd, rfl⟩ := li_inv e
              obtain ⟨k, rfl⟩ : ∃ k, y = .str k := by
                cases y <;> first
                  | (cases hd; done)
                  | exact ⟨_, rfl⟩
              cases bu
              cases hd
              obtain ⟨_, _, e0, h1', _, _, _, _, h6'⟩ := bv2.ext (s2.trans s3)
              obtain rfl : a = _ := V.ref.inj e0
              refine ⟨assocV k ks _, .inl ⟨_, Sum.inr (tx k), h1', rfl, (valV_kvs k ks _).symm⟩, ?_⟩
              cases q : assocD k ks vs with
              | none => rw [assoc_none k h6' q]; exact fin _ H3 (s12.trans s3) (by rw [q]; exact bw)
              | some d =>
                obtain ⟨v', e1, dv⟩ := assoc_some k h6' q
                rw [e1]
                exact fin _ H3 (s12.trans s3) (by rw [q]; exact dv)
            · cases hr
          · cases hr
        · cases hr
      · rcases bd_inv he with ⟨y, hg, he⟩ | ⟨c', hg, hr⟩
        · refine ⟨B, H0, ρ, _, rep.ext s1, hg, fun u H2 s2 bu => ?_⟩
          have s12 := s1.trans s2
          rcases bd_inv he with ⟨ds2, he2, he⟩ | ⟨c', hg2, hr⟩
          · cases he
          · cases hr
            rcases bd_inv hg2 with ⟨z, hh, he3⟩ | ⟨c', hg3, hr⟩
            · rw [bd_ok] at he3
              cases he3
            · cases hr
              exact ⟨B, H0, ρ, _, rep.ext s12, hg3, fun H' s => fin H' (s12.trans s)⟩
        · cases hr
          exact ⟨B, H0, ρ, _, rep.ext s1, hg, fun H' s => fin H' (s1.trans s)⟩
    · rw [if_neg hr] at e
      cases e
  · exact ⟨B, H0, ρ, _, rep, hf, fin⟩
end
end Mn
end
section
set_option Elab.async false
set_option linter.all false
set_option maxRecDepth 100000
set_option maxHeartbeats 4000000
set_option autoImplicit false
/-! D10: what is walked. -/
namespace Mn
open PySem PySem.Spec L2
def md (m : Bool) : Md := if m then .v else .b
/-- the heap that the walk leans on -/
noncomputable def unban (H : Hp) (Z : Addr → Prop) : Hp := fun a => open Classical in if Z a then none else H a
theorem unban_same (H : Hp) (Z : Addr → Prop) : Same (unban H Z) H := fun b o e => by
  unfold unban at e
  split at e
  · cases e
  · exact e
theorem unban_at {H : Hp} {Z : Addr → Prop} {b : Addr} {o : HO} (n : ¬ Z b) (e : H b = some o) : unban H Z b = some o := by
  unfold unban
  rw [if_neg n]
  exact e
theorem unban_no {H : Hp} {Z : Addr → Prop} {b : Addr} (n : Z b) : unban H Z b = none := by
  unfold unban
  rw [if_pos n]
theorem unban_unown (H : Hp) (B : Addr → Prop) (σ : St) (ρ : Env) : Same (unban H (Bn B σ ρ)) (unown H σ ρ) := fun b o e => by
  unfold unban at e
  split at e
  · cases e
  · rename_i n
    unfold unown
    rw [if_neg (fun z => n (.inr z))]
    exact e
noncomputable def bs (m : Bool) (H : Hp) (Z : Addr → Prop) : Hp := if m then unban H Z else H
/-- a new pair of known things -/
def Pr (K : Frag) (Hb : Hp) (B : Addr → Prop) (x : V) (d : D) (H H' : Hp) : Prop := ∃ T u v d1 d2, x = .ref T ∧ H T = none ∧ H' = upd H T (.tup [u, v]) ∧ d = .tup [d1, d2] ∧ Dv K Hb B u d1 ∧ Dv K Hb B v d2
def YD (p : Bool) (K : Frag) (Hb : Hp) (B : Addr → Prop) (ds : List D) : Nat → Hp → V → Hp → Prop := fun i H x H' => ∃ d, ds[i]? = some d ∧ if p then Pr K Hb B x d H H' else (H' = H ∧ Dv K Hb B x d)
theorem YD.up {p : Bool} {K : Frag} {Hb Hb' : Hp} {B : Addr → Prop} {ds : List D} {i : Nat} {H H' : Hp} {x : V} (s : Same Hb Hb') (y : YD p K Hb B ds i H x H') : YD p K Hb' B ds i H x H' := by
  obtain ⟨d, e, y⟩ := y
  refine ⟨d, e, ?_⟩
  cases p with
  | true =>
    obtain ⟨T, u, v, d1, d2, h1, h2, h3, h4, h5, h6⟩ : Pr K Hb B x d H H' := y
    exact ⟨T, u, v, d1, d2, h1, h2, h3, h4, h5.ext s, h6.ext s⟩
  | false => exact ⟨y.1, y.2.ext s⟩
def rdI (m p : Bool) (K : Frag) (cv : Nat → Value) (W : WX) (f : Env → M (List D)) : TI := fun σ H R =>
  ∃ B H0 ρ r, Rep K B H0 H σ ρ ∧ f ρ = some r ∧ match r with
    | .ok ds => ds.length ≤ lim → ∀ J H1, Same H H1 → Walk J ds.length (Same (bs m H1 (Bn B σ ρ))) (YD p K (bs m H1 (Bn B σ ρ)) (Bn B σ ρ) ds) → R J H1
    | .exc c => ∀ H', Same H H' → W (cv c) none σ H'
theorem pi_imp {X : Cx} {tg e : Expr} {t t' : TI} (h : PI X tg e t) (i : ∀ σ H Q, t' σ H Q → t σ H Q) : PI X tg e t' := ⟨fun pins s σ H Q I q => h.run pins s σ H Q I (i σ H Q q)⟩
theorem pi_any {X : Cx} {tg e : Expr} {t' : TI} (h : ∀ σ H Q, t' σ H Q → ∃ t, PI X tg e t ∧ t σ H Q) : PI X tg e t' := ⟨fun pins s σ H Q I q => by
  obtain ⟨t, ht, q⟩ := h σ H Q q
  exact ht.run pins s σ H Q I q⟩
section
variable {K : Frag} {B : Addr → Prop} {H H1 : Hp} {σ : St} {ρ : Env} {m : Bool}
theorem Dvs.unban {vs : List V} {ds : List D} (h : Dvs K H (Bn B σ ρ) vs ds) : Dvs K (unban H (Bn B σ ρ)) (Bn B σ ρ) vs ds := Dvs.keep (fun _ q _ => q) (fun b o n e => unban_at n e) _ _ h
theorem Dv.unban {v : V} {d : D} (h : Dv K H (Bn B σ ρ) v d) : Dv K (unban H (Bn B σ ρ)) (Bn B σ ρ) v d := Dv.keep (fun _ q _ => q) (fun b o n e => unban_at n e) _ _ h
/-- a thing that is walked, by its flavour -/
def Src (m : Bool) (K : Frag) (H : Hp) (B : Addr → Prop) (v : V) (d : D) : Prop := if m then Dv K H B v d else Bor K H B v d
theorem fin_src {Q : VK} {d : D} (h : ∀ v H', Same H H' → Src m K H' B v d → Q v H') : FinD (md m) K B H Q d := by
  cases m with
  | true => exact h
  | false => exact h
theorem src_lst {v : V} {ds : List D} (h : Src m K H (Bn B σ ρ) v (.lst ds)) : ∃ a vs, v = .ref a ∧ H a = some (.lst vs) ∧ bs m H (Bn B σ ρ) a = some (.lst vs) ∧ ds.length ≤ lim ∧ Dvs K (bs m H (Bn B σ ρ)) (Bn B σ ρ) vs ds := by
  cases m with
  | true =>
    have h : Dv K H (Bn B σ ρ) v (.lst ds) := h
    cases h with | lst h1 h2 h3 h4 => exact ⟨_, _, rfl, h2, unban_at h1 h2, h3, h4.unban⟩
  | false =>
    obtain ⟨a, vs, e, h2, h3, h4⟩ := h
    exact ⟨a, vs, e, h2, h2, h3, h4⟩
theorem src_tup {v : V} {ds : List D} (h : Src m K H (Bn B σ ρ) v (.tup ds)) : ∃ a vs, v = .ref a ∧ FT H a vs ∧ FT (bs m H (Bn B σ ρ)) a vs ∧ ds.length ≤ lim ∧ Dvs K (bs m H (Bn B σ ρ)) (Bn B σ ρ) vs ds := by
  cases m with
  | true =>
    have h : Dv K H (Bn B σ ρ) v (.tup ds) := h
    cases h with
    | tup h1 h2 h3 h4 =>
      obtain ⟨its, e⟩ := id h2
      exact ⟨_, _, rfl, h2, ⟨its, unban_at h1 e⟩, h3, h4.unban⟩
  | false =>
    have h : Dv K H (Bn B σ ρ) v (.tup ds) := h
    cases h with | tup h1 h2 h3 h4 => exact ⟨_, _, rfl, h2, h2, h3, h4⟩
theorem src_str {v : V} {x : Tx} (h : Src m K H B v (.str x)) : v = .str (tx x) ∧ okTx x := by
  cases m with
  | true =>
    have h : Dv K H B v (.str x) := h
    cases h with | str h1 => exact ⟨rfl, h1⟩
  | false =>
    have h : Dv K H B v (.str x) := h
    cases h with | str h1 => exact ⟨rfl, h1⟩
theorem FT.same {H H' : Hp} {a : Addr} {vs : List V} (h : FT H a vs) (s : Same H H') : FT H' a vs := let ⟨its, e⟩ := h; ⟨its, s _ _ e⟩
theorem dv_sign {x : Tx} {c i : Nat} {K : Frag} {H : Hp} {B : Addr → Prop} (h : okTx x) (e : x[i]? = some c) : Dv K H B (.str ⟨#[c]⟩) (.str [c]) :=
  .str (s := [c]) ⟨by show 1 ≤ lim; decide, fun z hz => by rw [List.mem_singleton.mp hz]; exact h.2 c (List.mem_of_getElem? e)⟩
theorem walk_lst {K : Frag} {Hb : Hp} {B : Addr → Prop} {a : Addr} {vs : List V} {ds : List D} (e : Hb a = some (.lst vs)) (h : Dvs K Hb B vs ds) : Walk (Itl K a) ds.length (Same Hb) (YD false K Hb B ds) := by
  rw [← h.length]
  refine walk_list.mono (fun H s => .inl (.inl (s a _ e))) fun i H x H' hi s y => ?_
  obtain ⟨e1, e2⟩ := y
  obtain ⟨d, ed, dv⟩ := h.getV e2
  exact ⟨d, ed, e1, dv⟩
theorem walk_tpl {K : Frag} {Hb : Hp} {B : Addr → Prop} {a : Addr} {vs : List V} {ds : List D} (e : FT Hb a vs) (h : Dvs K Hb B vs ds) : Walk (Itt K a) ds.length (Same Hb) (YD false K Hb B ds) := by
  rw [← h.length]
  refine walk_tup.mono (fun H s => (e.same s).sq) fun i H x H' hi s y => ?_
  obtain ⟨e1, e2⟩ := y
  obtain ⟨d, ed, dv⟩ := h.getV e2
  exact ⟨d, ed, e1, dv⟩
theorem walk_txt {K : Frag} {Hb : Hp} {B : Addr → Prop} {x : Tx} (h : okTx x) : Walk (Its (tx x)) (x.map fun c => D.str [c]).length (Same Hb) (YD false K Hb B (x.map fun c => D.str [c])) := by
  have w := walk_str (z := tx x)
  have e : (x.map fun c => D.str [c]).length = (tx x).cps.size := by simp [tx]
  rw [e]
  refine w.mono (fun H s => trivial) fun i H v H' hi s y => ?_
  obtain ⟨e1, c, ec, ev⟩ := y
  have ec : x[i]? = some c := by simpa [tx] using ec
  exact ⟨.str [c], by rw [List.getElem?_map, ec]; rfl, e1, by rw [ev]; exact dv_sign h ec⟩
end
section
variable {X : Cx} {tg e : Expr} {cv : Nat → Value} {W : WX} {f g : Env → M D} {fa : Env → M (List D)} {m : Bool} {pos p : Pos}
theorem pi_ivalD (he : PE X e (rd (md m) X.K cv W f)) : PI X tg e (rdI m false X.K cv W fun ρ => bd (f ρ) fun d => li (items d)) := by
  refine pi_any fun σ H R ⟨B, H0, ρ, r, rep, ef, fin⟩ => ?_
  rcases bd_inv ef with ⟨d, hf, ef⟩ | ⟨c, hf, rfl⟩
  · obtain ⟨ds, ei, rfl⟩ := li_inv ef
    cases d with
    | str x =>
      cases ei
      refine ⟨_, pi_str he, B, H0, ρ, _, rep, hf, fin_src fun v H1 s h => ?_⟩
      obtain ⟨rfl, ok⟩ := src_str h
      exact ⟨_, rfl, fin (by simpa using ok.1) _ _ s (walk_txt ok)⟩
    | lst x =>
      cases ei
      refine ⟨_, pi_list he, B, H0, ρ, _, rep, hf, fin_src fun v H1 s h => ?_⟩
      obtain ⟨a, vs, rfl, h1, h2, h3, h4⟩ := src_lst h
      exact ⟨a, rfl, ⟨vs, .inl (.inl h1)⟩, fin h3 _ _ s (walk_lst h2 h4)⟩
    | tup x =>
      cases ei
      refine ⟨_, pi_tup he, B, H0, ρ, _, rep, hf, fin_src fun v H1 s h => ?_⟩
      obtain ⟨a, vs, rfl, h1, h2, h3, h4⟩ := src_tup h
      exact ⟨a, rfl, ⟨vs, h1.sq⟩, fin h3 _ _ s (walk_tpl h2 h4)⟩
    | _ => cases ei
  · exact ⟨_, pi_list he, B, H0, ρ, _, rep, hf, fin⟩
theorem range_len (lo : Int) (n : Nat) (st : Int) : (rangeL lo n st).length = n := by simp [rangeL]
theorem range_get {lo : Int} {n : Nat} {st : Int} {i : Nat} (h : i < n) : (rangeL lo n st)[i]? = some (.int (lo + (i : Int) * st)) := by
  simp [rangeL, h]
theorem walk_rng {K : Frag} {Hb : Hp} {B : Addr → Prop} {lo : Int} {n : Nat} : Walk (Itr lo n) (rangeL lo n 1).length (Same Hb) (YD false K Hb B (rangeL lo n 1)) := by
  rw [range_len]
  refine walk_range.mono (fun H s => trivial) fun i H v H' hi s y => ?_
  obtain ⟨e1, e2⟩ := y
  refine ⟨_, range_get hi, e1, ?_⟩
  rw [e2, Int.mul_one]
  exact .int _
theorem walk_rngC {K : Frag} {Hb : Hp} {B : Addr → Prop} {lo c : Int} {n : Nat} : Walk (Itc lo c n) (rangeL lo n c).length (Same Hb) (YD false K Hb B (rangeL lo n c)) := by
  rw [range_len]
  refine walk_rangeC.mono (fun H s => trivial) fun i H v H' hi s y => ?_
  obtain ⟨e1, e2⟩ := y
  refine ⟨_, range_get hi, e1, ?_⟩
  rw [e2]
  exact .int _
theorem bors_int1 {K : Frag} {H : Hp} {B : Addr → Prop} {v : V} {i : Int} (h : Bor K H B v (.int i)) : v = .int i := by
  have h : Dv K H B v (.int i) := h
  cases h
  rfl
theorem pi_rng1D {a : Expr} (hg : Gl X "range") (hm : X.mg "range" = none) (ha : PA X [a] (rdA false X.K cv W fa)) (h1 : noStar a = true) (hn : ∀ ρ ds, fa ρ = some (.ok ds) → ds.length = 1) :
    PI X tg (.Call (.Name "range" p) [a] [] pos) (rdI m false X.K cv W fun ρ => bd (fa ρ) fun ds => li (rangeO ds)) := by
  have hs : starEach [a] X.env = [(false, eval a X.env)] := star_one h1
  refine pi_imp (pi_range1 hg hm ha hs) fun σ H R ⟨B, H0, ρ, r, rep, ef, fin⟩ => ?_
  rcases bd_inv ef with ⟨ds, hf, ef⟩ | ⟨c, hf, rfl⟩
  · obtain ⟨xs, ei, rfl⟩ := li_inv ef
    refine ⟨B, H0, ρ, _, rep, hf, fun vs H1 s h => ?_⟩
    have h : Bors X.K H1 (Bn B σ ρ) vs ds := h
    have hlim : lim = 16777216 := rfl
    unfold rangeO at ei
    split at ei
    · obtain ⟨v, rfl, b⟩ := bors_one h
      rw [bors_int1 b]
      split at ei
      · cases ei
        exact ⟨_, rfl, by omega, by omega, fin (by rw [range_len]; omega) _ _ s walk_rng⟩
      · cases ei
    · have := hn ρ _ hf; simp at this
    · have := hn ρ _ hf; simp at this
    · cases ei
  · exact ⟨B, H0, ρ, _, rep, hf, fin⟩
theorem pi_rng2D {a b : Expr} (hg : Gl X "range") (hm : X.mg "range" = none) (ha : PA X [a, b] (rdA false X.K cv W fa)) (h1 : noStar a = true) (h2 : noStar b = true) (hn : ∀ ρ ds, fa ρ = some (.ok ds) → ds.length = 2) :
    PI X tg (.Call (.Name "range" p) [a, b] [] pos) (rdI m false X.K cv W fun ρ => bd (fa ρ) fun ds => li (rangeO ds)) := by
  have hs2 : starEach [b] X.env = [(false, eval b X.env)] := star_one h2
  have hs : starEach [a, b] X.env = [(false, eval a X.env), (false, eval b X.env)] := by rw [star_one h1, hs2]
  refine pi_imp (pi_range2 hg hm ha hs hs2) fun σ H R ⟨B, H0, ρ, r, rep, ef, fin⟩ => ?_
  rcases bd_inv ef with ⟨ds, hf, ef⟩ | ⟨c, hf, rfl⟩
  · obtain ⟨xs, ei, rfl⟩ := li_inv ef
    refine ⟨B, H0, ρ, _, rep, hf, fun vs H1 s h => ?_⟩
    have h : Bors X.K H1 (Bn B σ ρ) vs ds := h
    have hlim : lim = 16777216 := rfl
    unfold rangeO at ei
    split at ei
    · have := hn ρ _ hf; simp at this
    · obtain ⟨v, w, rfl, b1, b2⟩ := bors_two h
      rw [bors_int1 b1, bors_int1 b2]
      split at ei
      · rename_i hc
        obtain ⟨c1, c2, c3⟩ := hc
        cases ei
        exact ⟨_, _, rfl, ⟨by omega, by omega, by omega, by omega⟩, fin (by rw [range_len]; exact c1) _ _ s walk_rng⟩
      · cases ei
    · have := hn ρ _ hf; simp at this
    · cases ei
  · exact ⟨B, H0, ρ, _, rep, hf, fin⟩
theorem bors_three {K : Frag} {H : Hp} {B : Addr → Prop} {vs : List V} {d e g : D} (h : Bors K H B vs [d, e, g]) : ∃ v w u, vs = [v, w, u] ∧ Bor K H B v d ∧ Bor K H B w e ∧ Bor K H B u g := by
  cases h with
  | cons a h => cases h with
    | cons b h => cases h with
      | cons c h => cases h; exact ⟨_, _, _, rfl, a, b, c⟩
theorem pi_rng3D {a b c : Expr} (hg : Gl X "range") (hm : X.mg "range" = none) (ha : PA X [a, b, c] (rdA false X.K cv W fa)) (h1 : noStar a = true) (h2 : noStar b = true) (h3 : noStar c = true) (hn : ∀ ρ ds, fa ρ = some (.ok ds) → ds.length = 3) :
    PI X tg (.Call (.Name "range" p) [a, b, c] [] pos) (rdI m false X.K cv W fun ρ => bd (fa ρ) fun ds => li (rangeO ds)) := by
  refine pi_imp (pi_range3 hg hm ha (star_one h1) (star_any (by simp [h2, h3]))) fun σ H R ⟨B, H0, ρ, r, rep, ef, fin⟩ => ?_
  rcases bd_inv ef with ⟨ds, hf, ef⟩ | ⟨c, hf, rfl⟩
  · obtain ⟨xs, ei, rfl⟩ := li_inv ef
    refine ⟨B, H0, ρ, _, rep, hf, fun vs H1 s h => ?_⟩
    have h : Bors X.K H1 (Bn B σ ρ) vs ds := h
    have hlim : lim = 16777216 := rfl
    unfold rangeO at ei
    split at ei
    · have := hn ρ _ hf; simp at this
    · have := hn ρ _ hf; simp at this
    · obtain ⟨v, w, u, rfl, b1, b2, b3⟩ := bors_three h
      rw [bors_int1 b1, bors_int1 b2, bors_int1 b3]
      split at ei
      · rename_i hc
        obtain ⟨c0, c1, c2, c3⟩ := hc
        subst c0
        cases ei
        exact ⟨_, _, _, _, rfl, RgC.neg (by omega) (by omega) (by omega) (by omega), fin (by rw [range_len]; exact c1) _ _ s walk_rngC⟩
      · cases ei
    · cases ei
  · exact ⟨B, H0, ρ, _, rep, hf, fin⟩
end
end Mn
end
section
set_option Elab.async false
set_option linter.all false
set_option maxRecDepth 100000
set_option maxHeartbeats 4000000
set_option autoImplicit false
/-! D11: zip and enumerate over lists, tuples, texts. -/
namespace Mn
open PySem PySem.Spec L2
open PyProof.Rows hiding St
theorem vals_getU : ∀ {xs : List V} {us : List Value} {i : Nat} {u : Value}, Vals xs us → us[i]? = some u → ∃ x, xs[i]? = some x ∧ RelV x u
  | _, _, _, _, .nil, e => by simp at e
  | _, _, 0, _, .cons h _, e => by simp at e; subst e; exact ⟨_, rfl, h⟩
  | _, _, i + 1, u, .cons _ t, e => by
    obtain ⟨v, h1, h2⟩ := vals_getU (i := i) (u := u) t (by simpa using e)
    exact ⟨v, by simpa using h1, h2⟩
/-- one iterator under a zip: its state, and what it draws while Hb stands -/
structure Side (P : Program) (w : World) (K : Frag) (Hb : Hp) (xs : List V) (st : Addr → Nat → Heap → Prop) : Prop where
  obj : ∀ it i h, st it i h → ∃ o, h.get? it = some o ∧ ∀ v, o.data ≠ .cell v
  keep : ∀ it i h h', st it i h → (∀ o, h.get? it = some o → h'.get? it = some o) → st it i h'
  draw : ∀ (X : Cx), X.prog = P → X.w = w → X.K = K → X.calm = true → ∀ (pins : List (Addr × Obj)) (s : Shared) (σ : St) (H : Hp) (it : Addr) (i : Nat), Inv X pins σ H s → Same Hb H → st it i s.heap → H it = none →
    ∃ (fp : List Addr) (Pv : Nat → Value → Prop) (Sn : Nat → Heap → Prop), Draws P w X.A.in1 it fp xs.length Pv Sn ∧ it ∈ fp ∧ (∀ b ∈ fp, b = it ∨ H b ≠ none) ∧ Sn i s.heap ∧ (∀ j h', Sn j h' → st it j h') ∧ ∀ j u, Pv j u → ∃ x, xs[j]? = some x ∧ RelV x u
section
variable {P : Program} {w : World} {K : Frag} {Hb : Hp}
theorem side_lst {a : Addr} {vs : List V} (e : Hb a = some (.lst vs)) : Side P w K Hb vs (fun it i h => h.IsListIter it a i) where
  obj := fun it i h st => let ⟨o, e, _, d⟩ := st; ⟨o, e, fun v z => by rw [d] at z; cases z⟩
  keep := fun it i h h' st k => st.at k
  draw := fun X hP hw hK hc pins s σ H it i I sm st hn => by
    subst hP hw hK
    have e' := sm a _ e
    obtain ⟨its, rv, p, _⟩ := I.list (.inl (.inl e'))
    have hne : a ≠ it := fun z => by rw [z, hn] at e'; cases e'
    have D := Draws.list (prog := X.prog) (w := X.w) (A := X.A.in1) (I.ok.hd hc) it a hne its.toArray
    have hl : its.toArray.size = vs.length := by simp [rv.length]
    rw [hl] at D
    refine ⟨_, _, _, D, by simp, fun b hb => ?_, ⟨st, p.isList⟩, fun j h' z => z.1, fun j u hu => ?_⟩
    · rcases List.mem_cons.mp hb with z | z
      · exact .inl z
      · rw [List.mem_singleton.mp z, e']; exact .inr fun q => nomatch q
    · have hu : its[j]? = some u := by simpa using hu
      obtain ⟨x, hx, r⟩ := vals_getU rv hu
      exact ⟨x, hx, r⟩
theorem side_tup {a : Addr} {vs : List V} (e : FT Hb a vs) : Side P w K Hb vs (fun it i h => h.IsTupleIter it a i) where
  obj := fun it i h st => let ⟨o, e, _, d⟩ := st; ⟨o, e, fun v z => by rw [d] at z; cases z⟩
  keep := fun it i h h' st k => st.at k
  draw := fun X hP hw hK hc pins s σ H it i I sm st hn => by
    subst hP hw hK
    obtain ⟨its0, e'⟩ := e.same sm
    obtain ⟨its, rv, p, _⟩ := I.tuple (FT.sq ⟨its0, e'⟩)
    have hne : a ≠ it := fun z => by rw [z, hn] at e'; cases e'
    have D := Draws.tuple (prog := X.prog) (w := X.w) (A := X.A.in1) (I.ok.hd hc) it a hne its.toArray
    have hl : its.toArray.size = vs.length := by simp [rv.length]
    rw [hl] at D
    refine ⟨_, _, _, D, by simp, fun b hb => ?_, ⟨st, p⟩, fun j h' z => z.1, fun j u hu => ?_⟩
    · rcases List.mem_cons.mp hb with z | z
      · exact .inl z
      · rw [List.mem_singleton.mp z, e']; exact .inr fun q => nomatch q
    · have hu : its[j]? = some u := by simpa using hu
      obtain ⟨x, hx, r⟩ := vals_getU rv hu
      exact ⟨x, hx, r⟩
theorem side_str {x : Tx} {t : Tok} : Side P w K Hb (x.map fun c => V.str ⟨#[c]⟩) (fun it i h => h.IsStrIter it (strIterType (tx x)) (tx x) t i) where
  obj := fun it i h st => let ⟨o, e, _, d⟩ := st; ⟨o, e, fun v z => by rw [d] at z; cases z⟩
  keep := fun it i h h' st k => let ⟨o, e, r⟩ := st; ⟨o, k o e, r⟩
  draw := fun X hP hw hK hc pins s σ H it i I sm st hn => by
    subst hP hw hK
    have D := Draws.text (prog := X.prog) (w := X.w) (A := X.A.in1) (I.ok.hd hc) it (tx x) t
    have hl : (tx x).cps.size = (x.map fun c => V.str ⟨#[c]⟩).length := by simp [tx]
    rw [hl] at D
    refine ⟨_, _, _, D, by simp, fun b hb => .inl (List.mem_singleton.mp hb), st, fun j h' z => z, fun j u hu => ?_⟩
    obtain ⟨c, tk, ec, rfl⟩ := hu
    have ec : x[j]? = some c := by simpa [tx] using ec
    exact ⟨.str ⟨#[c]⟩, by rw [List.getElem?_map, ec]; rfl, ⟨tk, rfl⟩⟩
def ItzS (Hb : Hp) (xs ys : List V) : It :=
  ⟨fun i H => Same Hb H ∧ i < min xs.length ys.length, fun i H v H' => ∃ T x y, v = .ref T ∧ H T = none ∧ H' = upd H T (.tup [x, y]) ∧ xs[i]? = some x ∧ ys[i]? = some y, fun i H => Same Hb H ∧ i = min xs.length ys.length⟩
/-- five cells apart -/
def Apart5 (z TI TO i1 i2 : Addr) : Prop := TI ≠ z ∧ TO ≠ z ∧ TI ≠ TO ∧ TI ≠ i1 ∧ TI ≠ i2 ∧ i1 ≠ z ∧ i2 ≠ z ∧ i1 ≠ TO ∧ i2 ≠ TO ∧ i1 ≠ i2
theorem turn_zipS {xs ys : List V} {st1 st2 : Addr → Nat → Heap → Prop} {elts : List Expr} {kk : Nat} {tpos : Pos} {z TI TO i1 i2 : Addr} (S1 : Side P w K Hb xs st1) (S2 : Side P w K Hb ys st2) (ap : Apart5 z TI TO i1 i2) :
    Turn P w K (.Tuple elts kk tpos) (ItzS Hb xs ys) [z, TI, TO, i1, i2] z (fun i h => IsZip h z TI TO .none ∧ IsTupOf2 h TI (.ref i1) (.ref i2) ∧ (∃ x y, IsTupOf2 h TO x y) ∧ st1 i1 i h ∧ st2 i2 i h) where
  mem := by simp
  obj := fun i h st c hc => by
    obtain ⟨hz, hTI, ⟨x, y, hTO⟩, h1, h2⟩ := st
    have e' : c = z ∨ c = TI ∨ c = TO ∨ c = i1 ∨ c = i2 := by simpa using hc
    rcases e' with q | q | q | q | q
    · rw [q]; exact ⟨_, hz, fun v q => nomatch q⟩
    · rw [q]; exact ⟨_, hTI, fun v q => nomatch q⟩
    · rw [q]; exact ⟨_, hTO, fun v q => nomatch q⟩
    · rw [q]; exact S1.obj _ _ _ h1
    · rw [q]; exact S2.obj _ _ _ h2
  keep := fun i h h' st k => by
    obtain ⟨hz, hTI, ⟨x, y, hTO⟩, h1, h2⟩ := st
    exact ⟨k z (by simp) _ hz, k TI (by simp) _ hTI, ⟨x, y, k TO (by simp) _ hTO⟩, S1.keep _ _ _ _ h1 fun o q => k i1 (by simp) o q, S2.keep _ _ _ _ h2 fun o q => k i2 (by simp) o q⟩
  item := by
    intro X hP hw hK hc i pins s σ H E I hf st hg
    obtain ⟨hz, hTI, ⟨x0, y0, hTO⟩, h1, h2⟩ := st
    obtain ⟨sm, hlt⟩ := hg
    obtain ⟨a1, a2, a3, a4, a5, a6, a7, a8, a9, a10⟩ := ap
    obtain ⟨fp1, P1, Sn1, D1, m1, o1, n1, b1, v1⟩ := S1.draw X hP hw hK hc pins s σ H i1 i I sm h1 (hf i1 (by simp)).1
    obtain ⟨fp2, P2, Sn2, D2, m2, o2, n2, b2, v2⟩ := S2.draw X hP hw hK hc pins s σ H i2 i I sm h2 (hf i2 (by simp)).1
    subst hP hw hK
    have out : ∀ {fp : List Addr} {it c : Addr}, (∀ b ∈ fp, b = it ∨ H b ≠ none) → c ≠ it → H c = none → c ∉ fp := fun {fp it c} o ne hn hm => (o c hm).elim ne fun z => z hn
    have hzl : z < s.heap.objs.size := Heap.lt_size hz
    have SP : ZipSep2 z TI TO i1 i2 fp1 fp2 := ⟨a1, a2, a3, a4, m1, out o1 a6.symm (hf z (by simp)).1, out o1 a8.symm (hf TO (by simp)).1, a5, m2, out o2 a7.symm (hf z (by simp)).1, out o2 a9.symm (hf TO (by simp)).1, out o2 a10 (hf i1 (by simp)).1, out o1 a10.symm (hf i2 (by simp)).1⟩
    refine wpAny_pyNext_zipD2_item SP D1 D2 hz hTI hTO n1 n2 (by omega) (by omega) fun u u2 h' tk p1 p2 z' TO' s1' s2' hT hsz hk => ?_
    obtain ⟨x, hx, ru⟩ := v1 _ _ p1
    obtain ⟨y, hy, ru2⟩ := v2 _ _ p2
    refine ⟨_, rfl, wpAny_letOwnedTupleGo_zip (s := { s with heap := h', toks := tk }) z' fun h'' z'' sb => ?_⟩
    have hT2 : h''.get? s.heap.objs.size = some { cls := .type "tuple", data := .seq #[u, u2] } := (sb.2 _ (Nat.ne_of_gt hzl)).trans hT
    have new : ObjOk X.prog X.w (upd H s.heap.objs.size (.tup [x, y])) h'' s.heap.objs.size (.tup [x, y]) :=
      ⟨by show 2 ≤ sizeLine; decide, [u, u2], .cons ru (.cons ru2 .nil), ⟨_, hT2, rfl, _, rfl⟩⟩
    have I1 : Inv X pins σ (upd H s.heap.objs.size (.tup [x, y])) { s with heap := h'', toks := tk } :=
      I.turnedNew (ch := [z, TI, TO, i1, i2]) (fun c o hb q => (sb.2 c (fun q' => hb (by simp [q']))).trans (hk c o (fun q' => hb (by simp [q'])) (fun q' => hb (by simp [q'])) (fun q' => hb (by simp [q'])) (fun q' => hb (by simp [q'])) q)) hf (Nat.le_refl _) new
    refine ⟨.ref s.heap.objs.size, _, I1, rfl, ⟨_, x, y, rfl, I.hok.fresh (Nat.le_refl _), rfl, hx, hy⟩, ⟨z'', ?_, ⟨u, u2, ?_⟩, ?_, ?_⟩, fun c hcm => ?_⟩
    · exact (sb.2 _ a1).trans (hk _ _ a1 a3 a4 a5 hTI)
    · exact (sb.2 _ a2).trans TO'
    · exact S1.keep _ _ _ _ (b1 _ _ s1') fun o q => (sb.2 _ a6).trans q
    · exact S2.keep _ _ _ _ (b2 _ _ s2') fun o q => (sb.2 _ a7).trans q
    · have hlt : c < s.heap.objs.size := by
        have e' : c = z ∨ c = TI ∨ c = TO ∨ c = i1 ∨ c = i2 := by simpa using hcm
        rcases e' with q | q | q | q | q
        · rw [q]; exact hzl
        · rw [q]; exact Heap.lt_size hTI
        · rw [q]; exact Heap.lt_size hTO
        · rw [q]; obtain ⟨_, e1, _⟩ := S1.obj _ _ _ h1; exact Heap.lt_size e1
        · rw [q]; obtain ⟨_, e2, _⟩ := S2.obj _ _ _ h2; exact Heap.lt_size e2
      rw [upd_ne (Nat.ne_of_lt hlt)]
      exact (hf c hcm).1
  done := by
    intro X hP hw hK hc i pins s σ H E I hf st hg
    obtain ⟨hz, hTI, ⟨x0, y0, hTO⟩, h1, h2⟩ := st
    obtain ⟨sm, hlt⟩ := hg
    obtain ⟨a1, a2, a3, a4, a5, a6, a7, a8, a9, a10⟩ := ap
    obtain ⟨fp1, P1, Sn1, D1, m1, o1, n1, b1, v1⟩ := S1.draw X hP hw hK hc pins s σ H i1 i I sm h1 (hf i1 (by simp)).1
    obtain ⟨fp2, P2, Sn2, D2, m2, o2, n2, b2, v2⟩ := S2.draw X hP hw hK hc pins s σ H i2 i I sm h2 (hf i2 (by simp)).1
    subst hP hw hK
    have out : ∀ {fp : List Addr} {it c : Addr}, (∀ b ∈ fp, b = it ∨ H b ≠ none) → c ≠ it → H c = none → c ∉ fp := fun {fp it c} o ne hn hm => (o c hm).elim ne fun z => z hn
    have SP : ZipSep2 z TI TO i1 i2 fp1 fp2 := ⟨a1, a2, a3, a4, m1, out o1 a6.symm (hf z (by simp)).1, out o1 a8.symm (hf TO (by simp)).1, a5, m2, out o2 a7.symm (hf z (by simp)).1, out o2 a9.symm (hf TO (by simp)).1, out o2 a10 (hf i1 (by simp)).1, out o1 a10.symm (hf i2 (by simp)).1⟩
    exact wpAny_pyNext_zipD2_end SP D1 D2 hz hTI hTO n1 n2 (by omega) (by omega) (by omega) fun h' tk hk => ⟨rfl, I.turnedL (ch := [z, TI, TO, i1, i2]) (fun c o hb q =>
      hk c o (fun q' => hb (by simp [q'])) (fun q' => hb (by simp [q'])) (fun q' => hb (by simp [q'])) (fun q' => hb (by simp [q'])) q) hf⟩
  self := fun A i s Q E st h => wpAny_pyIter_zip st.1 h
end
section
variable {K : Frag} {Hb : Hp} {B : Addr → Prop}
theorem zipL_len : ∀ (xs ys : List D), (zipL xs ys).length = min xs.length ys.length
  | [], _ => by simp [zipL]
  | _ :: _, [] => by simp [zipL]
  | x :: xs, y :: ys => by simp [zipL, zipL_len xs ys]
theorem zipL_get : ∀ {xs ys : List D} {i : Nat} {x y : D}, xs[i]? = some x → ys[i]? = some y → (zipL xs ys)[i]? = some (.tup [x, y])
  | [], _, _, _, _, h, _ => by simp at h
  | _ :: _, [], _, _, _, _, h => by simp at h
  | a :: xs, b :: ys, 0, _, _, h1, h2 => by simp at h1 h2; subst h1 h2; rfl
  | a :: xs, b :: ys, i + 1, x, y, h1, h2 => by
    have := zipL_get (xs := xs) (ys := ys) (i := i) (x := x) (y := y) (by simpa using h1) (by simpa using h2)
    simpa [zipL] using this
theorem walk_zipS {xs ys : List V} {ds es : List D} (h1 : Dvs K Hb B xs ds) (h2 : Dvs K Hb B ys es) : Walk (ItzS Hb xs ys) (zipL ds es).length (Same Hb) (YD true K Hb B (zipL ds es)) := by
  rw [zipL_len, ← h1.length, ← h2.length]
  refine ⟨fun i H hi s => ⟨s, hi⟩, fun H s => ⟨s, rfl⟩, fun i H x H' hi s y => ?_⟩
  obtain ⟨T, u, v, rfl, hn, rfl, e1, e2⟩ := y
  obtain ⟨d, ed, dv⟩ := h1.getV e1
  obtain ⟨d', ed', dv'⟩ := h2.getV e2
  exact ⟨_, zipL_get ed ed', T, u, v, d, d', rfl, hn, rfl, rfl, dv, dv'⟩
theorem dvs_signs {x : Tx} (h : okTx x) : Dvs K Hb B (x.map fun c => V.str ⟨#[c]⟩) (x.map fun c => D.str [c]) := by
  have : ∀ y : Tx, (∀ c ∈ y, c ∈ x) → Dvs K Hb B (y.map fun c => V.str ⟨#[c]⟩) (y.map fun c => D.str [c]) := by
    intro y
    induction y with
    | nil => intro _; exact .nil
    | cons c y ih =>
      intro hy
      refine .cons (.str (s := [c]) ⟨by show 1 ≤ lim; decide, fun z hz => ?_⟩) (ih fun d hd => hy d (List.mem_cons_of_mem _ hd))
      rw [List.mem_singleton.mp hz]
      exact h.2 c (hy c List.mem_cons_self)
  exact this x fun _ h => h
end
section
variable {X : Cx} {pins : List (Addr × Obj)} {σ : St} {ρ : Env} {H : Hp} {s : Shared} {m : Bool} {B : Addr → Prop}
theorem src_begin {v : V} {u : Value} {d : D} {ds : List D} (h : Src m X.K H (Bn B σ ρ) v d) (ei : items d = some ds) (I : Inv X pins σ H s) (r : RelV v u) :
    ∃ (o : Obj) (Hh : Heap → Prop) (vs : List V) (st : Addr → Nat → Heap → Prop), Begins u o Hh ∧ Hh s.heap ∧ Side X.prog X.w X.K (bs m H (Bn B σ ρ)) vs st ∧ (∀ it h', h'.get? it = some o → st it 0 h') ∧ Dvs X.K (bs m H (Bn B σ ρ)) (Bn B σ ρ) vs ds ∧ ds.length ≤ lim := by
  cases d with
  | str x =>
    cases ei
    obtain ⟨rfl, ok⟩ := src_str h
    obtain ⟨t, rfl⟩ := r
    exact ⟨_, _, _, _, begins_text (tx x) t, trivial, side_str, fun it h' e => ⟨_, e, rfl, rfl⟩, dvs_signs ok, by simpa using ok.1⟩
  | lst x =>
    cases ei
    obtain ⟨a, vs, rfl, h1, h2, h3, h4⟩ := src_lst h
    cases r
    obtain ⟨its, rv, p, _⟩ := I.list (.inl (.inl h1))
    exact ⟨_, _, _, _, begins_list a its.toArray, p.isList, side_lst h2, fun it h' e => ⟨_, e, rfl, rfl⟩, h4, h3⟩
  | tup x =>
    cases ei
    obtain ⟨a, vs, rfl, h1, h2, h3, h4⟩ := src_tup h
    cases r
    obtain ⟨its, rv, p, _⟩ := I.tuple h1.sq
    exact ⟨_, _, _, _, begins_tuple a its.toArray, p, side_tup h2, fun it h' e => ⟨_, e, rfl, rfl⟩, h4, h3⟩
  | _ => cases ei
end
def zipO : List D → Option (List D)
  | [x, y] => match items x, items y with
    | some xs, some ys => some (zipL xs ys)
    | _, _ => none
  | _ => none
def srcs (m : Bool) (K : Frag) (H : Hp) (B : Addr → Prop) (vs : List V) (ds : List D) : Prop := if m then Dvs K H B vs ds else Bors K H B vs ds
theorem srcs_two {m : Bool} {K : Frag} {H : Hp} {B : Addr → Prop} {vs : List V} {d e : D} (h : srcs m K H B vs [d, e]) : ∃ v w, vs = [v, w] ∧ Src m K H B v d ∧ Src m K H B w e := by
  cases m with
  | true =>
    have h : Dvs K H B vs [d, e] := h
    cases h with | cons a h => cases h with | cons b h => cases h; exact ⟨_, _, rfl, a, b⟩
  | false => exact bors_two h
theorem srcs_one {m : Bool} {K : Frag} {H : Hp} {B : Addr → Prop} {vs : List V} {d : D} (h : srcs m K H B vs [d]) : ∃ v, vs = [v] ∧ Src m K H B v d := by
  cases m with
  | true =>
    have h : Dvs K H B vs [d] := h
    cases h with | cons a h => cases h; exact ⟨_, rfl, a⟩
  | false => exact bors_one h
section
variable {X : Cx} {cv : Nat → Value} {W : WX} {fa : Env → M (List D)} {m : Bool} {pos p : Pos}
theorem pi_zipD {e e2 : Expr} {elts : List Expr} {kk : Nat} {tpos : Pos} (hg : Gl X "zip") (hm : X.mg "zip" = none) (ha : PA X [e, e2] (rdA m X.K cv W fa)) (h1 : noStar e = true) (h2 : noStar e2 = true) :
    PI X (.Tuple elts kk tpos) (.Call (.Name "zip" p) [e, e2] [] pos) (rdI m true X.K cv W fun ρ => bd (fa ρ) fun ds => li (zipO ds)) := by
  refine ⟨fun pins s σ H R I h => ?_⟩
  obtain ⟨B, H0, ρ, r, rep, ef, fin⟩ := h
  have key : rdA m X.K cv W fa σ H (fun vs H1 => ∃ x y xs ys, srcs m X.K H1 (Bn B σ ρ) vs [x, y] ∧ items x = some xs ∧ items y = some ys ∧ ((zipL xs ys).length ≤ lim → ∀ J, Walk J (zipL xs ys).length (Same (bs m H1 (Bn B σ ρ))) (YD true X.K (bs m H1 (Bn B σ ρ)) (Bn B σ ρ) (zipL xs ys)) → R J H1)) := by
    rcases bd_inv ef with ⟨ds, hf, ef⟩ | ⟨c, hf, rfl⟩
    · obtain ⟨zs, ei, rfl⟩ := li_inv ef
      refine ⟨B, H0, ρ, _, rep, hf, fun vs H1 sm h => ?_⟩
      unfold zipO at ei
      split at ei
      · split at ei
        · cases ei
          exact ⟨_, _, _, _, h, by assumption, by assumption, fun l J w => fin l J H1 sm w⟩
        · cases ei
      · cases ei
    · exact ⟨B, H0, ρ, _, rep, hf, fin⟩
  refine Call_ (ld_blt I hg hm PyProof.Rows.boot_zip (PyProof.Rows.callWith_type1 (thn (ha.run pos pins s σ H _ I key) fun us s1 ⟨vs, H1, I1, r1, q1⟩ => ?_) (star_one h1) (star_any (by simp [h2]))))
  obtain ⟨x, y, xs, ys, hs, e1, e2, fin⟩ := q1
  obtain ⟨v, w, rfl, sv, sw⟩ := srcs_two hs
  cases r1 with
  | cons rv rr =>
    cases rr with
    | cons rw rr =>
      cases rr
      obtain ⟨o1, Hh1, vs1, st1, b1, hh1, S1, z1, d1, l1⟩ := src_begin sv e1 I1 rv
      obtain ⟨o2, Hh2, vs2, st2, b2, hh2, S2, z2, d2, l2⟩ := src_begin sw e2 I1 rw
      refine zip_begins2 b1 b2 hh1 hh2 fun h' hz hTI hTO g1 g2 hsz hk => wpAny_pyIter_zip hz ?_
      have I2 : Inv X pins σ H1 { s1 with heap := h' } := I1.kept (t' := s1.toks) hk
      have ap : Apart5 (s1.heap.objs.size + 4) (s1.heap.objs.size + 2) (s1.heap.objs.size + 3) s1.heap.objs.size (s1.heap.objs.size + 1) := by
        refine ⟨?_, ?_, ?_, ?_, ?_, ?_, ?_, ?_, ?_, ?_⟩ <;> exact (fun z => by have : (_ : Nat) = _ := z; omega)
      refine ⟨s1.heap.objs.size + 4, [s1.heap.objs.size + 4, s1.heap.objs.size + 2, s1.heap.objs.size + 3, s1.heap.objs.size, s1.heap.objs.size + 1], _, _, H1, rfl, I2, turn_zipS S1 S2 ap, ⟨hz, hTI, ⟨_, _, hTO⟩, z1 _ _ g1, z2 _ _ g2⟩, fun c hcm => ?_, fin (by rw [zipL_len]; omega) _ (walk_zipS d1 d2)⟩
      have e' : c = s1.heap.objs.size + 4 ∨ c = s1.heap.objs.size + 2 ∨ c = s1.heap.objs.size + 3 ∨ c = s1.heap.objs.size ∨ c = s1.heap.objs.size + 1 := by simpa using hcm
      have hle : s1.heap.objs.size ≤ c := by
        rcases e' with z | z | z | z | z <;> (rw [z]; first | exact Nat.le_add_right _ _ | exact Nat.le_refl _)
      exact I1.fpOk hle (I1.hok.fresh hle)
end
set_option maxHeartbeats 1000000 in
theorem meets_enumB {v : Value} {o : Obj} {H : Heap → Prop} (B : Begins v o H) :
    Meets (Builtin.«enumerate.__new__» ⟨[.type "enumerate", v], []⟩) (fun _ R s => H s.heap ∧
      R (.ok (.ret (.ref (s.heap.push o).objs.size))) { s with heap := (s.heap.push o).push { cls := .type "enumerate", data := .fields #[.none, .bool false, .ref s.heap.objs.size, rawInt 0, .none, .none] } }) :=
  .of_wp fun prog w A R s h => by
    obtain ⟨hp, g, d, tk, os⟩ := s; obtain ⟨h1, h⟩ := h
    have hsub := sub_enumerate
    have q1 : ∀ {A' : Around} {E : Value → Shared → Prop} {Q : Value → Shared → Prop}, Q (.ref hp.objs.size) ⟨hp.push o, g, d, tk, os⟩ → wpAny (model prog w) A' (pyIter v) Q E ⟨hp, g, d, tk, os⟩ :=
      fun q => B.iter prog w _ _ ⟨hp, g, d, tk, os⟩ _ h1 q
    wp_walk using q1
    refine wpAny_stack_any fun st => wpAny_pure ?_
    split
    · rename_i c _ _ _ _ _
      cases (c == Value.type "enumerate")
      · wp_walk using q1
        exact ⟨_, rfl, h⟩
      · wp_walk using q1
        exact ⟨_, rfl, h⟩
    · wp_walk using q1
      exact ⟨_, rfl, h⟩
theorem call_enumB {prog : Program} {w : World} {A : Around} {E : Value → Shared → Prop} {s : Shared} {v : Value} {o : Obj} {H : Heap → Prop} {Q : Value → Shared → Prop} (B : Begins v o H) (h1 : H s.heap)
    (h : ∀ h', IsEnum h' (s.heap.objs.size + 1) s.heap.objs.size 0 .none → h'.get? s.heap.objs.size = some o → h'.objs.size = s.heap.objs.size + 2 →
      (∀ b o, s.heap.get? b = some o → h'.get? b = some o) → Q (.ref (s.heap.objs.size + 1)) { s with heap := h' }) :
    wpAny (model prog w) A (call (.type "enumerate") [v]) Q E s := by
  refine callType_new F.called_enumerate (by decide) (F.typeCall_enumerate_1 _) (F.newCall_enumerate_1 _) (fun obj => F.args_object_init_2 obj _) F.entry_enumerate_new (meets_enumB B) ⟨h1, ?_⟩
  have hz : (s.heap.push o).objs.size = s.heap.objs.size + 1 := Heap.size_push ..
  show _ ∧ _
  rw [hz]
  have he : IsEnum ((s.heap.push o).push { cls := .type "enumerate", data := .fields #[.none, .bool false, .ref s.heap.objs.size, rawInt 0, .none, .none] }) (s.heap.objs.size + 1) s.heap.objs.size 0 .none := by
    have q := Heap.get?_push_size (s.heap.push o) (o := { cls := .type "enumerate", data := .fields #[.none, .bool false, .ref s.heap.objs.size, rawInt 0, .none, .none] }) rfl
    rw [hz] at q
    exact q
  exact ⟨⟨_, he, rfl⟩, h _ he (Heap.get?_push_of_some _ (Heap.get?_push_size _ B.free)) (by rw [Heap.size_push, hz]) fun b o x => Heap.get?_push_of_some _ (Heap.get?_push_of_some _ x)⟩
def ItnS (Hb : Hp) (xs : List V) : It :=
  ⟨fun i H => Same Hb H ∧ i < xs.length, fun i H v H' => ∃ T x, v = .ref T ∧ H T = none ∧ H' = upd H T (.tup [.int (i : Nat), x]) ∧ xs[i]? = some x, fun i H => Same Hb H ∧ i = xs.length⟩
theorem turn_enumS {P : Program} {w : World} {K : Frag} {Hb : Hp} {xs : List V} {st1 : Addr → Nat → Heap → Prop} {elts : List Expr} {kk : Nat} {tpos : Pos} {e it : Addr} (S1 : Side P w K Hb xs st1) (ap : e ≠ it) :
    Turn P w K (.Tuple elts kk tpos) (ItnS Hb xs) [e, it] e (fun i h => (∃ old, IsEnum h e it ((i : Nat) : Int) old) ∧ st1 it i h) where
  mem := by simp
  obj := fun i h st b hb => by
    obtain ⟨⟨old, he⟩, h1⟩ := st
    have e' : b = e ∨ b = it := by simpa using hb
    rcases e' with z | z
    · rw [z]; exact ⟨_, he, fun v q => nomatch q⟩
    · rw [z]; exact S1.obj _ _ _ h1
  keep := fun i h h' st k => let ⟨⟨old, he⟩, hi⟩ := st; ⟨⟨old, k e (by simp) _ he⟩, S1.keep _ _ _ _ hi fun o q => k it (by simp) o q⟩
  item := by
    intro X hP hw hK hc i pins s σ H E I hf st hg
    obtain ⟨⟨old, he⟩, h1⟩ := st
    obtain ⟨sm, hlt⟩ := hg
    obtain ⟨fp, Pv, Sn, D1, m1, o1, n1, b1, v1⟩ := S1.draw X hP hw hK hc pins s σ H it i I sm h1 (hf it (by simp)).1
    subst hP hw hK
    have hel : e < s.heap.objs.size := Heap.lt_size he
    have hil : it < s.heap.objs.size := by obtain ⟨_, q, _⟩ := S1.obj _ _ _ h1; exact Heap.lt_size q
    have hef : e ∉ fp := fun hm => (o1 e hm).elim ap fun z => z (hf e (by simp)).1
    refine wpAny_pyNext_enum_itemD D1 he n1 hlt ap hef fun u h' tk hPu ho s1' hT hsz hk => ?_
    obtain ⟨x, hx, ru⟩ := v1 _ _ hPu
    refine ⟨_, rfl, wpAny_letOwnedTupleGo_enum (s := { s with heap := h', toks := tk + 1 }) ho fun h'' he' sb => ?_⟩
    have hT2 : h''.get? s.heap.objs.size = some { cls := .type "tuple", data := .seq #[.int i tk, u] } := (sb.2 _ (Nat.ne_of_gt hel)).trans hT
    have new : ObjOk X.prog X.w (upd H s.heap.objs.size (.tup [.int (i : Nat), x])) h'' s.heap.objs.size (.tup [.int (i : Nat), x]) :=
      ⟨by show 2 ≤ sizeLine; decide, [.int i tk, u], .cons ⟨_, rfl⟩ (.cons ru .nil), ⟨_, hT2, rfl, _, rfl⟩⟩
    have I1 : Inv X pins σ (upd H s.heap.objs.size (.tup [.int (i : Nat), x])) { s with heap := h'', toks := tk + 1 } :=
      I.turnedNew (ch := [e, it]) (fun b ob hb q => (sb.2 b (fun z => hb (by simp [z]))).trans (hk b ob (fun z => hb (by simp [z])) (fun z => hb (by simp [z])) q)) hf (Nat.le_refl _) new
    refine ⟨.ref s.heap.objs.size, _, I1, rfl, ⟨_, x, rfl, I.hok.fresh (Nat.le_refl _), rfl, hx⟩, ⟨⟨u, ?_⟩, S1.keep _ _ _ _ (b1 _ _ s1') fun o q => (sb.2 it (Ne.symm ap)).trans q⟩, fun b hb => ?_⟩
    · have e1 : ((i + 1 : Nat) : Int) = (i : Int) + 1 := by omega
      rw [e1]; exact he'
    · have hb' : b < s.heap.objs.size := by
        have e' : b = e ∨ b = it := by simpa using hb
        rcases e' with z | z
        · rw [z]; exact hel
        · rw [z]; exact hil
      rw [upd_ne (Nat.ne_of_lt hb')]
      exact (hf b hb).1
  done := by
    intro X hP hw hK hc i pins s σ H E I hf st hg
    obtain ⟨⟨old, he⟩, h1⟩ := st
    obtain ⟨sm, rfl⟩ := hg
    obtain ⟨fp, Pv, Sn, D1, m1, o1, n1, b1, v1⟩ := S1.draw X hP hw hK hc pins s σ H it _ I sm h1 (hf it (by simp)).1
    subst hP hw hK
    obtain ⟨f0, f1, f2, f3, f4, f5⟩ := hf it (by simp)
    exact wpAny_pyNext_enum_endD D1 he n1 fun h' eb => ⟨rfl, I.turned (t' := s.toks) (fun b o hb q => eb b o hb q) f0 f1 f3 f4 f5⟩
  self := fun A i s Q E st h => let ⟨⟨_, he⟩, _⟩ := st; wpAny_pyIter_enum he h
theorem enumL_len : ∀ (xs : List D) (n : Nat), (enumL n xs).length = xs.length
  | [], _ => rfl
  | x :: xs, n => by simp [enumL, enumL_len xs]
theorem enumL_get : ∀ {xs : List D} {n i : Nat} {x : D}, xs[i]? = some x → (enumL n xs)[i]? = some (.tup [.int ((n + i : Nat) : Int), x])
  | [], _, _, _, h => by simp at h
  | a :: xs, n, 0, _, h => by simp at h; subst h; rfl
  | a :: xs, n, i + 1, x, h => by
    have := enumL_get (xs := xs) (n := n + 1) (i := i) (x := x) (by simpa using h)
    simp only [enumL, List.getElem?_cons_succ, this]
    congr 5
    omega
theorem walk_enumS {K : Frag} {Hb : Hp} {B : Addr → Prop} {xs : List V} {ds : List D} (h1 : Dvs K Hb B xs ds) : Walk (ItnS Hb xs) (enumL 0 ds).length (Same Hb) (YD true K Hb B (enumL 0 ds)) := by
  rw [enumL_len, ← h1.length]
  refine ⟨fun i H hi s => ⟨s, hi⟩, fun H s => ⟨s, rfl⟩, fun i H x H' hi s y => ?_⟩
  obtain ⟨T, u, rfl, hn, rfl, e1⟩ := y
  obtain ⟨d, ed, dv⟩ := h1.getV e1
  have := enumL_get (n := 0) ed
  rw [Nat.zero_add] at this
  exact ⟨_, this, T, _, u, _, d, rfl, hn, rfl, rfl, .int _, dv⟩
def enumO : List D → Option (List D)
  | [x] => (items x).map (enumL 0)
  | _ => none
theorem pi_enumD {X : Cx} {cv : Nat → Value} {W : WX} {fa : Env → M (List D)} {m : Bool} {pos p : Pos} {e : Expr} {elts : List Expr} {kk : Nat} {tpos : Pos} (hg : Gl X "enumerate") (hm : X.mg "enumerate" = none) (ha : PA X [e] (rdA m X.K cv W fa)) (h1 : noStar e = true) :
    PI X (.Tuple elts kk tpos) (.Call (.Name "enumerate" p) [e] [] pos) (rdI m true X.K cv W fun ρ => bd (fa ρ) fun ds => li (enumO ds)) := by
  refine ⟨fun pins s σ H R I h => ?_⟩
  obtain ⟨B, H0, ρ, r, rep, ef, fin⟩ := h
  have key : rdA m X.K cv W fa σ H (fun vs H1 => ∃ x xs, srcs m X.K H1 (Bn B σ ρ) vs [x] ∧ items x = some xs ∧ ((enumL 0 xs).length ≤ lim → ∀ J, Walk J (enumL 0 xs).length (Same (bs m H1 (Bn B σ ρ))) (YD true X.K (bs m H1 (Bn B σ ρ)) (Bn B σ ρ) (enumL 0 xs)) → R J H1)) := by
    rcases bd_inv ef with ⟨ds, hf, ef⟩ | ⟨c, hf, rfl⟩
    · obtain ⟨zs, ei, rfl⟩ := li_inv ef
      refine ⟨B, H0, ρ, _, rep, hf, fun vs H1 sm h => ?_⟩
      unfold enumO at ei
      split at ei
      · rename_i x
        cases ex : items x with
        | none => rw [ex] at ei; cases ei
        | some xs =>
          rw [ex] at ei
          cases ei
          exact ⟨_, _, h, ex, fun l J w => fin l J H1 sm w⟩
      · cases ei
    · exact ⟨B, H0, ρ, _, rep, hf, fin⟩
  refine Call_ (ld_blt I hg hm boot_enumerate (callWith_type1 (thn (ha.run pos pins s σ H _ I key) fun us s1 ⟨vs, H1, I1, r1, q1⟩ => ?_) (star_one h1) rfl))
  obtain ⟨x, xs, hs, e1, fin⟩ := q1
  obtain ⟨v, rfl, sv⟩ := srcs_one hs
  cases r1 with
  | cons rv rr =>
    cases rr
    obtain ⟨o1, Hh1, vs1, st1, b1, hh1, S1, z1, d1, l1⟩ := src_begin sv e1 I1 rv
    refine call_enumB b1 hh1 fun h' he g1 hsz hk => wpAny_pyIter_enum he ?_
    have I2 : Inv X pins σ H1 { s1 with heap := h' } := I1.kept (t' := s1.toks) hk
    refine ⟨s1.heap.objs.size + 1, [s1.heap.objs.size + 1, s1.heap.objs.size], _, _, H1, rfl, I2, turn_enumS S1 (Nat.succ_ne_self _), ⟨⟨.none, he⟩, z1 _ _ g1⟩, fun b hb => ?_, fin (by rw [enumL_len]; omega) _ (walk_enumS d1)⟩
    have e' : b = s1.heap.objs.size + 1 ∨ b = s1.heap.objs.size := by simpa using hb
    have hle : s1.heap.objs.size ≤ b := by
      rcases e' with z | z <;> (rw [z]; first | exact Nat.le_add_right _ _ | exact Nat.le_refl _)
    exact I1.fpOk hle (I1.hok.fresh hle)
end Mn
end
section
set_option Elab.async false
set_option linter.all false
set_option maxRecDepth 100000
set_option maxHeartbeats 4000000
set_option autoImplicit false
/-! D12: targets; comprehensions. -/
namespace Mn
open PySem PySem.Spec L2
def setS : List Nat → List V → St → St
  | i :: is, v :: vs, σ => setS is vs (σ.set i (some v))
  | _, _, σ => σ
def gAll : List Nat → TGs
  | [] => gNil
  | i :: is => gCons (gName i) (gAll is)
def tgG (K : Frag) : Tg → TG
  | .one i => gName i
  | .many is => gTup K is.length (gAll is)
theorem gAll_of : ∀ {is : List Nat} {xs : List V} {σ : St} {H : Hp} {Q : St → Hp → Prop}, xs.length = is.length → Q (setS is xs σ) H → gAll is xs σ H Q
  | [], [], σ, H, Q, _, q => ⟨rfl, q⟩
  | [], _ :: _, _, _, _, e, _ => nomatch e
  | _ :: _, [], _, _, _, e, _ => nomatch e
  | i :: is, x :: xs, σ, H, Q, e, q => ⟨x, xs, rfl, gAll_of (by simpa using e) q⟩
def Tg.ix : Tg → List Nat
  | .one i => [i]
  | .many is => is
section
variable {K : Frag} {B : Addr → Prop} {H0 H H1 Hb : Hp} {σ : St} {ρ : Env}
theorem rep_setAll {ds : List D} : ∀ {is : List Nat} {vs : List V} {σ : St} {ρ : Env}, Rep K B H0 H σ ρ → Dvs K H (Bn B σ ρ) vs ds → Rep K B H0 H (setS is vs σ) (Mn.setAll is ds ρ) := by
  induction ds with
  | nil => intro is vs σ ρ r h; cases h; cases is <;> exact r
  | cons d ds ih =>
    intro is vs σ ρ r h
    cases h with
    | cons a h =>
      cases is with
      | nil => exact r
      | cons i is => exact ih (r.set_sh i a) (h.anti (bn_of (own_set fun _ z => nomatch z)))
/-- a target takes what a walk yields -/
theorem bind_ok {p : Bool} {tg : Tg} {d : D} {ρ2 : Env} {x : V} {Hc H' : Hp} {Bb : Addr → Prop} (hp : p = true → ∃ is, tg = .many is) (r : Rep K B H0 Hc σ ρ) (hs : Same Hb Hc) (hn : ∀ b, ¬ Bb b → Hb b ≠ none → ¬ Bn B σ ρ b)
    (y : if p then Pr K Hb Bb x d Hc H' else (H' = Hc ∧ Dv K Hb Bb x d)) (e : bindTg tg d ρ = some ρ2) : ∃ σ2, (∀ Q : St → Hp → Prop, Q σ2 H' → tgG K tg x σ H' Q) ∧ Rep K B H0 H' σ2 ρ2 ∧ Same Hc H' ∧
      ((∃ i v, tg = .one i ∧ σ2 = σ.set i (some v)) ∨ ∃ is vs, tg = .many is ∧ vs.length = is.length ∧ σ2 = setS is vs σ) := by
  have up : ∀ {x : V} {d : D}, Dv K Hb Bb x d → Dv K Hc (Bn B σ ρ) x d := fun {x d} h => Dv.keep hn (fun b o _ q => hs b o q) _ _ h
  cases p with
  | false =>
    obtain ⟨rfl, dv⟩ : H' = Hc ∧ Dv K Hb Bb x d := y
    have dv := up dv
    cases tg with
    | one i =>
      cases e
      exact ⟨_, fun Q q => q, r.set_sh i dv, Same.refl _, .inl ⟨i, x, rfl, rfl⟩⟩
    | many is =>
      cases dv with
      | tup h1 h2 h3 h4 =>
        simp only [bindTg] at e
        split at e
        · rename_i hl
          cases e
          refine ⟨_, fun Q q => ⟨_, _, rfl, h2.sq, h4.length.trans hl, gAll_of (h4.length.trans hl) q⟩, rep_setAll r h4, Same.refl _, .inr ⟨is, _, rfl, h4.length.trans hl, rfl⟩⟩
        · cases e
      | _ => cases e
  | true =>
    obtain ⟨T, u, v, d1, d2, rfl, hT, rfl, rfl, du, dv⟩ : Pr K Hb Bb x d Hc H' := y
    obtain ⟨is, rfl⟩ := hp rfl
    simp only [bindTg] at e
    split at e
    · rename_i hl
      cases e
      have st : Same Hc (upd Hc T (.tup [u, v])) := same_upd hT
      have r' := r.ext st
      have h4 : Dvs K (upd Hc T (.tup [u, v])) (Bn B σ ρ) [u, v] [d1, d2] := .cons ((up du).ext st) (.cons ((up dv).ext st) .nil)
      exact ⟨_, fun Q q => ⟨_, _, rfl, .inl (.inl upd_same), hl, gAll_of hl q⟩, rep_setAll r' h4, st, .inr ⟨is, _, rfl, hl, rfl⟩⟩
    · cases e
/-! slots forgotten -/
theorem wipe_at {i : Nat} : ∀ {vs : List Nat} {σ : St}, i ∈ vs → i < σ.length → (wipe σ vs)[i]? = some none
  | [], _, h, _ => by cases h
  | v :: vs, σ, h, hl => by
    unfold wipe
    by_cases e : v = i
    · subst e
      rw [List.getElem?_set_self (by rw [wipe_length]; exact hl)]
    · rw [List.getElem?_set_ne e]
      rcases List.mem_cons.mp h with z | z
      · exact absurd z.symm e
      · exact wipe_at z hl
theorem wipe_ext {σ σ' : St} {vs : List Nat} (hl : σ.length = σ'.length) (h : ∀ j, j ∉ vs → σ[j]? = σ'[j]?) : wipe σ vs = wipe σ' vs := by
  apply List.ext_getElem?
  intro j
  by_cases hj : j ∈ vs
  · by_cases hlt : j < σ.length
    · rw [wipe_at hj hlt, wipe_at hj (hl ▸ hlt)]
    · rw [List.getElem?_eq_none (by rw [wipe_length]; omega), List.getElem?_eq_none (by rw [wipe_length]; omega)]
  · rw [wipe_out hj, wipe_out hj, h j hj]
theorem wipe_set {σ σ2 : St} {vs : List Nat} {i : Nat} {x : Option V} (hi : i ∈ vs) (h : wipe σ2 vs = wipe σ vs) : wipe (σ2.set i x) vs = wipe σ vs := by
  rw [← h]
  refine wipe_ext (by rw [List.length_set]) fun j hj => ?_
  rw [List.getElem?_set_ne (fun z : i = j => hj (by rw [← z]; exact hi))]
theorem wipe_wipe {σ : St} {vs : List Nat} : wipe (wipe σ vs) vs = wipe σ vs := wipe_ext (wipe_length _ _) fun j hj => wipe_out hj
theorem wipe_setS {vs : List Nat} {σ : St} : ∀ {is : List Nat} {xs : List V} {σ2 : St}, (∀ i ∈ is, i ∈ vs) → wipe σ2 vs = wipe σ vs → wipe (setS is xs σ2) vs = wipe σ vs
  | [], _, _, _, h => by simpa [setS] using h
  | _ :: _, [], _, _, h => by simpa [setS] using h
  | i :: is, x :: xs, σ2, hi, h => wipe_setS (is := is) (xs := xs) (fun j hj => hi j (List.mem_cons_of_mem _ hj)) (wipe_set (hi i List.mem_cons_self) h)
/-- the block's bans -/
def Bb (B : Addr → Prop) (σ σw : St) (ρ ρw : Env) (L : Addr) : Addr → Prop := fun a => B a ∨ a = L ∨ (OwnA σ ρ a ∧ ¬ OwnA σw ρw a)
theorem own_wipe : ∀ {vs : List Nat} {a : Addr}, OwnA (wipe σ vs) (wipeE ρ vs) a → OwnA σ ρ a
  | [], _, h => h
  | v :: vs, _, h => own_wipe (vs := vs) (own_set (c := .no) (fun _ z => nomatch z) _ h)
theorem rep_block {vs : List Nat} {L : Addr} {Hc : Hp} (r : Rep K B H0 H1 σ ρ) (hL : H1 L = none) (hs : Same H1 Hc) (hc : Hc L ≠ none) : Rep K (Bb B σ (wipe σ vs) ρ (wipeE ρ vs) L) H0 Hc (wipe σ vs) (wipeE ρ vs) := by
  have rw' := (r.wipe vs)
  have nn : ∀ b, ¬ Bn B (wipe σ vs) (wipeE ρ vs) b → H1 b ≠ none → ¬ OwnA σ ρ b → ¬ Bn (Bb B σ (wipe σ vs) ρ (wipeE ρ vs) L) (wipe σ vs) (wipeE ρ vs) b := fun b n hb no z => by
    rcases z with (z | z | z) | z
    · exact n (.inl z)
    · exact hb (z ▸ hL)
    · exact no z.1
    · exact n (.inr z)
  have key : ∀ {v : V} {d : D} {j : Nat}, (wipeE ρ vs)[j]? = some (.sh d) → (wipe σ vs)[j]? = some (some v) → Dv K H1 (Bn B σ ρ) v d → Dv K Hc (Bn (Bb B σ (wipe σ vs) ρ (wipeE ρ vs) L) (wipe σ vs) (wipeE ρ vs)) v d := fun {v d j} _ _ h =>
    Dv.keep (fun b n hb => nn b (fun z => n (z.imp id own_wipe)) hb fun z => n (.inr z)) (fun b o _ e => hs b o e) _ _ h
  have wat : ∀ {j : Nat} {c : Cl}, (wipeE ρ vs)[j]? = some c → c ≠ .no → ρ[j]? = some c ∧ (wipe σ vs)[j]? = σ[j]? := fun {j c} e ne => by
    have aux : ∀ ws : List Nat, (wipeE ρ ws)[j]? = some c → ρ[j]? = some c ∧ (wipe σ ws)[j]? = σ[j]? := by
      intro ws
      induction ws with
      | nil => intro e; exact ⟨e, rfl⟩
      | cons w ws ih =>
        intro e
        rcases getset e with ⟨_, z⟩ | ⟨hne, e⟩
        · exact absurd z ne
        · obtain ⟨h1, h2⟩ := ih e
          exact ⟨h1, by unfold wipe; rw [List.getElem?_set_ne (Ne.symm hne)]; exact h2⟩
    exact aux vs e
  refine ⟨r.same.trans hs, fun a ha => ?_, rw'.len, fun i d e => ?_, fun i d e => ?_, rw'.inj⟩
  · rcases ha with z | z | z
    · exact Same.nn hs (r.ban a z)
    · rw [z]; exact hc
    · exact Same.nn hs (r.bn a (.inr z.1))
  · obtain ⟨h1, h2⟩ := wat e (fun z => nomatch z)
    obtain ⟨v, e1, h⟩ := r.sh i d h1
    exact ⟨v, by rw [h2]; exact e1, key e (by rw [h2]; exact e1) h⟩
  · obtain ⟨h1, h2⟩ := wat e (fun z => nomatch z)
    obtain ⟨a, e1, h0, hb, ho⟩ := r.ow i d h1
    refine ⟨a, by rw [h2]; exact e1, h0, fun z => ?_, ho.keep (fun b n hb => nn b (fun z => n (z.imp id own_wipe)) hb fun z => n (.inr z)) (fun b o _ e => hs b o e) fun o e => hs a o e⟩
    rcases z with z | z | z
    · exact hb z
    · exact ho.nn (z ▸ hL)
    · exact z.2 ⟨i, d, e, by rw [h2]; exact e1⟩
theorem getset_ne {α : Type} {l : List α} {i j : Nat} {x y : α} (h : l[j]? = some y) (ne : j ≠ i) : (l.set i x)[j]? = some y := by
  rw [List.getElem?_set_ne (Ne.symm ne)]; exact h
theorem wipeE_no {i : Nat} : ∀ {vs : List Nat} {ρ : Env} {c : Cl}, i ∈ vs → (wipeE ρ vs)[i]? = some c → c = .no
  | [], _, _, h, _ => by cases h
  | v :: vs, ρ, c, h, e => by
    unfold wipeE at e
    rcases getset e with ⟨_, z⟩ | ⟨ne, e⟩
    · exact z
    · rcases List.mem_cons.mp h with z | z
      · exact absurd z ne
      · exact wipeE_no z e
/-- slots that own nothing: a store there loses no owner -/
theorem own_keep {i : Nat} {c : Cl} {x : Option V} (hno : ∀ d, ρ[i]? ≠ some (.ow d)) {a : Addr} (h : OwnA σ ρ a) : OwnA (σ.set i x) (ρ.set i c) a := by
  obtain ⟨j, d, e1, e2⟩ := h
  have ne : j ≠ i := fun z => hno d (z ▸ e1)
  exact ⟨j, d, getset_ne e1 ne, getset_ne e2 ne⟩
theorem own_keepA : ∀ {is : List Nat} {vs : List V} {ds : List D} {σ : St} {ρ : Env} {a : Addr}, (∀ i ∈ is, ∀ d, ρ[i]? ≠ some (.ow d)) → vs.length = ds.length → OwnA σ ρ a → OwnA (setS is vs σ) (Mn.setAll is ds ρ) a
  | [], _, _, _, _, _, _, _, h => by simpa [setS, Mn.setAll] using h
  | _ :: _, [], [], _, _, _, _, _, h => by simpa [setS, Mn.setAll] using h
  | _ :: _, [], _ :: _, _, _, _, _, e, _ => nomatch e
  | _ :: _, _ :: _, [], _, _, _, _, e, _ => nomatch e
  | i :: is, v :: vs, d :: ds, σ, ρ, a, hno, e, h => by
    refine own_keepA (is := is) (fun j hj d' z => ?_) (by simpa using e) (own_keep (i := i) (c := .sh d) (x := some v) (fun d' => hno i List.mem_cons_self d') h)
    rcases getset z with ⟨_, q⟩ | ⟨_, z⟩
    · cases q
    · exact hno j (List.mem_cons_of_mem _ hj) d' z
end
/-! ### compF -/
section
variable {f : D → Option (List D)}
theorem compF_app : ∀ {xs ys : List D} {zs : List D}, compF f (xs ++ ys) = some zs → ∃ a b, compF f xs = some a ∧ compF f ys = some b ∧ zs = a ++ b
  | [], ys, zs, h => ⟨[], zs, rfl, h, rfl⟩
  | x :: xs, ys, zs, h => by
    simp only [List.cons_append, compF] at h ⊢
    cases hx : f x with
    | none => rw [hx] at h; cases h
    | some y =>
      rw [hx] at h
      cases hr : compF f (xs ++ ys) with
      | none => rw [hr] at h; cases h
      | some z =>
        rw [hr] at h
        obtain ⟨a, b, h1, h2, h3⟩ := compF_app hr
        cases h
        exact ⟨y ++ a, b, by rw [h1], h2, by rw [h3, List.append_assoc]⟩
theorem compF_take {xs zs : List D} (h : compF f xs = some zs) (i : Nat) {x : D} (e : xs[i]? = some x) : ∃ a y, compF f (xs.take i) = some a ∧ f x = some y ∧ compF f (xs.take (i + 1)) = some (a ++ y) := by
  have hi : i < xs.length := by
    by_cases hl : i < xs.length
    · exact hl
    · rw [List.getElem?_eq_none (by omega)] at e; cases e
  have e2 : xs.take (i + 1) = xs.take i ++ [x] := by
    rw [List.take_succ, e]; rfl
  have e3 : xs = xs.take (i + 1) ++ xs.drop (i + 1) := (List.take_append_drop _ _).symm
  rw [e3] at h
  obtain ⟨a, b, h1, _, _⟩ := compF_app h
  have h1' := h1
  rw [e2] at h1
  obtain ⟨a', b', h2, h3, h4⟩ := compF_app h1
  simp only [compF] at h3
  cases hx : f x with
  | none => rw [hx] at h3; cases h3
  | some y =>
    rw [hx] at h3
    cases h3
    exact ⟨a', y, h2, rfl, by rw [h1', h4, List.append_nil]⟩
end
end Mn
end
section
set_option Elab.async false
set_option linter.all false
set_option maxRecDepth 100000
set_option maxHeartbeats 4000000
set_option autoImplicit false
/-! D13: comprehensions, one clause. -/
namespace Mn
open PySem PySem.Spec L2
abbrev WF : WX := fun _ _ _ _ => False
def fTurn (own : List Nat) (tg : Tg) (fc fe : Env → M D) (ρ : Env) (x : D) : Option (List D) := match bindTg tg x (wipeE ρ own) with
  | none => none
  | some ρ' => match nx (fc ρ') with
    | some (.bl true) => (nx (fe ρ')).map fun y => [y]
    | some (.bl false) => some []
    | _ => none
def fComp (own : List Nat) (tg : Tg) (fi : Env → M (List D)) (fc fe : Env → M D) : Env → M D := fun ρ => bd (fi ρ) fun xs => li ((compF (fTurn own tg fc fe ρ) xs).map .lst)
/-- the heap without the new list -/
noncomputable def less (H : Hp) (L : Addr) : Hp := fun a => open Classical in if a = L then none else H a
section
variable {K : Frag} {B : Addr → Prop} {H0 H H1 : Hp} {σ : St} {ρ : Env} {L : Addr}
theorem less_at {b : Addr} (ne : b ≠ L) : less H L b = H b := by
  unfold less
  exact if_neg ne
theorem less_self : less H L L = none := by
  unfold less
  exact if_pos rfl
theorem less_upd {o : HO} (e : H L = some o) : upd (less H L) L o = H := by
  funext a
  by_cases h : a = L
  · rw [h, upd_same, e]
  · rw [upd_ne h, less_at h]
theorem upd_less {o o' : HO} : upd H L o = upd (less H L) L o := by
  funext a
  by_cases h : a = L
  · rw [h, upd_same, upd_same]
  · rw [upd_ne h, upd_ne h, less_at h]
theorem same_less (hs : Same H1 H) (hL : H1 L = none) : Same H1 (less H L) := fun b o e => by
  rw [less_at (ne_of_none e hL)]
  exact hs b o e
theorem nx_inv {α : Type} {x : M α} {a : α} (h : nx x = some a) : x = some (.ok a) := by
  unfold nx at h
  split at h
  · rw [Option.some.inj h]
  · cases h
/-- what a block's reading hands out, told of the heap outside -/
theorem out_ok {vs : List Nat} {is : List Nat} {y : V} {d : D} {H4 : Hp} {σ2 : St} {ρ2 : Env} (hL : H1 L = none) (ho : ∀ a, OwnA (wipe σ vs) (wipeE ρ vs) a → OwnA σ2 ρ2 a) (h : Dv K H4 (Bn (Bb B σ (wipe σ vs) ρ (wipeE ρ vs) L) σ2 ρ2) y d) : Dv K (less H4 L) (Bn B σ ρ) y d := by
  have nL : ∀ b, ¬ Bn (Bb B σ (wipe σ vs) ρ (wipeE ρ vs) L) σ2 ρ2 b → b ≠ L := fun b n z => n (.inl (.inr (.inl z)))
  refine Dv.keep (fun b n hb z => ?_) (fun b o n e => by rw [less_at (nL b n)]; exact e) _ _ h
  rcases z with z | z
  · exact n (.inl (.inl z))
  · by_cases q : OwnA (wipe σ vs) (wipeE ρ vs) b
    · exact n (.inr (ho b q))
    · exact n (.inl (.inr (.inr ⟨z, q⟩)))
theorem own_tg {vs : List Nat} {tg : Tg} {d : D} {σ2 : St} {ρ2 : Env} (hix : ∀ i ∈ tg.ix, i ∈ vs) (e : bindTg tg d (wipeE ρ vs) = some ρ2)
    (h : (∃ i v, tg = .one i ∧ σ2 = (wipe σ vs).set i (some v)) ∨ ∃ is xs, tg = .many is ∧ xs.length = is.length ∧ σ2 = setS is xs (wipe σ vs)) : (∀ a, OwnA (wipe σ vs) (wipeE ρ vs) a → OwnA σ2 ρ2 a) ∧ wipe σ2 vs = wipe σ vs := by
  have no : ∀ i ∈ vs, ∀ d, (wipeE ρ vs)[i]? ≠ some (.ow d) := fun i hi d z => nomatch wipeE_no hi z
  rcases h with ⟨i, v, rfl, rfl⟩ | ⟨is, xs, rfl, hl, rfl⟩
  · have hi : i ∈ vs := hix i List.mem_cons_self
    cases e
    exact ⟨fun a h => own_keep (no i hi) h, wipe_set hi wipe_wipe⟩
  · cases d with
    | tup ds =>
      simp only [bindTg] at e
      split at e
      · rename_i hd
        cases e
        exact ⟨fun a h => own_keepA (fun i hi d => no i (hix i hi) d) (hl.trans hd.symm) h, wipe_setS hix wipe_wipe⟩
      · cases e
    | _ => cases e
/-- a block's tests and element, read turn by turn -/
theorem lc_read {m p : Bool} {cv : Nat → Value} {W : WX} {own : List Nat} {tg : Tg} {fi : Env → M (List D)} {fc fe : Env → M D} (hp : p = true → ∃ is, tg = .many is) (hix : ∀ i ∈ tg.ix, i ∈ own) : ∀ σ H Q, rd .n K cv W (fComp own tg fi fc fe) σ H Q →
    tLc (rdI m p K cv W fi) (tgG K tg) (rdT K cv WF fc) (rd .v K cv WF fe) own σ H Q := by
  rintro σ H Q ⟨B, H0, ρ, r, rep, e, fin⟩
  rcases bd_inv e with ⟨xs, hfi, e⟩ | ⟨c, hfi, rfl⟩
  · obtain ⟨l, el, rfl⟩ := li_inv e
    cases hz : compF (fTurn own tg fc fe ρ) xs with
    | none => rw [hz] at el; cases el
    | some zs =>
      rw [hz] at el
      cases el
      refine ⟨B, H0, ρ, _, rep, hfi, fun hlim J H1 s1 w L hL => ?_⟩
      have rep1 := rep.ext s1
      have sb : Same (bs m H1 (Bn B σ ρ)) H1 := by
        cases m with
        | true => exact unban_same H1 _
        | false => exact Same.refl _
      refine lc_it w (fun i Hc => ∃ Hm acc ds, Hc = upd Hm L (.lst acc) ∧ Hm L = none ∧ Same H1 Hm ∧ compF (fTurn own tg fc fe ρ) (xs.take i) = some ds ∧ Dvs K Hm (Bn B σ ρ) acc ds ∧ ds.length ≤ i)
        ⟨H1, [], [], rfl, hL, Same.refl _, rfl, .nil, Nat.zero_le _⟩ ?_ ?_ ?_
      · rintro i Hc _ ⟨Hm, acc, ds, rfl, hm, sm, _⟩
        exact (sb.trans sm).trans (same_upd hm)
      · rintro i x Hc H' hi ⟨Hm, acc, ds, eHc, hm, sm, ec, dacc, dl⟩ ⟨d, ed, y⟩
        obtain ⟨a, ys, ea, ey, ez⟩ := compF_take hz i ed
        rw [ec] at ea
        cases ea
        have sc : Same H1 Hc := by rw [eHc]; exact sm.trans (same_upd hm)
        have hcL : Hc L = some (.lst acc) := by rw [eHc]; exact upd_same
        have rb := rep_block (vs := own) (L := L) rep1 hL sc (by rw [hcL]; exact fun z => nomatch z)
        unfold fTurn at ey
        cases eb : bindTg tg d (wipeE ρ own) with
        | none => rw [eb] at ey; cases ey
        | some ρ2 =>
          rw [eb] at ey
          have hbn : ∀ b, ¬ Bn B σ ρ b → bs m H1 (Bn B σ ρ) b ≠ none → ¬ Bn (Bb B σ (wipe σ own) ρ (wipeE ρ own) L) (wipe σ own) (wipeE ρ own) b := fun b n hb z => by
            rcases z with (z | z | z) | z
            · exact n (.inl z)
            · rw [z] at hb
              exact hb (sb.free hL)
            · exact n (.inr z.1)
            · exact n (.inr (own_wipe z))
          obtain ⟨σ2, gq, r2, s2, hσ⟩ := bind_ok (H' := H') hp rb (sb.trans sc) hbn y eb
          obtain ⟨how, hw⟩ := own_tg hix eb hσ
          refine gq _ ⟨hw, ?_⟩
          simp only at ey
          cases en : nx (fc ρ2) with
          | none => rw [en] at ey; cases ey
          | some b =>
            rw [en] at ey
            refine ⟨_, H0, ρ2, _, r2, nx_inv en, ?_⟩
            cases b with
            | bl b =>
              refine ⟨b, rfl, fun H3 s3 => ?_⟩
              have s3' : Same H1 H3 := (sc.trans s2).trans s3
              have h3L : H3 L = some (.lst acc) := s3 _ _ (s2 _ _ hcL)
              cases b with
              | true =>
                simp only [if_true]
                cases ee : nx (fe ρ2) with
                | none => rw [ee] at ey; cases ey
                | some u =>
                  rw [ee] at ey
                  cases ey
                  refine ⟨_, H0, ρ2, _, r2.ext s3, nx_inv ee, fun v H4 s4 dv => ?_⟩
                  have h4L : H4 L = some (.lst acc) := s4 _ _ h3L
                  have hal := dacc.length
                  have hln : ds.length < lim := by omega
                  refine ⟨acc, h4L, by rw [hal]; exact hln, less H4 L, acc ++ [v], ds ++ [u], upd_less (o' := .lst []), less_self, same_less (s3'.trans s4) hL, ez, ?_, by rw [List.length_append]; exact Nat.succ_le_succ dl⟩
                  refine Dvs.append ?_ (.cons (out_ok (is := []) hL how dv) .nil)
                  have sl : Same Hm (less H4 L) := same_less (fun b o q => s4 _ _ (s3 _ _ (s2 _ _ (by rw [eHc]; exact same_upd hm b o q)))) hm
                  exact dacc.ext sl
              | false =>
                simp only [Bool.false_eq_true, if_false]
                cases ey
                refine ⟨less H3 L, acc, ds, (less_upd h3L).symm, less_self, same_less s3' hL, by rw [ez, List.append_nil], ?_, Nat.le_succ_of_le dl⟩
                have sl : Same Hm (less H3 L) := same_less (fun b o q => s3 _ _ (s2 _ _ (by rw [eHc]; exact same_upd hm b o q))) hm
                exact dacc.ext sl
            | _ => cases ey
      · rintro Hc ⟨Hm, acc, ds, rfl, hm, sm, ec, dacc, dl⟩
        rw [List.take_length] at ec
        rw [hz] at ec
        cases ec
        exact fin L Hm acc (s1.trans sm) hm (by omega) dacc
  · exact ⟨B, H0, ρ, _, rep, hfi, fin⟩
end
end Mn
end
section
set_option Elab.async false
set_option linter.all false
set_option maxRecDepth 100000
set_option maxHeartbeats 4000000
set_option autoImplicit false
/-! D14: statements. -/
namespace Mn
open PySem PySem.Spec L2
section
variable {K : Frag} {B : Addr → Prop} {H0 H H1 : Hp} {σ : St} {ρ : Env}
theorem map_shut_get {ρ : Env} {i : Nat} {c : Cl} (h : (frzAll ρ)[i]? = some c) : ∃ c', ρ[i]? = some c' ∧ c = shut c' := by
  unfold frzAll at h
  rw [List.getElem?_map] at h
  cases e : ρ[i]? with
  | none => rw [e] at h; cases h
  | some c' => rw [e] at h; exact ⟨c', rfl, (Option.some.inj h).symm⟩
theorem rep_all (r : Rep K B H0 H σ ρ) : Rep K B H0 H σ (frzAll ρ) := by
  have no : ∀ a, ¬ OwnA σ (frzAll ρ) a := fun a ⟨i, d, e, _⟩ => by
    obtain ⟨c, _, z⟩ := map_shut_get e
    cases c <;> cases z
  have sub : ∀ a, Bn B σ (frzAll ρ) a → B a := fun a z => z.elim id fun z => absurd z (no a)
  refine ⟨r.same, r.ban, by unfold frzAll; rw [List.length_map]; exact r.len, fun i d e => ?_, fun i d e => ?_, fun i j d e a h1 h2 h3 h4 => ?_⟩
  · obtain ⟨c, e1, z⟩ := map_shut_get e
    cases c with
    | no => cases z
    | sh d' =>
      cases z
      obtain ⟨v, e2, h⟩ := r.sh i d e1
      exact ⟨v, e2, h.anti fun b z => .inl (sub b z)⟩
    | ow d' =>
      cases z
      obtain ⟨a, e2, _, hb, ho⟩ := r.ow i d e1
      refine ⟨_, e2, ?_⟩
      have na : ¬ Bn B σ (frzAll ρ) a := fun z => hb (sub a z)
      cases d <;> first
        | exact ho.elim
        | (obtain ⟨vs, h, l, q⟩ := ho; exact .lst na h l (q.anti fun b z => .inl (sub b z)))
        | (obtain ⟨vs, h, l, l2, n2, o2, q⟩ := ho; exact .dct na (.inl h) l l2 n2 o2 (q.anti fun b z => .inl (sub b z)))
  · obtain ⟨c, _, z⟩ := map_shut_get e
    cases c <;> cases z
  · obtain ⟨c, _, z⟩ := map_shut_get h1
    cases c <;> cases z
theorem all_none {a : Addr} (h : OwnA σ (frzAll ρ) a) : False := by
  obtain ⟨i, d, e, _⟩ := h
  obtain ⟨c, _, z⟩ := map_shut_get e
  cases c <;> cases z
/-- a new thing, held by one name -/
theorem rep_ow {i : Nat} {a : Addr} {o : HO} {d : D} (r : Rep K B H0 H σ ρ) (ha : H a = none) (ho : ∀ B', (∀ b, ¬ Bn B σ ρ b → H b ≠ none → ¬ B' b) → Own K (upd H a o) B' a d) : Rep K B H0 (upd H a o) (σ.set i (some (.ref a))) (ρ.set i (.ow d)) := by
  have st : Same H (upd H a o) := same_upd ha
  have own : ∀ b, OwnA (σ.set i (some (.ref a))) (ρ.set i (.ow d)) b → b = a ∨ OwnA σ ρ b := fun b ⟨j, e, e1, e2⟩ => by
    rcases getset e1 with ⟨z, _⟩ | ⟨ne, e1⟩
    · rcases getset e2 with ⟨_, q⟩ | ⟨ne, _⟩
      · cases q; exact .inl rfl
      · exact absurd z ne
    · rcases getset e2 with ⟨z, _⟩ | ⟨_, e2⟩
      · exact absurd z ne
      · exact .inr ⟨j, e, e1, e2⟩
  have nn : ∀ b, ¬ Bn B σ ρ b → H b ≠ none → ¬ Bn B (σ.set i (some (.ref a))) (ρ.set i (.ow d)) b := fun b n hb z => by
    rcases z with z | z
    · exact n (.inl z)
    · rcases own b z with z | z
      · exact hb (z ▸ ha)
      · exact n (.inr z)
  refine ⟨r.same.trans st, fun b z => Same.nn st (r.ban b z), by rw [List.length_set, List.length_set]; exact r.len, fun j e he => ?_, fun j e he => ?_, fun j k d1 d2 b h1 h2 h3 h4 => ?_⟩
  · rcases getset he with ⟨_, z⟩ | ⟨ne, he⟩
    · cases z
    · obtain ⟨v, e1, h⟩ := r.sh j e he
      exact ⟨v, getset_ne e1 ne, Dv.keep nn (fun b o _ q => st b o q) _ _ h⟩
  · rcases getset he with ⟨z, q⟩ | ⟨ne, he⟩
    · cases q
      subst z
      have hj : j < σ.length := by
        have : j < (ρ.set j (.ow d)).length := by
          by_cases hl : j < (ρ.set j (.ow d)).length
          · exact hl
          · rw [List.getElem?_eq_none (by omega)] at he; cases he
        rw [List.length_set] at this
        rw [r.len]; exact this
      exact ⟨a, List.getElem?_set_self hj, r.same.free ha, fun z => r.ban a z ha, ho _ nn⟩
    · obtain ⟨b, e1, h0, hb, h⟩ := r.ow j e he
      exact ⟨b, getset_ne e1 ne, h0, hb, h.keep nn (fun c o _ q => st c o q) fun o q => st b o q⟩
  · have key : ∀ {j : Nat} {d' : D}, (ρ.set i (.ow d))[j]? = some (.ow d') → (σ.set i (some (.ref a)))[j]? = some (some (.ref b)) → (j = i ∧ b = a) ∨ (j ≠ i ∧ ρ[j]? = some (.ow d') ∧ σ[j]? = some (some (.ref b))) := fun {j d'} q1 q2 => by
      rcases getset q1 with ⟨z, _⟩ | ⟨ne, q1⟩
      · rcases getset q2 with ⟨_, q⟩ | ⟨ne, _⟩
        · cases q; exact .inl ⟨z, rfl⟩
        · exact absurd z ne
      · rcases getset q2 with ⟨z, _⟩ | ⟨_, q2⟩
        · exact absurd z ne
        · exact .inr ⟨ne, q1, q2⟩
    have no : ∀ {j : Nat} {d' : D}, ρ[j]? = some (.ow d') → σ[j]? = some (some (.ref a)) → False := fun {j d'} q1 q2 => r.bn a (.inr ⟨j, d', q1, q2⟩) ha
    rcases key h1 h3 with ⟨z1, z2⟩ | ⟨n1, q1, q2⟩
    · rcases key h2 h4 with ⟨z3, _⟩ | ⟨n2, q3, q4⟩
      · rw [z1, z3]
      · rw [z2] at q4; exact (no q3 q4).elim
    · rcases key h2 h4 with ⟨z3, z4⟩ | ⟨n2, q3, q4⟩
      · rw [z4] at q2; exact (no q1 q2).elim
      · exact r.inj j k d1 d2 b q1 q3 q2 q4
/-- the held thing is written -/
theorem rep_wr {i : Nat} {a : Addr} {o : HO} {d d' : D} (r : Rep K B H0 H σ ρ) (e : ρ[i]? = some (.ow d)) (es : σ[i]? = some (some (.ref a))) (ho : Own K (upd H a o) (Bn B σ ρ) a d') : Rep K B H0 (upd H a o) σ (ρ.set i (.ow d')) := by
  obtain ⟨a', e1, h0, hb, hw⟩ := r.ow i d e
  rw [es] at e1
  cases e1
  have hl : i < ρ.length := by
    by_cases hl : i < ρ.length
    · exact hl
    · rw [List.getElem?_eq_none (by omega)] at e; cases e
  have own : ∀ b, OwnA σ (ρ.set i (.ow d')) b → OwnA σ ρ b := fun b ⟨j, e', q1, q2⟩ => by
    rcases getset q1 with ⟨z, _⟩ | ⟨ne, q1⟩
    · exact ⟨i, d, e, z ▸ q2⟩
    · exact ⟨j, e', q1, q2⟩
  have sub := bn_of (B := B) own
  have na : ∀ b, ¬ Bn B σ ρ b → b ≠ a := fun b n z => n (.inr ⟨i, d, e, z ▸ es⟩)
  have kp : ∀ b o', ¬ Bn B σ ρ b → H b = some o' → upd H a o b = some o' := fun b o' n q => by rw [upd_ne (na b n)]; exact q
  refine ⟨fun b o' q => ?_, fun b z => ?_, by rw [List.length_set]; exact r.len, fun j e' he => ?_, fun j e' he => ?_, fun j k d1 d2 b h1 h2 h3 h4 => ?_⟩
  · have ne : b ≠ a := fun z => by rw [z, h0] at q; cases q
    rw [upd_ne ne]; exact r.same b o' q
  · have ne : b ≠ a := fun q => hb (q ▸ z)
    rw [upd_ne ne]; exact r.ban b z
  · rcases getset he with ⟨_, z⟩ | ⟨ne, he⟩
    · cases z
    · obtain ⟨v, q, h⟩ := r.sh j e' he
      exact ⟨v, q, Dv.keep (fun b n _ z => n (sub b z)) kp _ _ h⟩
  · rcases getset he with ⟨z, q⟩ | ⟨ne, he⟩
    · cases q
      subst z
      exact ⟨a, es, h0, hb, ho.keep (fun b n _ z => n (sub b z)) (fun _ _ _ q => q) fun _ q => q⟩
    · obtain ⟨b, q, h0', hb', h⟩ := r.ow j e' he
      have nb : b ≠ a := fun z => ne (r.inj j i e' d a he e (z ▸ q) es)
      exact ⟨b, q, h0', hb', h.keep (fun c n _ z => n (sub c z)) kp fun o' q' => by rw [upd_ne nb]; exact q'⟩
  · have key : ∀ {j : Nat} {d1 : D}, (ρ.set i (.ow d'))[j]? = some (.ow d1) → ∃ d2, ρ[j]? = some (.ow d2) := fun {j d1} q => by
      rcases getset q with ⟨z, _⟩ | ⟨_, q⟩
      · exact ⟨d, z ▸ e⟩
      · exact ⟨d1, q⟩
    obtain ⟨e1, q1⟩ := key h1
    obtain ⟨e2, q2⟩ := key h2
    exact r.inj j k e1 e2 b q1 q2 h3 h4
end
/-! ### the statements' readings -/
def FinO (K : Frag) (cv : Nat → Value) (W : WX) (B : Addr → Prop) (H0 : Hp) (D : Ends) : Out → Prop
  | .nx ρ => ∀ σ H, Rep K B H0 H σ ρ → D.nx σ H
  | .brk ρ => ∀ σ H, Rep K B H0 H σ ρ → D.bk σ H
  | .cnt ρ => ∀ σ H, Rep K B H0 H σ ρ → D.ct σ H
  | .ret d => ∀ v H, Same H0 H → Dv K H B v d → D.rt v H
  | .exc c ρ => ∀ σ H, Rep K B H0 H σ ρ → W (cv c) none σ H
def rdS (K : Frag) (cv : Nat → Value) (W : WX) (f : Env → Option Out) : TS := fun D σ H => ∃ B H0 ρ o, Rep K B H0 H σ ρ ∧ f ρ = some o ∧ FinO K cv W B H0 D o
theorem pss_imp {X : Cx} {st : List Stmt} {t t' : TS} (h : PSs X st t) (i : ∀ D σ H, t' D σ H → t D σ H) : PSs X st t' := ⟨fun pins s σ H D I q => h.run pins s σ H D I (i D σ H q)⟩
theorem go_inv {α : Type} {ρ : Env} {x : M α} {k : α → Option Out} {o : Out} (h : go ρ x k = some o) : (∃ a, x = some (.ok a) ∧ k a = some o) ∨ ∃ c, x = some (.exc c) ∧ o = .exc c ρ := by
  cases x with
  | none => cases h
  | some x =>
    cases x with
    | ok a => exact .inl ⟨a, rfl, h⟩
    | exc c => exact .inr ⟨c, rfl, (Option.some.inj h).symm⟩
section
variable {X : Cx} {cv : Nat → Value} {W : WX} {K : Frag} {f g : Env → Option Out} {fe fk : Env → M D} {fa : Env → M (List D)}
theorem s_skip : ∀ D σ H, rdS K cv W (fun ρ => some (.nx ρ)) D σ H → tNext D σ H := by
  rintro D σ H ⟨B, H0, ρ, o, r, e, fin⟩
  cases e
  exact fin σ H r
def fSeq (f g : Env → Option Out) : Env → Option Out := fun ρ => match f ρ with
  | some (.nx ρ') => g ρ'
  | o => o
theorem s_seq : ∀ D σ H, rdS K cv W (fSeq f g) D σ H → tSeq (rdS K cv W f) (rdS K cv W g) D σ H := by
  rintro D σ H ⟨B, H0, ρ, o, r, e, fin⟩
  unfold fSeq at e
  cases ef : f ρ with
  | none => rw [ef] at e; cases e
  | some q =>
    rw [ef] at e
    refine ⟨B, H0, ρ, q, r, ef, ?_⟩
    cases q with
    | nx ρ' => exact fun σ' H' r' => ⟨B, H0, ρ', o, r', e, fin⟩
    | _ => cases e; exact fin
/-- after the freezing -/
theorem go_rd {m : Md} {ρ1 : Env} {Q : VK} {B : Addr → Prop} {H0 H : Hp} {σ : St} {D : Ends} {k : Mn.D → Option Out} {o : Out} (r : Rep K B H0 H σ ρ1) (e : go ρ1 (fe ρ1) k = some o) (fin : FinO K cv W B H0 D o) (hq : ∀ d, k d = some o → FinD m K (Bn B σ ρ1) H Q d) :
    rd m K cv W fe σ H Q := by
  rcases go_inv e with ⟨d, h1, h2⟩ | ⟨c, h1, rfl⟩
  · exact ⟨B, H0, ρ1, _, r, h1, hq d h2⟩
  · exact ⟨B, H0, ρ1, _, r, h1, fun H' s => fin σ H' (r.ext s)⟩
theorem fin_set {i : Nat} {b : Bool} {m : Md} {B : Addr → Prop} {H0 H : Hp} {σ : St} {ρ : Env} {d : D} {D : Ends} (hm : m = (if b then .n else .v)) (r : Rep K B H0 H σ ρ) (fin : ∀ σ' H', Rep K B H0 H' σ' (ρ.set i (mkCl b d)) → D.nx σ' H') :
    FinD m K (Bn B σ ρ) H (fun x H1 => gName i x σ H1 D.nx) d := by
  subst hm
  have sh : FinV K (Bn B σ ρ) H (fun x H1 => gName i x σ H1 D.nx) d ∨ mkCl b d ≠ .sh d := by
    by_cases h : mkCl b d = .sh d
    · refine .inl fun v H' s dv => fin _ _ ?_
      rw [h]
      exact (r.ext s).set_sh i dv
    · exact .inr h
  cases b with
  | false => exact sh.elim id fun z => absurd rfl z
  | true =>
    cases d with
    | lst ds =>
      intro a H1 vs s ha l h
      exact fin _ _ (rep_ow (r.ext s) ha fun B' n => ⟨vs, upd_same, l, Dvs.keep n (fun b o _ q => same_upd ha b o q) _ _ h⟩)
    | dct ks ds =>
      intro a H1 vs s ha l l2 n2 o2 h
      exact fin _ _ (rep_ow (r.ext s) ha fun B' n => ⟨vs, upd_same, l, l2, n2, o2, Dvs.keep n (fun b o _ q => same_upd ha b o q) _ _ h⟩)
    | _ => exact sh.elim id fun z => absurd rfl z
def fAsg (i : Nat) (vs : List Nat) (b : Bool) (fe : Env → M D) : Env → Option Out := fun ρ => go (frz vs ρ) (fe (frz vs ρ)) fun d => some (.nx ((frz vs ρ).set i (mkCl b d)))
theorem s_asgD {i : Nat} {vs : List Nat} {b : Bool} {m : Md} (hm : m = (if b then .n else .v)) : ∀ D σ H, rdS K cv W (fAsg i vs b fe) D σ H → tAsg (rd m K cv W fe) (gName i) D σ H := by
  rintro D σ H ⟨B, H0, ρ, o, r, e, fin⟩
  refine go_rd (r.frz vs) e fin fun d h => ?_
  cases h
  exact fin_set hm (r.frz vs) fin
def fUnp (is vs : List Nat) (fe : Env → M D) : Env → Option Out := fun ρ => go (frz vs ρ) (fe (frz vs ρ)) fun d => match d with
  | .tup xs => if xs.length = is.length then some (.nx (setAll is xs (frz vs ρ))) else none
  | _ => none
theorem s_unpD {is vs : List Nat} : ∀ D σ H, rdS K cv W (fUnp is vs fe) D σ H → tAsg (rd .v K cv W fe) (tgG K (.many is)) D σ H := by
  rintro D σ H ⟨B, H0, ρ, o, r, e, fin⟩
  refine go_rd (r.frz vs) e fin fun d h => ?_
  cases d with
  | tup xs =>
    simp only at h
    split at h
    · rename_i hl
      cases h
      intro v H1 s dv
      cases dv with
      | tup h1 h2 h3 h4 => exact ⟨_, _, rfl, h2.sq, h4.length.trans hl, gAll_of (h4.length.trans hl) (fin _ _ (rep_setAll ((r.frz vs).ext s) h4))⟩
    · cases h
  | _ => cases h
def fExp (vs : List Nat) (fe : Env → M D) : Env → Option Out := fun ρ => go (frz vs ρ) (fe (frz vs ρ)) fun _ => some (.nx (frz vs ρ))
theorem s_expD {vs : List Nat} : ∀ D σ H, rdS K cv W (fExp vs fe) D σ H → tDrop (rd .v K cv W fe) D σ H := by
  rintro D σ H ⟨B, H0, ρ, o, r, e, fin⟩
  refine go_rd (r.frz vs) e fin fun d h => ?_
  cases h
  exact fun v H1 s _ => fin _ _ ((r.frz vs).ext s)
def fRet (fe : Env → M D) : Env → Option Out := fun ρ => go (frzAll ρ) (fe (frzAll ρ)) fun d => some (.ret d)
theorem s_retD : ∀ D σ H, rdS K cv W (fRet fe) D σ H → tRet (rd .v K cv W fe) D σ H := by
  rintro D σ H ⟨B, H0, ρ, o, r, e, fin⟩
  refine go_rd (rep_all r) e fin fun d h => ?_
  cases h
  exact fun v H1 s dv => fin v H1 (r.same.trans s) (dv.anti fun b z => .inl z)
theorem s_retN : ∀ D σ H, rdS K cv W (fun _ => some (.ret .non)) D σ H → tRetN D σ H := by
  rintro D σ H ⟨B, H0, ρ, o, r, e, fin⟩
  cases e
  exact fin _ H r.same .non
theorem s_brk : ∀ D σ H, rdS K cv W (fun ρ => some (.brk ρ)) D σ H → tBreak D σ H := by
  rintro D σ H ⟨B, H0, ρ, o, r, e, fin⟩
  cases e
  exact fin σ H r
theorem s_cnt : ∀ D σ H, rdS K cv W (fun ρ => some (.cnt ρ)) D σ H → tCont D σ H := by
  rintro D σ H ⟨B, H0, ρ, o, r, e, fin⟩
  cases e
  exact fin σ H r
def fIfS (vs : List Nat) (fe : Env → M D) (f g : Env → Option Out) : Env → Option Out := fun ρ => go (frz vs ρ) (fe (frz vs ρ)) fun d => match d with
  | .bl true => f (frz vs ρ)
  | .bl false => g (frz vs ρ)
  | _ => none
theorem s_ifD {vs : List Nat} : ∀ D σ H, rdS K cv W (fIfS vs fe f g) D σ H → tIfS (rdT K cv W fe) (rdS K cv W f) (rdS K cv W g) D σ H := by
  rintro D σ H ⟨B, H0, ρ, o, r, e, fin⟩
  have r1 := r.frz vs
  rcases go_inv e with ⟨d, h1, h2⟩ | ⟨c, h1, rfl⟩
  · refine ⟨B, H0, _, _, r1, h1, ?_⟩
    cases d with
    | bl b =>
      refine ⟨b, rfl, fun H' s => ?_⟩
      cases b with
      | true => simp only [if_true]; exact ⟨B, H0, _, o, r1.ext s, h2, fin⟩
      | false => simp only [Bool.false_eq_true, if_false]; exact ⟨B, H0, _, o, r1.ext s, h2, fin⟩
    | _ => cases h2
  · exact ⟨B, H0, _, _, r1, h1, fun H' s => fin σ H' (r1.ext s)⟩
theorem s_whlD {vs : List Nat} {n : Nat} : ∀ D σ H, rdS K cv W (whlF (cWhl vs fe) f n) D σ H → tWhile (rdT K cv W fe) (rdS K cv W f) D σ H := by
  rintro D σ H ⟨B, H0, ρ, o, r, e, fin⟩
  refine ⟨fun m σ H => ∃ ρ, Rep K B H0 H σ ρ ∧ whlF (cWhl vs fe) f m ρ = some o, ⟨n, ρ, r, e⟩, ?_⟩
  rintro m σ H ⟨ρ, r, e⟩
  cases m with
  | zero => cases e
  | succ m =>
    have r1 := r.frz vs
    simp only [whlF] at e
    unfold cWhl at e
    cases hf : fe (frz vs ρ) with
    | none => rw [hf] at e; cases e
    | some q =>
      rw [hf] at e
      refine ⟨B, H0, _, q, r1, hf, ?_⟩
      cases q with
      | exc c => cases e; exact fun H' s => fin σ H' (r1.ext s)
      | ok d =>
        cases d with
        | bl b =>
          refine ⟨b, rfl, fun H' s => ?_⟩
          cases b with
          | false => simp only [Bool.false_eq_true, if_false]; cases e; exact fin σ H' (r1.ext s)
          | true =>
            simp only [if_true]
            refine ⟨fun σ H => ∃ ρ, Rep K B H0 H σ ρ ∧ whlF (cWhl vs fe) f m ρ = some o, fun σ' H' h => ⟨m, Nat.lt_succ_self _, h⟩, ?_⟩
            simp only at e
            cases hb : f (frz vs ρ) with
            | none => rw [hb] at e; cases e
            | some q =>
              rw [hb] at e
              refine ⟨B, H0, _, q, r1.ext s, hb, ?_⟩
              cases q with
              | nx ρ' => exact fun σ' H2 r' => ⟨ρ', r', e⟩
              | cnt ρ' => exact fun σ' H2 r' => ⟨ρ', r', e⟩
              | brk ρ' => cases e; exact fun σ' H2 r' => fin σ' H2 r'
              | ret d => cases e; exact fin
              | exc c ρ' => cases e; exact fin
        | _ => cases e
/-- a smaller base for an end -/
theorem FinO.base {B : Addr → Prop} {H0 H0' : Hp} {D : Ends} {o : Out} (s : Same H0 H0') (fin : FinO K cv W B H0 D o) : FinO K cv W B H0' D o := by
  cases o with
  | nx ρ => exact fun σ H r => fin σ H (r.base' s)
  | brk ρ => exact fun σ H r => fin σ H (r.base' s)
  | cnt ρ => exact fun σ H r => fin σ H (r.base' s)
  | ret d => exact fun v H q => fin v H (s.trans q)
  | exc c ρ => exact fun σ H r => fin σ H (r.base' s)
def fFor (tg : Tg) (vs : List Nat) (fa : Env → M (List D)) (f : Env → Option Out) : Env → Option Out := fun ρ => go (frz vs ρ) (fa (frz vs ρ)) fun xs => forF (fun x ρ => match bindTg tg x ρ with
  | some ρ' => f ρ'
  | none => none) xs (frz vs ρ)
theorem s_forD {tg : Tg} {vs : List Nat} {p : Bool} (hp : p = true → ∃ is, tg = .many is) : ∀ D σ H, rdS K cv W (fFor tg vs fa f) D σ H → tFor (rdI true p K cv W fa) (tgG K tg) (rdS K cv W f) D σ H := by
  rintro D σ H ⟨B, H0, ρ, o, r, e, fin⟩
  have r1 := r.frz vs
  rcases go_inv e with ⟨xs, h1, h2⟩ | ⟨c, h1, rfl⟩
  · refine ⟨B, H0, _, _, r1, h1, fun hl J H1 s1 w => ?_⟩
    have r2 := (r1.ext s1).rebase
    have fin' : FinO K cv W B (unown H1 σ (frz vs ρ)) D o := fin.base (r1.ext s1).unown
    have w : Walk J xs.length (Same (unban H1 (Bn B σ (frz vs ρ)))) (YD p K (unban H1 (Bn B σ (frz vs ρ))) (Bn B σ (frz vs ρ)) xs) := w
    have w : Walk J xs.length (Same (unown H1 σ (frz vs ρ))) (YD p K (unown H1 σ (frz vs ρ)) (Bn B σ (frz vs ρ)) xs) := w.mono (fun _ s => (unban_unown _ _ _ _).trans s) fun _ _ _ _ _ _ y => y.up (unban_unown _ _ _ _)
    generalize unown H1 σ (frz vs ρ) = Hb at r2 fin' w
    refine for_it w (fun i σ' H' => ∃ ρ', Rep K B Hb H' σ' ρ' ∧ forF (fun x ρ => match bindTg tg x ρ with
      | some ρ' => f ρ'
      | none => none) (xs.drop i) ρ' = some o) ⟨_, r2, h2⟩ (fun i σ' H' _ ⟨ρ', r', _⟩ => r'.same) ?_ ?_
    · rintro i x σ' H' H2 hi ⟨ρ', r', e'⟩ ⟨d, ed, y⟩
      have ed' : xs.drop i = d :: xs.drop (i + 1) := by
        have hx : xs[i] = d := by
          rw [List.getElem?_eq_getElem hi] at ed
          exact Option.some.inj ed
        rw [← hx, List.drop_eq_getElem_cons hi]
      rw [ed'] at e'
      simp only [forF] at e'
      cases eb : bindTg tg d ρ' with
      | none => rw [eb] at e'; cases e'
      | some ρ2 =>
        rw [eb] at e'
        obtain ⟨σ2, gq, r3, s3, _⟩ := bind_ok (H' := H2) (Bb := Bn B σ (frz vs ρ)) hp r' r'.same (fun b n hb z => by
          rcases z with z | ⟨j, d', q1, q2⟩
          · exact n (.inl z)
          · obtain ⟨a, q3, q4, _⟩ := r'.ow j d' q1
            rw [q2] at q3
            cases q3
            exact hb q4) y eb
        refine gq _ ?_
        simp only at e'
        cases hf : f ρ2 with
        | none => rw [hf] at e'; cases e'
        | some q =>
          rw [hf] at e'
          refine ⟨B, Hb, ρ2, q, r3, hf, ?_⟩
          cases q with
          | nx ρ3 => exact fun σ4 H4 r4 => ⟨ρ3, r4, e'⟩
          | cnt ρ3 => exact fun σ4 H4 r4 => ⟨ρ3, r4, e'⟩
          | brk ρ3 => cases e'; exact fun σ4 H4 r4 => fin' σ4 H4 r4
          | ret d => cases e'; exact fin'
          | exc c ρ3 => cases e'; exact fin'
    · rintro σ' H' ⟨ρ', r', e'⟩
      rw [List.drop_length] at e'
      cases e'
      exact fin' σ' H' r'
  · exact ⟨B, H0, _, _, r1, h1, fun H' s => fin σ H' (r1.ext s)⟩
end
end Mn
end
section
set_option Elab.async false
set_option linter.all false
set_option maxRecDepth 100000
set_option maxHeartbeats 4000000
set_option autoImplicit false
/-! D15: statements that write; pairs; raise. -/
namespace Mn
open PySem PySem.Spec L2
section
variable {K : Frag} {B B' : Addr → Prop} {H0 H H1 : Hp} {σ : St} {ρ : Env}
theorem own_inv {i : Nat} {d : D} (h : ownAt ρ i = some d) : ρ[i]? = some (.ow d) := by
  unfold ownAt at h
  split at h
  · rename_i e; rw [e]; rw [Option.some.inj h]
  · cases h
theorem FinD.anti {m : Md} {Q : VK} {d : D} (s : ∀ b, B' b → B b) (f : FinD m K B' H Q d) : FinD m K B H Q d := by
  have b1 : ∀ {H : Hp} {v : V}, Bor K H B v d → Bor K H B' v d := fun {H v} h => by
    cases d <;> first
      | exact Dv.anti h s
      | (obtain ⟨a, vs, e, h2, h3, h4⟩ := h; exact ⟨a, vs, e, h2, h3, h4.anti s⟩)
      | (obtain ⟨a, vs, e, h2, h3, h4, h5, h6, h7⟩ := h; exact ⟨a, vs, e, h2, h3, h4, h5, h6, h7.anti s⟩)
  cases m with
  | v => exact fun v H1 t h => f v H1 t (h.anti s)
  | b => exact fun v H1 t h => f v H1 t (b1 h)
  | n =>
    cases d <;> first
      | exact fun v H1 t h => f v H1 t (h.anti s)
      | exact fun a H1 vs t n l h => f a H1 vs t n l (h.anti s)
      | exact fun a H1 vs t n l l2 n2 o2 h => f a H1 vs t n l l2 n2 o2 (h.anti s)
end
section
variable {X : Cx} {cv : Nat → Value} {W : WX} {K : Frag} {f g : Env → M D}
def fApp (i : Nat) (vs : List Nat) (fe : Env → M D) : Env → Option Out := fun ρ => match ownAt (frz vs ρ) i with
  | some (.lst xs) => go (frz vs ρ) (fe (frz vs ρ)) fun d => if xs.length < lim then some (.nx ((frz vs ρ).set i (.ow (.lst (xs ++ [d]))))) else none
  | _ => none
theorem s_appD {i : Nat} {vs : List Nat} : ∀ D σ H, rdS K cv W (fApp i vs f) D σ H → tDrop (tBM K "list" rAppend (tVar i) (tCons (rd .v K cv W f) tNil)) D σ H := by
  rintro D σ H ⟨B, H0, ρ, o, r, e, fin⟩
  have r1 := r.frz vs
  unfold fApp at e
  cases eo : ownAt (frz vs ρ) i with
  | none => rw [eo] at e; cases e
  | some c =>
    rw [eo] at e
    cases c with
    | lst xs =>
      have ei := own_inv eo
      obtain ⟨a, es, h0, hb, us, hu, hl, hd⟩ := r1.ow i _ ei
      refine ⟨_, es, .inl ⟨rfl, us, .inl (.inl hu)⟩, ?_⟩
      refine go_rd r1 e fin fun d h => ?_
      intro v H1 s dv
      split at h
      · rename_i hlt
        cases h
        have hlen := hd.length
        refine ⟨a, us, v, rfl, rfl, s _ _ hu, by rw [hlen]; exact hlt, fin _ _ (rep_wr (r1.ext s) ei es ⟨us ++ [v], upd_same, by rw [List.length_append]; exact hlt, ?_⟩)⟩
        have kp : ∀ b o', ¬ Bn B σ (frz vs ρ) b → H1 b = some o' → upd H1 a (.lst (us ++ [v])) b = some o' := fun b o' n q => by
          rw [upd_ne (fun z : b = a => n (.inr ⟨i, _, ei, by rw [z]; exact es⟩))]; exact q
        exact Dvs.keep (fun _ q _ => q) kp _ _ (Dvs.append (hd.ext s) (.cons dv .nil))
      · cases h
    | _ => cases e
def fExt (i : Nat) (vs : List Nat) (fe : Env → M D) : Env → Option Out := fun ρ => match ownAt (frz vs ρ) i with
  | some (.lst xs) => go (frz vs ρ) (fe (frz vs ρ)) fun d => match d with
    | .lst ys => if xs.length + ys.length ≤ lim then some (.nx ((frz vs ρ).set i (.ow (.lst (xs ++ ys))))) else none
    | _ => none
  | _ => none
theorem s_extD {i : Nat} {vs : List Nat} : ∀ D σ H, rdS K cv W (fExt i vs f) D σ H → tDrop (tBM K "list" rExtend (tVar i) (tCons (rd .v K cv W f) tNil)) D σ H := by
  rintro D σ H ⟨B, H0, ρ, o, r, e, fin⟩
  have r1 := r.frz vs
  unfold fExt at e
  cases eo : ownAt (frz vs ρ) i with
  | none => rw [eo] at e; cases e
  | some c =>
    rw [eo] at e
    cases c with
    | lst xs =>
      have ei := own_inv eo
      obtain ⟨a, es, h0, hb, us, hu, hl, hd⟩ := r1.ow i _ ei
      refine ⟨_, es, .inl ⟨rfl, us, .inl (.inl hu)⟩, ?_⟩
      refine go_rd r1 e fin fun d h => ?_
      intro v H1 s dv
      cases d with
      | lst ys =>
        simp only at h
        split at h
        · rename_i hlt
          cases h
          have hlen := hd.length
          cases dv with
          | lst q1 q2 q3 q4 =>
            have hlen2 := q4.length
            refine ⟨a, _, us, _, rfl, rfl, s _ _ hu, q2, by rw [hlen, hlen2]; exact hlt, fin _ _ (rep_wr (r1.ext s) ei es ⟨_, upd_same, by rw [List.length_append]; exact hlt, ?_⟩)⟩
            have kp : ∀ b o' z, ¬ Bn B σ (frz vs ρ) b → H1 b = some o' → upd H1 a z b = some o' := fun b o' z n q => by
              rw [upd_ne (fun z : b = a => n (.inr ⟨i, _, ei, by rw [z]; exact es⟩))]; exact q
            exact Dvs.keep (fun _ q _ => q) (fun b o' => kp b o' _) _ _ (Dvs.append (hd.ext s) q4)
        · cases h
      | _ => cases h
    | _ => cases e
def fPop (i : Nat) : Env → Option Out := fun ρ => match ownAt ρ i with
  | some (.lst xs) => if xs = [] then none else some (.nx (ρ.set i (.ow (.lst xs.dropLast))))
  | _ => none
theorem s_popD {i : Nat} : ∀ D σ H, rdS K cv W (fPop i) D σ H → tDrop (tBM0 K "list" rPop (tVar i)) D σ H := by
  rintro D σ H ⟨B, H0, ρ, o, r1, e, fin⟩
  unfold fPop at e
  cases eo : ownAt ρ i with
  | none => rw [eo] at e; cases e
  | some c =>
    rw [eo] at e
    cases c with
    | lst xs =>
      have ei := own_inv eo
      obtain ⟨a, es, h0, hb, us, hu, hl, hd⟩ := r1.ow i _ ei
      simp only at e
      split at e
      · cases e
      · rename_i hne
        cases e
        have hlen := hd.length
        have hpos : us.length - 1 < us.length := by
          have : xs.length ≠ 0 := fun z => hne (List.length_eq_zero_iff.mp z)
          omega
        refine ⟨_, es, .inl ⟨rfl, us, .inl (.inl hu)⟩, a, us, us[us.length - 1], rfl, rfl, hu, List.getElem?_eq_getElem hpos, fin _ _ (rep_wr r1 ei es ⟨us.dropLast, upd_same, by rw [List.length_dropLast]; omega, ?_⟩)⟩
        have kp : ∀ b o', ¬ Bn B σ ρ b → H b = some o' → upd H a (.lst us.dropLast) b = some o' := fun b o' n q => by
          rw [upd_ne (fun z : b = a => n (.inr ⟨i, _, ei, by rw [z]; exact es⟩))]; exact q
        rw [List.dropLast_eq_take, List.dropLast_eq_take, hlen]
        rw [List.dropLast_eq_take, hlen] at kp
        exact Dvs.keep (fun _ q _ => q) kp _ _ (hd.take _)
    | _ => cases e
def fPar (i j : Nat) (vs : List Nat) (b1 b2 : Bool) (f g : Env → M D) : Env → Option Out := fun ρ => go (frz vs ρ) (f (frz vs ρ)) fun x => go (frz vs ρ) (g (frz vs ρ)) fun y => some (.nx (((frz vs ρ).set i (mkCl b1 x)).set j (mkCl b2 y)))
theorem s_parD {i j : Nat} {vs : List Nat} {b1 b2 : Bool} {m1 m2 : Md} (hm1 : m1 = (if b1 then .n else .v)) (hm2 : m2 = (if b2 then .n else .v)) : ∀ D σ H, rdS K cv W (fPar i j vs b1 b2 f g) D σ H →
    tCons (rd m1 K cv W f) (tCons (rd m2 K cv W g) tNil) σ H (fun xs H1 => ∃ v w, xs = [v, w] ∧ ∀ H2, Same H1 H2 → D.nx ((σ.set i (some v)).set j (some w)) H2) := by
  rintro D σ H ⟨B, H0, ρ, o, r, e, fin⟩
  have r1 := r.frz vs
  generalize frz vs ρ = ρ1 at r1
  have e : go (frz vs ρ) (f (frz vs ρ)) (fun x => go (frz vs ρ) (g (frz vs ρ)) fun y => some (.nx (((frz vs ρ).set i (mkCl b1 x)).set j (mkCl b2 y)))) = some o := e
  have r1 := r.frz vs
  generalize frz vs ρ = ρ1 at r1 e
  refine go_rd r1 e fin fun x h => ?_
  -- the second, in a heap that has grown, with the first's new thing banned
  have second : ∀ (B2 : Addr → Prop) (H1 : Hp) (v : V), Rep K B2 H0 H1 σ ρ1 → (∀ H2, Same H1 H2 → Rep K B H0 H2 (σ.set i (some v)) (ρ1.set i (mkCl b1 x))) → (∀ b, Bn B (σ.set i (some v)) (ρ1.set i (mkCl b1 x)) b → Bn B2 σ ρ1 b) → (∀ σ' H', Rep K B2 H0 H' σ' ρ1 → Rep K B H0 H' σ' ρ1) →
      tCons (rd m2 K cv W g) tNil σ H1 (fun ys H2 => ∃ v' w, v :: ys = [v', w] ∧ ∀ H3, Same H2 H3 → D.nx ((σ.set i (some v')).set j (some w)) H3) := by
    intro B2 H1 v r2 rs sub back
    rcases go_inv h with ⟨y, h1, h2⟩ | ⟨c, h1, rfl⟩
    · cases h2
      refine ⟨B2, H0, ρ1, _, r2, h1, FinD.anti sub ?_⟩
      have z := fin_set (D := { D with nx := fun σ' H' => ∀ H3, Same H' H3 → D.nx σ' H3 }) (i := j) hm2 (rs H1 (Same.refl _)) fun σ' H' r' H3 s3 => fin σ' H3 (r'.ext s3)
      have key : ∀ w H2, gName j w (σ.set i (some v)) H2 (fun σ' H' => ∀ H3, Same H' H3 → D.nx σ' H3) → tNil σ H2 (fun xs H3 => ∃ v' w', v :: w :: xs = [v', w'] ∧ ∀ H4, Same H3 H4 → D.nx ((σ.set i (some v')).set j (some w')) H4) := fun w H2 q => ⟨v, w, rfl, q⟩
      have : (fun w H2 => tNil σ H2 (fun xs H3 => ∃ v' w', v :: w :: xs = [v', w'] ∧ ∀ H4, Same H3 H4 → D.nx ((σ.set i (some v')).set j (some w')) H4)) = fun w H2 => tNil σ H2 (fun xs H3 => ∃ v' w', v :: w :: xs = [v', w'] ∧ ∀ H4, Same H3 H4 → D.nx ((σ.set i (some v')).set j (some w')) H4) := rfl
      revert z
      cases m2 with
      | v => exact fun z u H' s q => key u H' (z u H' s q)
      | b => exact fun z u H' s q => key u H' (z u H' s q)
      | n =>
        cases y <;> first
          | exact fun z u H' s q => key u H' (z u H' s q)
          | exact fun z a H' us s n l q => key _ _ (z a H' us s n l q)
          | exact fun z a H' us s n l l2 n2 o2 q => key _ _ (z a H' us s n l l2 n2 o2 q)
    · exact ⟨B2, H0, ρ1, _, r2, h1, fun H' s => fin σ H' (back σ H' (r2.ext s))⟩
  have shc : FinV K (Bn B σ ρ1) H (fun v H1 => tCons (rd m2 K cv W g) tNil σ H1 (fun ys H2 => ∃ v' w, v :: ys = [v', w] ∧ ∀ H3, Same H2 H3 → D.nx ((σ.set i (some v')).set j (some w)) H3)) x ∨ mkCl b1 x ≠ .sh x := by
    by_cases q : mkCl b1 x = .sh x
    · refine .inl fun v H1 s dv => second B H1 v (r1.ext s) (fun H2 s2 => ?_) (fun b z => ?_) fun _ _ r => r
      · rw [q]; exact (r1.ext (s.trans s2)).set_sh i (dv.ext s2)
      · rw [q] at z
        exact bn_of (own_set (c := .sh x) fun _ z => nomatch z) b z
    · exact .inr q
  have owc : ∀ (a : Addr) (H1 : Hp) (oo : HO), Same H H1 → H1 a = none → mkCl b1 x = .ow x → (∀ B', (∀ b, ¬ Bn B σ ρ1 b → H1 b ≠ none → ¬ B' b) → Own K (upd H1 a oo) B' a x) →
      tCons (rd m2 K cv W g) tNil σ (upd H1 a oo) (fun ys H2 => ∃ v' w, (V.ref a) :: ys = [v', w] ∧ ∀ H3, Same H2 H3 → D.nx ((σ.set i (some v')).set j (some w)) H3) := by
    intro a H1 oo s ha q ho
    have rr := r1.ext s
    refine second (fun b => B b ∨ b = a) (upd H1 a oo) (.ref a) ?_ (fun H2 s2 => ?_) (fun b z => ?_) (fun σ' H' r' => ?_)
    · have nn : ∀ b, ¬ Bn B σ ρ1 b → H1 b ≠ none → ¬ Bn (fun b => B b ∨ b = a) σ ρ1 b := fun b n hb z => by
        rcases z with (z | z) | z
        · exact n (.inl z)
        · exact hb (z ▸ ha)
        · exact n (.inr z)
      have st := same_upd (o := oo) ha
      refine ⟨rr.same.trans st, fun b z => ?_, rr.len, fun j' d he => ?_, fun j' d he => ?_, rr.inj⟩
      · rcases z with z | z
        · exact Same.nn st (rr.ban b z)
        · rw [z, upd_same]; exact fun q => nomatch q
      · obtain ⟨v, e1, h⟩ := rr.sh j' d he
        exact ⟨v, e1, Dv.keep nn (fun b o _ q => st b o q) _ _ h⟩
      · obtain ⟨b, e1, h0, hb, h⟩ := rr.ow j' d he
        refine ⟨b, e1, h0, fun z => z.elim hb fun z => ?_, h.keep nn (fun c o _ q => st c o q) fun o q => st b o q⟩
        exact h.nn (z ▸ ha)
    · rw [q]
      exact (rep_ow rr ha ho).ext s2
    · rw [q] at z
      rcases z with z | ⟨j', d', e1, e2⟩
      · exact .inl (.inl z)
      · rcases getset e1 with ⟨z, _⟩ | ⟨ne, e1⟩
        · rcases getset e2 with ⟨_, q⟩ | ⟨ne, _⟩
          · cases q; exact .inl (.inr rfl)
          · exact absurd z ne
        · rcases getset e2 with ⟨z, _⟩ | ⟨_, e2⟩
          · exact absurd z ne
          · exact .inr ⟨j', d', e1, e2⟩
    · have sub : ∀ b, Bn B σ' ρ1 b → Bn (fun b => B b ∨ b = a) σ' ρ1 b := fun b z => z.imp .inl id
      refine ⟨r'.same, fun b z => r'.ban b (.inl z), r'.len, fun j' d he => ?_, fun j' d he => ?_, r'.inj⟩
      · obtain ⟨v, e1, h⟩ := r'.sh j' d he
        exact ⟨v, e1, h.anti sub⟩
      · obtain ⟨b, e1, h0, hb, h⟩ := r'.ow j' d he
        exact ⟨b, e1, h0, fun z => hb (.inl z), h.keep (fun c n _ z => n (sub c z)) (fun _ _ _ q => q) fun _ q => q⟩
  subst hm1
  cases b1 with
  | false => exact shc.elim id fun z => absurd rfl z
  | true =>
    cases x with
    | lst ds =>
      intro a H1 us s ha l hd
      exact owc a H1 _ s ha rfl fun B' n => ⟨us, upd_same, l, Dvs.keep n (fun b o _ q => same_upd ha b o q) _ _ hd⟩
    | dct ks ds =>
      intro a H1 us s ha l l2 n2 o2 hd
      exact owc a H1 _ s ha rfl fun B' n => ⟨us, upd_same, l, l2, n2, o2, Dvs.keep n (fun b o _ q => same_upd ha b o q) _ _ hd⟩
    | _ => exact shc.elim id fun z => absurd rfl z
theorem FinD.mono {m : Md} {B : Addr → Prop} {H : Hp} {Q Q' : VK} {d : D} (h : ∀ v H, Q v H → Q' v H) (f : FinD m K B H Q d) : FinD m K B H Q' d := by
  cases m with
  | v => exact fun v H1 t q => h _ _ (f v H1 t q)
  | b => exact fun v H1 t q => h _ _ (f v H1 t q)
  | n =>
    cases d <;> first
      | exact fun v H1 t q => h _ _ (f v H1 t q)
      | exact fun a H1 vs t n l q => h _ _ (f a H1 vs t n l q)
      | exact fun a H1 vs t n l l2 n2 o2 q => h _ _ (f a H1 vs t n l l2 n2 o2 q)
theorem rd_mono {m : Md} {σ : St} {H : Hp} {Q Q' : VK} (h : ∀ v H, Q v H → Q' v H) (r : rd m K cv W f σ H Q) : rd m K cv W f σ H Q' := by
  obtain ⟨B, H0, ρ, r, rep, e, fin⟩ := r
  refine ⟨B, H0, ρ, r, rep, e, ?_⟩
  cases r with
  | ok d => exact FinD.mono h fin
  | exc c => exact fin
theorem cons2_mono {m1 m2 : Md} {σ : St} {H : Hp} {Q Q' : List V → Hp → Prop} (h : ∀ v H, Q v H → Q' v H) (r : tCons (rd m1 K cv W f) (tCons (rd m2 K cv W g) tNil) σ H Q) : tCons (rd m1 K cv W f) (tCons (rd m2 K cv W g) tNil) σ H Q' :=
  rd_mono (fun v H1 q => rd_mono (fun w H2 q => h _ _ q) q) r
theorem s_raise {c : Nat} : ∀ D σ H, rdS K cv W (fun ρ => some (.exc c ρ)) D σ H → W (cv c) none σ H := by
  rintro D σ H ⟨B, H0, ρ, o, r, e, fin⟩
  cases e
  exact fin σ H r
end
end Mn
end
section
set_option Elab.async false
set_option linter.all false
set_option maxRecDepth 100000
set_option maxHeartbeats 4000000
set_option autoImplicit false
/-! D16: the checker of a translation, its context. -/
namespace Mn
open PySem PySem.Spec L2
/-- of the program: constants, defs (name, parameters), classes of exceptions -/
structure Sg where
  gl : List (Str × D)
  fns : List (Nat × Str × Nat)
  exs : List (Nat × Str)
  /-- there are try statements -/
  tr : Bool := false
structure Cs where
  N : List Str
  sc : Scope
  fn : Str → Bool
def Cs.blk (cs : Cs) (scope : Scope) : Cs := ⟨cs.N, relS scope cs.sc, fun x => scope.names.lookup x == some .cell⟩
def visB (sc : Scope) (x : Str) : Bool := match sc.names.lookup x with
  | some .local => true
  | some .cell => true
  | some .free => true
  | _ => false
def locB (cs : Cs) (x : Str) : Bool := match cs.sc.names.lookup x with
  | some .local => true
  | some .cell => cs.fn x
  | _ => false
def glB (cs : Cs) (x : Str) : Bool := match cs.sc.names.lookup x with
  | some .globalImplicit => !(x == ("__debug__" : Str))
  | _ => false
def nameOk (cs : Cs) (i : Nat) (x : Str) : Bool := decide (cs.N[i]? = some x) && visB cs.sc x && !(x == ("__debug__" : Str)) && !(x == ("__classdict__" : Str))
def nameI (cs : Cs) (i : Nat) : Expr → Bool
  | .Name x _ => nameOk cs i x
  | _ => false
def stB (s : Tx) : Bool := decide (s.length ≤ lim) && s.all (decide <| · < 1114112)
def ckC (sg : Sg) (cs : Cs) : D → Expr → Bool
  | .int i, .Constant (.int j) _ _ => decide (i = j)
  | .str s, .Constant (.str x) _ _ => decide (x.cps.toList = s) && stB s
  | .bl b, .Constant (.bool c) _ _ => decide (b = c)
  | .non, .Constant .none _ _ => true
  | .int i, .Name x _ => glB cs x && (match sg.gl.lookup x with
    | some (.int j) => decide (i = j)
    | _ => false)
  | .str s, .Name x _ => glB cs x && (match sg.gl.lookup x with
    | some (.str t) => decide (s = t)
    | _ => false)
  | _, _ => false
def bName : Blt → Option Str
  | .len => some "len"
  | .all => some "all"
  | .any => some "any"
  | .list => some "list"
  | .tuple => some "tuple"
  | .dict => some "dict"
  | .sorted => some "sorted"
  | .min1 => some "min"
  | .max1 => some "max"
  | .min2 => some "min"
  | .max2 => some "max"
  | _ => none
def mName : Mth → Option Str
  | .index => some "index"
  | .join => some "join"
  | _ => none
def mName0 : Mth → Option Str
  | .lower => some "lower"
  | .upper => some "upper"
  | _ => none
def tyN : Ty → Option Str
  | .int => some "int"
  | .bool => some "bool"
  | .str => some "str"
  | .tuple => some "tuple"
  | .list => some "list"
  | .own _ => none
def notSlice : Expr → Bool
  | .Slice _ _ none _ => false
  | _ => true
def isTupleE : Expr → Bool
  | .Tuple _ _ _ => true
  | _ => false
def notSet : Expr → Bool
  | .Set _ _ _ => false
  | _ => true
def pOf : E → Bool
  | .izip _ _ => true
  | .ienum _ => true
  | _ => false
def ckG1 (cs : Cs) (i : Nat) : Expr → Bool
  | .Name x _ => decide (cs.N[i]? = some x) && locB cs x
  | _ => false
def ckGs (cs : Cs) : List Nat → List Expr → Bool
  | [], [] => true
  | i :: is, e :: es => ckG1 cs i e && ckGs cs is es
  | _, _ => false
def ckG (cs : Cs) : Tg → Expr → Bool
  | .one i, e => ckG1 cs i e
  | .many is, .Tuple es _ _ => ckGs cs is es
  | _, _ => false
def ownP (N : List Str) (own : List Nat) : List (Str × Nat) := own.filterMap fun i => (N[i]?).map fun x => (x, i)
def isCT : E → Bool
  | .cst (.bl true) => true
  | _ => false
inductive Mo where
  | v | b | t
  deriving DecidableEq
def Mo.tv : Mo → Mo
  | .t => .t
  | _ => .v
def isNil : E → Bool
  | .nil => true
  | _ => false
def isAnd : E → Bool
  | .and_ _ _ => true
  | _ => false
def isOr : E → Bool
  | .or_ _ _ => true
  | _ => false
def ckSet (fn : Expr) (es : List Expr) (cs : Cs) (f : Expr → Bool) : Bool := match fn, es with
  | .Name y _, [e] => decide (y = "set") && glB cs y && noStar e && f e
  | _, _ => false
def ckView (m : Str) (fn : Expr) (es : List Expr) (q : Pos) (f : Expr → Bool) : Bool := match fn, es with
  | .Attribute ob x ap, [] => decide (x = m) && noSuper ob && (ap.endLine == q.line) && f ob
  | _, _ => false
section
variable (sg : Sg)
mutual
def ckE : E → Mo → Cs → Expr → Bool
  | .bor i, m, cs, .Name x _ => decide (m = .b) && nameOk cs i x
  | .var i, _, cs, .Name x _ => nameOk cs i x
  | .cst d, _, cs, e => ckC sg cs d e
  | .bin op a b, _, cs, .BinOp x o y _ => decide (bopOf o = some op) && ckE a .b cs x && ckE b .b cs y
  | .neg a, _, cs, .UnaryOp .USub x _ => ckE a .b cs x
  | .not_ a, m, cs, .UnaryOp .Not x _ => ckE a m.tv cs x
  | .and_ a b, m, cs, .BoolOp .And (x :: y :: r) p => ckE a m.tv cs x && (match r with
    | [] => ckE b m.tv cs y
    | _ :: _ => ckE b m.tv cs (.BoolOp .And (y :: r) p) && isAnd b)
  | .or_ a b, m, cs, .BoolOp .Or (x :: y :: r) p => ckE a m.tv cs x && (match r with
    | [] => ckE b m.tv cs y
    | _ :: _ => ckE b m.tv cs (.BoolOp .Or (y :: r) p) && isOr b)
  | .cmp op a b, _, cs, .Compare x [o] [y] _ => decide (copOf o = op) && ckE a .b cs x && ckE b .b cs y && notSet y
  | .chn p q a b c, _, cs, .Compare x [o, o2] [y, z] _ => decide (copOf o = p) && decide (copOf o2 = q) && ckE a .b cs x && ckE b .b cs y && ckE c .b cs z && notSet z
  | .ite c a b, m, cs, .IfExp t x y _ => decide (m ≠ .t) && ckE c .t cs t && ckE a .v cs x && ckE b .v cs y
  | .call f as, _, cs, .Call (.Name x _) es [] _ => (match sg.fns.lookup f with
    | some (y, k) => decide (x = y) && decide (es.length = k)
    | none => false) && glB cs x && es.all noStar && ckA as true cs es
  | .blt b as, _, cs, .Call (.Name x _) (e :: es) [] _ => decide (bName b = some x) && glB cs x && (e :: es).all noStar && ckA as false cs (e :: es)
  | .mth m o as, _, cs, .Call (.Attribute ob x ap) es [] p => ckE o .b cs ob && noSuper ob && (ap.endLine == p.line) && (match es with
    | [] => decide (mName0 m = some x) && isNil as
    | e :: es => decide (mName m = some x) && (e :: es).all noStar && decide ((e :: es).length < 29) && ckA as false cs (e :: es))
  | .vw k a, _, cs, .Call (.Name x _) [.Call fn es [] q] [] _ => glB cs x && (match k with
    | .lenSet => decide (x = "len") && ckSet fn es cs (fun e => ckE a .b cs e)
    | .sortSet => decide (x = "sorted") && ckSet fn es cs (fun e => ckE a .b cs e)
    | .sortItems => decide (x = "sorted") && ckView "items" fn es q (fun e => ckE a .b cs e)
    | .sortVals => decide (x = "sorted") && ckView "values" fn es q (fun e => ckE a .b cs e)
    | .listVals => decide (x = "list") && ckView "values" fn es q (fun e => ckE a .b cs e))
  | .get o a b, _, cs, .Call (.Attribute ob x ap) [y, z] [] p => decide (x = "get") && ckE o .b cs ob && noSuper ob && (ap.endLine == p.line) && noStar y && noStar z && ckE a .v cs y && ckE b .v cs z
  | .isi t a, _, cs, .Call (.Name x _) [y, .Name n _] [] _ => decide (x = "isinstance") && glB cs x && decide (tyN t = some n) && glB cs n && noStar y && ckE a .b cs y
  | .idx a i, _, cs, .Subscript x y _ => ckE a .b cs x && ckE i .b cs y && notSlice y
  | .slc a lo hi, _, cs, .Subscript x (.Slice l h none _) _ => ckE a .b cs x && ckO lo cs l && ckO hi cs h
  | .tup as, _, cs, .Tuple es _ _ => es.all noStar && ckA as true cs es
  | .lst as, _, cs, .List es _ => es.all noStar && ckA as true cs es
  | .dct, _, _, .Dict [] [] _ => true
  | .comp own tg it c e, _, cs, .ListComp elt [g] scope _ => decide (g.is_async = 0) && blkC cs.N cs.sc scope (ownP cs.N own) && decide ((ownP cs.N own).map (·.2) = own) && ckG (cs.blk scope) tg g.target && decide (∀ i ∈ tg.ix, i ∈ own) && (!pOf it || isTupleE g.target) && notSet g.iter && ckI it cs false g.iter &&
    (if g.ifs.isEmpty then isCT c else decide (g.ifs.length = 1) && (g.ifs.all fun x => ckE c .t (cs.blk scope) x)) && ckE e .v (cs.blk scope) elt
  | .compK own tg i c e, _, cs, .ListComp elt [g] scope _ => decide (g.is_async = 0) && blkC cs.N cs.sc scope (ownP cs.N own) && decide ((ownP cs.N own).map (·.2) = own) && ckG (cs.blk scope) tg g.target && decide (∀ i ∈ tg.ix, i ∈ own) && nameI cs i g.iter &&
    (if g.ifs.isEmpty then isCT c else decide (g.ifs.length = 1) && (g.ifs.all fun x => ckE c .t (cs.blk scope) x)) && ckE e .v (cs.blk scope) elt
  | .comp2 own own2 tg it c tg2 it2 c2 e, _, cs, .ListComp elt [g, g2] scope _ => decide (g.is_async = 0) && blkC cs.N cs.sc scope (ownP cs.N own) && decide ((ownP cs.N own).map (·.2) = own) && ckG (cs.blk scope) tg g.target && decide (∀ i ∈ tg.ix, i ∈ own) && (!pOf it || isTupleE g.target) && notSet g.iter && ckI it cs false g.iter &&
    (if g.ifs.isEmpty then isCT c else decide (g.ifs.length = 1) && (g.ifs.all fun x => ckE c .t (cs.blk scope) x)) && ckE e .v (cs.blk scope) elt &&
    (decide (g2.is_async = 0) && decide (∀ i ∈ own2, i ∈ own) && ckG (cs.blk scope) tg2 g2.target && decide (∀ i ∈ tg2.ix, i ∈ own2) && (!pOf it2 || isTupleE g2.target) && notSet g2.iter && ckI it2 (cs.blk scope) true g2.iter &&
    (if g2.ifs.isEmpty then isCT c2 else decide (g2.ifs.length = 1) && (g2.ifs.all fun x => ckE c2 .t (cs.blk scope) x)))
  | _, _, _, _ => false
def ckA : E → Bool → Cs → List Expr → Bool
  | .nil, _, _, [] => true
  | .cons a as, m, cs, e :: es => ckE a (if m then .v else .b) cs e && noStar e && ckA as m cs es
  | _, _, _, _ => false
def ckI : E → Cs → Bool → Expr → Bool
  | .ival a, cs, m, e => ckE a (if m then .v else .b) cs e
  | .irng as, cs, _, .Call (.Name x _) es [] _ => decide (x = "range") && glB cs x && decide (1 ≤ es.length ∧ es.length ≤ 3) && es.all noStar && ckA as false cs es
  | .izip a b, cs, m, .Call (.Name x _) [e, e2] [] _ => decide (x = "zip") && glB cs x && noStar e && noStar e2 && ckE a (if m then .v else .b) cs e && ckE b (if m then .v else .b) cs e2
  | .ienum a, cs, m, .Call (.Name x _) [e] [] _ => decide (x = "enumerate") && glB cs x && noStar e && ckE a (if m then .v else .b) cs e
  | _, _, _, _ => false
def ckO : E → Cs → Option Expr → Bool
  | .nil, _, none => true
  | .cons a as, cs, some e => ckE a .b cs e && isNil as
  | _, _, _ => false
end
end
end Mn
end
section
set_option Elab.async false
set_option linter.all false
set_option maxRecDepth 100000
set_option maxHeartbeats 4000000
set_option autoImplicit false
/-! D24: sorted. -/
namespace Mn
open PySem PySem.Spec L2
/-! ### trees as data -/
mutual
def pd : D → PyData
  | .int i => .int i
  | .str s => .str (tx s)
  | .tup xs => .tuple (pdL xs)
  | _ => .none
def pdL : List D → List PyData
  | [] => []
  | x :: xs => pd x :: pdL xs
end
mutual
def pur : D → Bool
  | .int _ => true
  | .str _ => true
  | .tup xs => purL xs
  | _ => false
def purL : List D → Bool
  | [] => true
  | x :: xs => pur x && purL xs
end
theorem purL_mem : ∀ {xs : List D}, (∀ x ∈ xs, pur x = true) → purL xs = true
  | [], _ => rfl
  | x :: xs, h => by
    show (pur x && purL xs) = true
    rw [h x List.mem_cons_self, purL_mem fun y hy => h y (List.mem_cons_of_mem _ hy)]
    rfl
theorem pdL_len : ∀ xs : List D, (pdL xs).length = xs.length
  | [] => rfl
  | x :: xs => by show (pdL xs).length + 1 = _; rw [pdL_len xs]; rfl
theorem txb (c d : Tx) : (tx c == tx d) = (c == d) := by
  by_cases z : c = d
  · rw [z]; simp
  · have q : ¬ tx c = tx d := fun q => z (tx_inj q)
    have e1 : (tx c == tx d) = false := by simpa using q
    have e2 : (c == d) = false := by simpa using z
    rw [e1, e2]
theorem txl (c d : Tx) : decide ((tx c).cps.toList < (tx d).cps.toList) = ltTx c d := by
  rw [← ltTx_eq c d]
  show decide ((⟨c.toArray⟩ : Str).cps.toList < _) = _
  congr 1
mutual
theorem lt_pd : ∀ x y : D, pur x = true → pur y = true → PySem.W.alike (pd x) (pd y) = true → eqD x y = PyData.eqv (pd x) (pd y) ∧ ltS x y = PySem.W.dataLt (pd x) (pd y)
  | .int a, y, _, hy, h => by
    cases y with
    | int b => exact ⟨by show (a == b) = PyData.eqv (.int a) (.int b); rw [PyData.eqv], by show decide (a < b) = PySem.W.dataLt (.int a) (.int b); rw [PySem.W.dataLt_int]⟩
    | str b => simp [pd, PySem.W.alike] at h
    | tup b => simp [pd, PySem.W.alike] at h
    | _ => cases hy
  | .str a, y, _, hy, h => by
    cases y with
    | str b => exact ⟨by show (a == b) = PyData.eqv (.str (tx a)) (.str (tx b)); rw [PyData.eqv, txb], by show ltTx a b = PySem.W.dataLt (.str (tx a)) (.str (tx b)); rw [PySem.W.dataLt_str, txl]⟩
    | int b => simp [pd, PySem.W.alike] at h
    | tup b => simp [pd, PySem.W.alike] at h
    | _ => cases hy
  | .tup a, y, hx, hy, h => by
    cases y with
    | tup b =>
      have h : PySem.W.alike (.tuple (pdL a)) (.tuple (pdL b)) = true := h
      rw [PySem.W.alike] at h
      obtain ⟨h1, h2⟩ := lt_pdL a b hx hy h
      refine ⟨?_, ?_⟩
      · show eqL a b = PyData.eqv (.tuple (pdL a)) (.tuple (pdL b))
        rw [PyData.eqv]
        exact h1
      · show ltSL a b = PySem.W.dataLt (.tuple (pdL a)) (.tuple (pdL b))
        rw [PySem.W.dataLt_tuple]
        exact h2
    | int b => simp [pd, PySem.W.alike] at h
    | str b => simp [pd, PySem.W.alike] at h
    | _ => cases hy
  | .non, _, hx, _, _ => nomatch hx
  | .bl _, _, hx, _, _ => nomatch hx
  | .lst _, _, hx, _, _ => nomatch hx
  | .dct _ _, _, hx, _, _ => nomatch hx
  | .scr _, _, hx, _, _ => nomatch hx
theorem lt_pdL : ∀ xs ys : List D, purL xs = true → purL ys = true → PySem.W.alikeAll (pdL xs) (pdL ys) = true → eqL xs ys = PyData.eqvAll (pdL xs) (pdL ys) ∧ ltSL xs ys = PyProof.Rows.lexLt PyProof.Rows.itemOrd (PySem.W.keyToksAll (pdL xs)) (PySem.W.keyToksAll (pdL ys))
  | [], [], _, _, _ => ⟨by simp [eqL, pdL, PyData.eqvAll], by simp only [ltSL, pdL]; exact (PyProof.Rows.lex_irrefl _).symm⟩
  | [], y :: ys, _, _, _ => ⟨by simp [eqL, pdL, PyData.eqvAll], by
    simp only [ltSL, pdL, PySem.W.toks_all_cons]
    simp only [PySem.W.keyToksAll]
    rw [PyProof.Rows.lex_diff (O := PyProof.Rows.itemOrd) (by simp)]
    simp [PyProof.Rows.itemLt]⟩
  | x :: xs, [], _, _, _ => ⟨by simp [eqL, pdL, PyData.eqvAll], by
    simp only [ltSL, pdL, PySem.W.toks_all_cons]
    simp only [PySem.W.keyToksAll]
    rw [PyProof.Rows.lex_diff (O := PyProof.Rows.itemOrd) (by simp)]
    simp [PyProof.Rows.itemLt]⟩
  | x :: xs, y :: ys, hx, hy, h => by
    have hx : (pur x && purL xs) = true := hx
    have hy : (pur y && purL ys) = true := hy
    rw [Bool.and_eq_true] at hx hy
    obtain ⟨a1, a2⟩ := PySem.W.alike_all_cons h
    obtain ⟨e1, l1⟩ := lt_pd x y hx.1 hy.1 a1
    obtain ⟨e2, l2⟩ := lt_pdL xs ys hx.2 hy.2 a2
    refine ⟨?_, ?_⟩
    · show (eqD x y && eqL xs ys) = PyData.eqvAll (pd x :: pdL xs) (pd y :: pdL ys)
      rw [PySem.W.eqv_all_cons, e1, e2]
    · show (if eqD x y = true then ltSL xs ys else ltS x y) = _
      cases q : PyData.eqv (pd x) (pd y) with
      | true =>
        rw [e1, q, if_pos rfl, l2]
        exact (PySem.W.dataLt_all_yes a1 q).symm
      | false =>
        rw [e1, q, if_neg (by simp), l1]
        exact (PySem.W.dataLt_all_no a1 q).symm
end
mutual
theorem eqD_eq : ∀ x y : D, pur x = true → pur y = true → eqD x y = true → x = y
  | .int a, y, _, hy, h => by
    cases y with
    | int b => have h : (a == b) = true := h; rw [eq_of_beq h]
    | str b => cases h
    | tup b => cases h
    | _ => cases hy
  | .str a, y, _, hy, h => by
    cases y with
    | str b => have h : (a == b) = true := h; rw [eq_of_beq h]
    | int b => cases h
    | tup b => cases h
    | _ => cases hy
  | .tup a, y, hx, hy, h => by
    cases y with
    | tup b => rw [eqL_eq a b hx hy h]
    | int b => cases h
    | str b => cases h
    | _ => cases hy
  | .non, _, hx, _, _ => nomatch hx
  | .bl _, _, hx, _, _ => nomatch hx
  | .lst _, _, hx, _, _ => nomatch hx
  | .dct _ _, _, hx, _, _ => nomatch hx
  | .scr _, _, hx, _, _ => nomatch hx
theorem eqL_eq : ∀ xs ys : List D, purL xs = true → purL ys = true → eqL xs ys = true → xs = ys
  | [], [], _, _, _ => rfl
  | [], _ :: _, _, _, h => by simp [eqL] at h
  | _ :: _, [], _, _, h => by simp [eqL] at h
  | x :: xs, y :: ys, hx, hy, h => by
    have hx : (pur x && purL xs) = true := hx
    have hy : (pur y && purL ys) = true := hy
    have h : (eqD x y && eqL xs ys) = true := h
    rw [Bool.and_eq_true] at hx hy h
    rw [eqD_eq x y hx.1 hy.1 h.1, eqL_eq xs ys hx.2 hy.2 h.2]
end
theorem toks_conn {x y : PyData} (h : PySem.W.alike x y = true) (h1 : PySem.W.dataLt x y = false) (h2 : PySem.W.dataLt y x = false) : PyData.eqv x y = true := by
  have e := PyProof.Rows.lex_total (O := PyProof.Rows.itemOrd) _ _ h1 h2
  cases q : PyData.eqv x y with
  | true => rfl
  | false =>
    have z := (PySem.W.toks_eqv x y h).2 q [] [.inl 0]
    rw [e] at z
    rw [PySem.W.lex_pre, PyProof.Rows.lex_irrefl] at z
    cases z
theorem okK_pur : ∀ (k : SK) (x : D), okK k x = true → pur x = true
  | .s, x, h => by cases x <;> first | rfl | cases h
  | .i, x, h => by cases x <;> first | rfl | cases h
  | .all k, x, h => by
    cases x <;> first
      | (cases h; done)
      | skip
    rename_i xs
    have h : xs.all (okK k) = true := h
    exact purL_mem fun y hy => okK_pur k y (List.all_eq_true.mp h y hy)
  | .two a b, x, h => by
    match x, h with
    | .tup [u, v], h =>
      have h : (okK a u && okK b v) = true := h
      rw [Bool.and_eq_true] at h
      show (pur u && (pur v && true)) = true
      rw [okK_pur a u h.1, okK_pur b v h.2]
      rfl
theorem alikeL_of {k : SK} (ih : ∀ x y, okK k x = true → okK k y = true → PySem.W.alike (pd x) (pd y) = true) : ∀ xs ys : List D, xs.all (okK k) = true → ys.all (okK k) = true → PySem.W.alikeAll (pdL xs) (pdL ys) = true
  | [], _, _, _ => by simp [pdL, PySem.W.alikeAll]
  | _ :: _, [], _, _ => by simp [pdL, PySem.W.alikeAll]
  | x :: xs, y :: ys, h1, h2 => by
    rw [List.all_cons, Bool.and_eq_true] at h1 h2
    simp only [pdL, PySem.W.alikeAll, Bool.and_eq_true]
    exact ⟨ih x y h1.1 h2.1, alikeL_of ih xs ys h1.2 h2.2⟩
theorem okK_alike : ∀ (k : SK) (x y : D), okK k x = true → okK k y = true → PySem.W.alike (pd x) (pd y) = true
  | .s, x, y, h1, h2 => by cases x <;> first | (cases h1; done) | (cases y <;> first | (cases h2; done) | simp [pd, PySem.W.alike])
  | .i, x, y, h1, h2 => by cases x <;> first | (cases h1; done) | (cases y <;> first | (cases h2; done) | simp [pd, PySem.W.alike])
  | .all k, x, y, h1, h2 => by
    cases x <;> first
      | (cases h1; done)
      | skip
    cases y <;> first
      | (cases h2; done)
      | skip
    simp only [pd, PySem.W.alike]
    exact alikeL_of (okK_alike k) _ _ h1 h2
  | .two a b, x, y, h1, h2 => by
    match x, h1, y, h2 with
    | .tup [u, v], h1, .tup [u', v'], h2 =>
      have h1 : (okK a u && okK b v) = true := h1
      have h2 : (okK a u' && okK b v') = true := h2
      rw [Bool.and_eq_true] at h1 h2
      simp only [pd, pdL, PySem.W.alike, PySem.W.alikeAll, Bool.and_eq_true, and_true]
      exact ⟨okK_alike a u u' h1.1 h2.1, okK_alike b v v' h1.2 h2.2⟩
/-- a total order on a kind of trees -/
structure Tot (P : D → Bool) : Prop where
  irr : ∀ x, P x = true → ltS x x = false
  tr : ∀ x y z, P x = true → P y = true → P z = true → ltS x y = true → ltS y z = true → ltS x z = true
  cn : ∀ x y, P x = true → P y = true → ltS x y = false → ltS y x = false → x = y
theorem tot_K (k : SK) : Tot (okK k) := by
  have e : ∀ x y, okK k x = true → okK k y = true → ltS x y = PySem.W.dataLt (pd x) (pd y) := fun x y hx hy => (lt_pd x y (okK_pur k x hx) (okK_pur k y hy) (okK_alike k x y hx hy)).2
  refine ⟨fun x hx => ?_, fun x y z hx hy hz h1 h2 => ?_, fun x y hx hy h1 h2 => ?_⟩
  · rw [e x x hx hx]; exact PyProof.Rows.lex_irrefl _
  · rw [e _ _ hx hy] at h1
    rw [e _ _ hy hz] at h2
    rw [e _ _ hx hz]
    exact PyProof.Rows.lex_trans _ _ _ h1 h2
  · rw [e _ _ hx hy] at h1
    rw [e _ _ hy hx] at h2
    have a := okK_alike k x y hx hy
    have q := toks_conn a h1 h2
    refine eqD_eq x y (okK_pur k x hx) (okK_pur k y hy) ?_
    rw [(lt_pd x y (okK_pur k x hx) (okK_pur k y hy) a).1]
    exact q
def nrm (P : D → Bool) (d0 d : D) : D := if P d then d else d0
def ltK (P : D → Bool) (d0 : D) (x y : D) : Bool := ltS (nrm P d0 x) (nrm P d0 y)
section
variable {P : D → Bool} {d0 : D}
theorem nrm_ok (h : P d0 = true) (d : D) : P (nrm P d0 d) = true := by
  unfold nrm
  split
  · assumption
  · exact h
theorem nrm_id {d : D} (h : P d = true) : nrm P d0 d = d := by
  unfold nrm
  rw [if_pos h]
theorem Tot.asym (t : Tot P) {x y : D} (hx : P x = true) (hy : P y = true) (h : ltS x y = true) : ltS y x = false := by
  cases q : ltS y x with
  | false => rfl
  | true =>
    have := t.tr x y x hx hy hx h q
    rw [t.irr x hx] at this
    cases this
theorem swo_K (t : Tot P) (h0 : P d0 = true) : SrtO.Swo (ltK P d0) := by
  refine ⟨fun x y h => t.asym (nrm_ok h0 x) (nrm_ok h0 y) h, fun x y z h1 h2 => ?_⟩
  unfold ltK at *
  have hx := nrm_ok (P := P) h0 x
  have hy := nrm_ok (P := P) h0 y
  have hz := nrm_ok (P := P) h0 z
  generalize nrm P d0 x = x at *
  generalize nrm P d0 y = y at *
  generalize nrm P d0 z = z at *
  cases q : ltS z x with
  | false => rfl
  | true =>
    exfalso
    cases q1 : ltS x y with
    | true =>
      have := t.tr z x y hz hx hy q q1
      rw [h2] at this; cases this
    | false =>
      have e := t.cn x y hx hy q1 h1
      rw [e] at q
      rw [h2] at q; cases q
/-- in a total order a permutation keeps the order of equals -/
theorem perm_stb (t : Tot P) (h0 : P d0 = true) {l m : List D} (hl : ∀ x ∈ l, P x = true) (h : l.Perm m) : SrtO.Stb (ltK P d0) l m := by
  refine ⟨h, fun x => ?_⟩
  have hp := h.filter (SrtO.eqv (ltK P d0) x)
  have all : ∀ y ∈ l.filter (SrtO.eqv (ltK P d0) x), y = nrm P d0 x := fun y hy => by
    obtain ⟨h1, h2⟩ := List.mem_filter.mp hy
    obtain ⟨q1, q2⟩ := SrtO.eqv_iff.mp h2
    have py := hl y h1
    unfold ltK at q1 q2
    rw [nrm_id py] at q1 q2
    exact (t.cn _ _ (nrm_ok h0 x) py q1 q2).symm
  have e1 := List.eq_replicate_of_mem all
  have e2 := List.eq_replicate_of_mem (l := m.filter (SrtO.eqv (ltK P d0) x)) (a := nrm P d0 x) fun y hy => all y (hp.mem_iff.mpr hy)
  rw [e1, e2, hp.length_eq]
theorem insF_perm (x : D) : ∀ ys : List D, (insF x ys).Perm (x :: ys)
  | [] => List.Perm.refl _
  | y :: ys => by
    unfold insF
    split
    · exact (List.Perm.cons y (insF_perm x ys)).trans (List.Perm.swap x y ys)
    · exact List.Perm.refl _
theorem sortS_perm : ∀ xs : List D, (sortS xs).Perm xs
  | [] => List.Perm.refl _
  | x :: xs => (insF_perm x (sortS xs)).trans (List.Perm.cons x (sortS_perm xs))
theorem insF_srtd (t : Tot P) (h0 : P d0 = true) (x : D) (hx : P x = true) : ∀ ys : List D, (∀ y ∈ ys, P y = true) → SrtO.Srtd (ltK P d0) ys → SrtO.Srtd (ltK P d0) (insF x ys)
  | [], _, _ => SrtO.srtd_one x
  | y :: ys, hy, hs => by
    have O := swo_K t h0
    unfold insF
    have py := hy y List.mem_cons_self
    obtain ⟨s1, s2⟩ := List.pairwise_cons.mp hs
    split
    · rename_i hlt
      refine List.pairwise_cons.mpr ⟨fun z hz => ?_, insF_srtd t h0 x hx ys (fun z hz => hy z (List.mem_cons_of_mem _ hz)) s2⟩
      rcases List.mem_cons.mp ((insF_perm x ys).mem_iff.mp hz) with e | hz
      · rw [e]
        refine O.asym _ _ ?_
        unfold ltK
        rw [nrm_id py, nrm_id hx]
        exact hlt
      · exact s1 z hz
    · rename_i hnl
      have hk : ltK P d0 y x = false := by
        unfold ltK
        rw [nrm_id py, nrm_id hx]
        simpa using hnl
      refine List.pairwise_cons.mpr ⟨fun z hz => ?_, hs⟩
      rcases List.mem_cons.mp hz with e | hz
      · rw [e]; exact hk
      · exact O.tr x y z hk (s1 z hz)
theorem sortS_srtd (t : Tot P) (h0 : P d0 = true) : ∀ xs : List D, (∀ x ∈ xs, P x = true) → SrtO.Srtd (ltK P d0) (sortS xs)
  | [], _ => List.Pairwise.nil
  | x :: xs, h => insF_srtd t h0 x (h x List.mem_cons_self) _ (fun y hy => h y (List.mem_cons_of_mem _ ((sortS_perm xs).mem_iff.mp hy))) (sortS_srtd t h0 xs fun y hy => h y (List.mem_cons_of_mem _ hy))
end
/-! ### the values -/
noncomputable def treeOf (R : Value → D → Prop) (u : Value) : D := open Classical in if h : ∃ d, R u d then h.choose else .non
theorem tree_eq {R : Value → D → Prop} (f : ∀ u d d', R u d → R u d' → d = d') {u : Value} {d : D} (h : R u d) : treeOf R u = d := by
  unfold treeOf
  rw [dif_pos ⟨d, h⟩]
  exact f u _ _ (Exists.choose_spec (⟨d, h⟩ : ∃ d, R u d)) h
/-- a value of a kind -/
def Rk (k : SK) (h : Heap) (u : Value) (d : D) : Prop := (∃ as, Reads h u (pd d) as) ∧ okK k d = true
theorem Rk.fn {k : SK} {h : Heap} {u : Value} {d d' : D} (h1 : Rk k h u d) (h2 : Rk k h u d') : d = d' := by
  obtain ⟨⟨as, r⟩, o⟩ := h1
  obtain ⟨⟨as', r'⟩, o'⟩ := h2
  have a := okK_alike k d d' o o'
  have e := PySem.W.alike_unique _ _ _ _ _ a r r'
  have q := (lt_pd d d' (okK_pur k d o) (okK_pur k d' o') a).1
  rw [← e] at q a
  rw [PySem.W.eqv_refl_alike _ a] at q
  exact eqD_eq d d' (okK_pur k d o) (okK_pur k d' o') q
mutual
theorem reads_keep {h h' : Heap} (k : ∀ b o, h.get? b = some o → o.cls = .type "tuple" → h'.get? b = some o) : ∀ (d : D) (u : Value) (as : List Addr), pur d = true → Reads h u (pd d) as → Reads h' u (pd d) as
  | .int _, _, _, _, r => by simp only [pd] at r ⊢; cases r; exact .int _ _
  | .str _, _, _, _, r => by simp only [pd] at r ⊢; cases r; exact .str _ _
  | .tup xs, _, _, hp, r => by
    simp only [pd] at r ⊢
    cases r with
    | tuple h1 h2 h3 h4 => exact .tuple (k _ _ h1 h2) h2 h3 (readsL_keep k xs _ _ hp h4)
  | .non, _, _, hp, _ => nomatch hp
  | .bl _, _, _, hp, _ => nomatch hp
  | .lst _, _, _, hp, _ => nomatch hp
  | .dct _ _, _, _, hp, _ => nomatch hp
  | .scr _, _, _, hp, _ => nomatch hp
theorem readsL_keep {h h' : Heap} (k : ∀ b o, h.get? b = some o → o.cls = .type "tuple" → h'.get? b = some o) : ∀ (ds : List D) (us : List Value) (as : List Addr), purL ds = true → ReadsAll h us (pdL ds) as → ReadsAll h' us (pdL ds) as
  | [], _, _, _, r => by simp only [pdL] at r ⊢; cases r; exact .nil
  | d :: ds, _, _, hp, r => by
    have hp : (pur d && purL ds) = true := hp
    rw [Bool.and_eq_true] at hp
    simp only [pdL] at r ⊢
    cases r with
    | cons r1 r2 => exact .cons (reads_keep k d _ _ hp.1 r1) (readsL_keep k ds _ _ hp.2 r2)
end
theorem Rk.keeps {k : SK} {h h' : Heap} {u : Value} {d : D} (x : Rk k h u d) (kp : ∀ b o, h.get? b = some o → o.cls = .type "tuple" → h'.get? b = some o) : Rk k h' u d :=
  ⟨let ⟨as, r⟩ := x.1; ⟨as, reads_keep kp d u as (okK_pur k d x.2) r⟩, x.2⟩
def kdep : SK → Nat
  | .s => 0
  | .i => 0
  | .all k => kdep k + 1
  | .two a b => max (kdep a) (kdep b) + 1
theorem depL_le {n : Nat} : ∀ xs : List D, (∀ x ∈ xs, (pd x).depth ≤ n) → PyData.depthAll (pdL xs) ≤ n
  | [], _ => by simp [pdL, PyData.depthAll]
  | x :: xs, h => by
    simp only [pdL, PyData.depthAll]
    exact Nat.max_le.mpr ⟨h x List.mem_cons_self, depL_le xs fun y hy => h y (List.mem_cons_of_mem _ hy)⟩
theorem kdep_le : ∀ (k : SK) (x : D), okK k x = true → (pd x).depth ≤ kdep k
  | .s, x, h => by cases x <;> first | (cases h; done) | simp [pd, PyData.depth, kdep]
  | .i, x, h => by cases x <;> first | (cases h; done) | simp [pd, PyData.depth, kdep]
  | .all k, x, h => by
    cases x <;> first
      | (cases h; done)
      | skip
    rename_i xs
    have h : xs.all (okK k) = true := h
    simp only [pd, PyData.depth, kdep]
    exact Nat.succ_le_succ (depL_le xs fun y hy => kdep_le k y (List.all_eq_true.mp h y hy))
  | .two a b, x, h => by
    match x, h with
    | .tup [u, v], h =>
      have h : (okK a u && okK b v) = true := h
      rw [Bool.and_eq_true] at h
      have h1 := kdep_le a u h.1
      have h2 := kdep_le b v h.2
      simp only [pd, pdL, PyData.depth, PyData.depthAll, kdep]
      omega
section
variable {prog : Program} {w : World} {A : Around} {E : Value → Shared → Prop} {s : Shared}
/-- two tuples, as sorting compares values of one type -/
theorem oneLt_tup {a b : Value} {xs ys : List D} {as bs : List Addr} {Q : Bool → Shared → Prop} (ra : Reads s.heap a (.tuple (pdL xs)) as) (rb : Reads s.heap b (.tuple (pdL ys)) bs) (hal : PySem.W.alikeAll (pdL xs) (pdL ys) = true)
    (hu : A.units + 1 + min (PyData.depthAll (pdL xs)) (PyData.depthAll (pdL ys)) < cLine) (hq : Q (PySem.W.dataLt (.tuple (pdL xs)) (.tuple (pdL ys))) s) : wpAny (model prog w) A (PyProof.Rows.oneLt' true a b) Q E s := by
  generalize pdL xs = X at *
  generalize pdL ys = Y at *
  cases ra with
  | @tuple l o vs n _ as₁ h1 h2 h3 h4 =>
    cases rb with
    | @tuple l' o' vs' n' _ bs₁ k1 k2 k3 k4 =>
      have n1 : vs.size = X.length := by simpa using SeqAt.ReadsAll.length _ _ _ h4
      have n2 : vs'.size = Y.length := by simpa using SeqAt.ReadsAll.length _ _ _ k4
      rw [PySem.W.dataLt_tuple, ← PySem.W.firstLt_toks X Y hal, ← n1, ← n2] at hq
      obtain ⟨cls, dd, data, sl⟩ := o
      obtain ⟨cls2, dd2, data2, sl2⟩ := o'
      simp only at h2 h3 k2 k3
      subst h2 h3 k2 k3
      have hu1 : A.units < cLine := by omega
      rw [PyProof.Rows.oneLt'_eq]
      simp only [if_true]
      refine wpAny_bind (wpAny_cRoomFor hu1 ?_)
      refine wpAny_bind (wpAny_callSpecialIfBound?_slot (T := "tuple") ⟨_, h1, rfl⟩ F.slot_tuple_lt (call_meets F.slot_tuple_lt ⟨_, h1, rfl⟩ F.entry_tuple_lt (F.args_tuple_lt_2 _ _)
        (SeqAt.tuple_ltAt l l' vs vs' n n' dd dd2 sl sl2 (SeqAt.pairEq X Y) fun j => PySem.W.dataLt (X.getD j .none) (Y.getD j .none)) ⟨h1, k1, fun j j1 j2 => ?_, fun j j1 j2 hj => ?_, ?_⟩))
      · have z := PySem.W.eqAt_alikeAll X Y A.in1 s vs.toList vs'.toList _ _ h4 k4 hal (by show A.units + 1 + _ < _; omega) j (by simpa using j1) (by simpa using j2)
        simpa using z
      · have z := PySem.W.rcLt_alikeAll X Y A.in1 s vs.toList vs'.toList _ _ h4 k4 hal (by show A.units + 1 + _ < _; omega) j (by simpa using j1) (by simpa using j2) hj
        simpa using z
      · exact wpAny_truthy_bool hq
theorem ltK_eq {k : SK} {d0 x y : D} (hx : okK k x = true) (hy : okK k y = true) : ltK (okK k) d0 x y = PySem.W.dataLt (pd x) (pd y) := by
  unfold ltK
  rw [nrm_id hx, nrm_id hy]
  exact (lt_pd x y (okK_pur k x hx) (okK_pur k y hy) (okK_alike k x y hx hy)).2
/-- items of a plain type -/
theorem srt_one {k : SK} {vs : List Value} {d0 : D} {tr : Value → D} (T : Value) (hT : ∀ x, okK k x = true → PySem.W.dataType (pd x) = T ∧ pd x ≠ .none) (hTt : (T != Value.type "tuple") = true) (hTT : (T == T) = true) (h2 : 2 ≤ vs.length) (hp : ∀ v ∈ vs, Rk k s.heap v (tr v)) (hu : A.units + kdep k < cLine) :
    (∀ (Q : PyProof.Rows.SortKind → Shared → Prop) (E : Value → Shared → Prop), Q PyProof.Rows.oneType' s → wpAny (model prog w) A (PyProof.Rows.keyKind' vs.toArray) Q E s) ∧ SrtO.Cmp prog w A s PyProof.Rows.oneType' (fun p => p.1 ∈ vs) (SrtO.lt2 fun u v => ltK (okK k) d0 (tr u) (tr v)) := by
  refine ⟨fun Q E hq => PySem.W.kas_kind (T := T) h2 (fun v hv => ?_) hTt hTT hq, fun p q hm hm' => ?_⟩
  · obtain ⟨⟨as, r⟩, o⟩ := hp v hv
    exact (hT _ o).1 ▸ PySem.W.looks_reads r
  · obtain ⟨⟨as, r⟩, o⟩ := hp _ hm
    obtain ⟨⟨as', r'⟩, o'⟩ := hp _ hm'
    show wpAny (model prog w) A (PyProof.Rows.keyLt' PyProof.Rows.oneType' p.1 q.1) (fun r s' => s' = s ∧ r = ltK (okK k) d0 (tr p.1) (tr q.1)) (fun _ _ => False) s
    rw [PyProof.Rows.keyLt'_oneType, ltK_eq o o']
    have d1 := kdep_le k _ o
    exact PySem.W.oneLt_alike (fun _ xs e => PySem.W.dataType_tuple (by rw [(hT _ o).1]; exact hTt) xs e) r r' (okK_alike k _ _ o o') (hT _ o).2 (by omega) ⟨rfl, rfl⟩
theorem firsts_ex {k f : SK} {T : Value} {h : Heap} {tr : Value → D} (hT : ∀ x, okK f x = true → PySem.W.dataType (pd x) = T) : ∀ {vs : List Value}, (∀ v ∈ vs, Rk k h v (tr v) ∧ ∃ x r, tr v = .tup (x :: r) ∧ okK f x = true) → ∃ fs : List Value, PySem.W.KatTups h vs fs ∧ fs.length = vs.length ∧ ∀ y ∈ fs, ∀ M : Model, PySem.W.Looks M h (typeOf y) T
  | [], _ => ⟨[], PySem.W.KatTups.nil, rfl, fun _ hm => by simp at hm⟩
  | v :: vs, hp => by
    obtain ⟨fs, h1, h2, h3⟩ := firsts_ex (f := f) hT (vs := vs) fun v' hm => hp v' (List.mem_cons_of_mem _ hm)
    obtain ⟨⟨⟨as, r⟩, o⟩, x, rr, e, of⟩ := hp v List.mem_cons_self
    rw [e] at r
    simp only [pd, pdL] at r
    cases r with
    | @tuple a ob ws n _ as₁ g1 g2 g3 g4 =>
      cases ws with
      | mk l =>
        cases g4 with
        | @cons y ys _ _ _ _ q1 q2 =>
          refine ⟨y :: fs, PySem.W.KatTups.cons g1 g2 g3 rfl h1, by rw [List.length_cons, List.length_cons, h2], fun z hz M => ?_⟩
          rcases List.mem_cons.mp hz with rfl | hz
          · exact hT _ of ▸ PySem.W.looks_reads q1
          · exact h3 z hz M
/-- tuples, none of them empty -/
theorem srt_tups {k : SK} {vs : List Value} {d0 : D} {tr : Value → D} (f : SK) (T : Value) (hT : ∀ x, okK f x = true → PySem.W.dataType (pd x) = T) (hTt : (T != Value.type "tuple") = true) (hTT : (T == T) = true) (h2 : 2 ≤ vs.length) (hp : ∀ v ∈ vs, Rk k s.heap v (tr v) ∧ ∃ x r, tr v = .tup (x :: r) ∧ okK f x = true) (hu : A.units + kdep k < cLine) :
    (∀ (Q : PyProof.Rows.SortKind → Shared → Prop) (E : Value → Shared → Prop), Q (PyProof.Rows.tuples' true) s → wpAny (model prog w) A (PyProof.Rows.keyKind' vs.toArray) Q E s) ∧ SrtO.Cmp prog w A s (PyProof.Rows.tuples' true) (fun p => p.1 ∈ vs) (SrtO.lt2 fun u v => ltK (okK k) d0 (tr u) (tr v)) := by
  refine ⟨fun Q E hq => ?_, fun p q hm hm' => ?_⟩
  · obtain ⟨fs, h1, h2', h3⟩ := firsts_ex (f := f) hT hp
    refine PySem.W.kat_kind (T := T) h1 (by omega) (fun y hy => h3 y hy _) hTT ?_
    rw [hTt]
    exact hq
  · obtain ⟨⟨⟨as, r⟩, o⟩, x, rr, e, of⟩ := hp _ hm
    obtain ⟨⟨⟨as', r'⟩, o'⟩, x', rr', e', of'⟩ := hp _ hm'
    show wpAny (model prog w) A (PyProof.Rows.keyLt' (PyProof.Rows.tuples' true) p.1 q.1) (fun r s' => s' = s ∧ r = ltK (okK k) d0 (tr p.1) (tr q.1)) (fun _ _ => False) s
    rw [ltK_eq o o']
    have al := okK_alike k _ _ o o'
    have d1 := kdep_le k _ o
    rw [e] at r d1
    rw [e'] at r'
    rw [e, e'] at al
    rw [e, e']
    generalize p.1 = P1 at *
    generalize q.1 = Q1 at *
    simp only [pd] at r r' al d1 ⊢
    have al : PySem.W.alikeAll (pdL (x :: rr)) (pdL (x' :: rr')) = true := by simpa [PySem.W.alike] using al
    have d1 : PyData.depthAll (pdL (x :: rr)) + 1 ≤ kdep k := by simpa [PyData.depth] using d1
    rw [PySem.W.dataLt_tuple]
    cases r with
    | @tuple a ob ws n _ as₁ g1 g2 g3 g4 =>
      cases r' with
      | @tuple a' ob' ws' n' _ as₁' g1' g2' g3' g4' =>
        have n1 : ws.size = (pdL (x :: rr)).length := by simpa using SeqAt.ReadsAll.length _ _ _ g4
        have n2 : ws'.size = (pdL (x' :: rr')).length := by simpa using SeqAt.ReadsAll.length _ _ _ g4'
        refine PySem.W.kat_lt g1 g3 g1' g3' (PySem.W.katLex_alike (pdL (x :: rr)) (pdL (x' :: rr')) 0 _ _ _ _ g4 g4' al (by omega) (fun _ _ y yr t ey => ?_) (by rw [n1, n2]) ⟨rfl, rfl⟩)
        have ey : pd x :: pdL rr = y :: yr := ey
        cases ey
        exact PySem.W.dataType_tuple (by rw [hT _ of]; exact hTt) t
/-- the firsts of tuples -/
theorem firsts_any {k : SK} {tr : Value → D} : ∀ (vs : List Value) {Q : List (Option Value) → Shared → Prop}, (∀ v ∈ vs, Rk (.all k) s.heap v (tr v)) → (∀ os : List (Option Value), (∀ v r, vs = v :: r → tr v = .tup [] → ∃ o, os = none :: o) → Q os s) → wpAny (model prog w) A (vs.mapM PyProof.Rows.firstOfTuple') Q E s
  | [], Q, _, h => by rw [List.mapM_nil]; exact wpAny_pure (h [] fun _ _ e => nomatch e)
  | v :: vs, Q, hp, h => by
    obtain ⟨⟨as, r⟩, o⟩ := hp v List.mem_cons_self
    generalize ed : tr v = d at r o
    cases d <;> first
      | (cases o; done)
      | skip
    rename_i xs
    simp only [pd] at r
    cases r with
    | @tuple a ob ws n _ as₁ g1 g2 g3 g4 =>
      rw [List.mapM_cons]
      refine wpAny_bind ?_
      rw [PySem.W.kas_first_eq]
      refine wpAny_bind (PySem.W.Looks.here (show PySem.W.Looks (model prog w) s.heap (typeOf (.ref a)) ob.cls from (PySem.W.Looks.ld g1).andThen .now) ?_)
      rw [g2, if_neg (by first | decide | simp)]
      refine wpAny_bind (PyProof.Rows.listItems_at g1 g3 (wpAny_pure ?_))
      refine wpAny_bind (firsts_any vs (Q := fun bs s' => wpAny (model prog w) A (pure (ws[0]? :: bs)) Q E s') (fun u hu => hp u (List.mem_cons_of_mem _ hu)) fun os _ => wpAny_pure (h _ fun u r e z => ?_))
      cases e
      rw [ed] at z
      cases z
      have n1 : ws.size = 0 := by simpa [pdL] using SeqAt.ReadsAll.length _ _ _ g4
      exact ⟨os, by rw [Array.getElem?_eq_none (by omega)]⟩
/-- tuples, the first one empty -/
theorem srt_emp {k : SK} {vs : List Value} {d0 : D} {tr : Value → D} (h2 : 2 ≤ vs.length) (hp : ∀ v ∈ vs, Rk (.all k) s.heap v (tr v)) (h0 : ∀ v r, vs = v :: r → tr v = .tup []) (hu : A.units + kdep (.all k) + 1 < cLine) :
    (∀ (Q : PyProof.Rows.SortKind → Shared → Prop) (E : Value → Shared → Prop), Q PyProof.Rows.oneType' s → wpAny (model prog w) A (PyProof.Rows.keyKind' vs.toArray) Q E s) ∧ SrtO.Cmp prog w A s PyProof.Rows.oneType' (fun p => p.1 ∈ vs) (SrtO.lt2 fun u v => ltK (okK (.all k)) d0 (tr u) (tr v)) := by
  refine ⟨fun Q E hq => ?_, fun p q hm hm' => ?_⟩
  · rw [PyProof.Rows.kat_kind_eq, List.mapM_toArray, map_eq_pure_bind]
    refine wpAny_bind (wpAny_bind (firsts_any vs hp fun os ho => wpAny_pure ?_))
    obtain ⟨v, r, rfl⟩ : ∃ v r, vs = v :: r := by
      match vs, h2 with
      | v :: r, _ => exact ⟨v, r, rfl⟩
    obtain ⟨o, rfl⟩ := ho v r rfl (h0 v r rfl)
    rw [if_neg (by simp), if_neg (by simp)]
    rw [PyProof.Rows.oneTypeOnly'_eq, List.mapM_toArray, map_eq_pure_bind]
    have hT : ∀ u ∈ v :: r, PySem.W.Looks (model prog w) s.heap (typeOf u) (.type "tuple") := fun u hu => by
      obtain ⟨⟨as, rd⟩, ok⟩ := hp u hu
      generalize tr u = d at rd ok
      cases d <;> first
        | (cases ok; done)
        | exact PySem.W.looks_reads rd
    refine wpAny_bind (wpAny_bind (wpAny_bind (PySem.W.kas_mapM (r := Value.type "tuple") _ (fun u hu Q' hq => (hT u hu).here hq) (wpAny_pure ?_))))
    have tt : (Value.type "tuple" == Value.type "tuple") = true := by decide +kernel
    have hall : ((List.map (fun _ => Value.type "tuple") (v :: r)).toArray.all fun x => x == Value.type "tuple") = true := by
      simp only [List.all_toArray, List.all_map, List.all_eq_true]
      intro _ _
      exact tt
    have h0 : (List.map (fun _ => Value.type "tuple") (v :: r)).toArray[0]? = some (Value.type "tuple") := by simp
    rw [h0]
    simp only [hall, if_true]
    exact wpAny_pure (wpAny_pure hq)
  · obtain ⟨⟨as, r⟩, o⟩ := hp _ hm
    obtain ⟨⟨as', r'⟩, o'⟩ := hp _ hm'
    show wpAny (model prog w) A (PyProof.Rows.keyLt' PyProof.Rows.oneType' p.1 q.1) (fun r s' => s' = s ∧ r = ltK (okK (.all k)) d0 (tr p.1) (tr q.1)) (fun _ _ => False) s
    rw [PyProof.Rows.keyLt'_oneType, ltK_eq o o']
    have al := okK_alike (.all k) _ _ o o'
    have d1 := kdep_le (.all k) _ o
    generalize tr p.1 = d at *
    generalize tr q.1 = d' at *
    cases d <;> first
      | (cases o; done)
      | skip
    cases d' <;> first
      | (cases o'; done)
      | skip
    rename_i xs ys
    simp only [pd] at r r' al d1 ⊢
    have al : PySem.W.alikeAll (pdL xs) (pdL ys) = true := by simpa [PySem.W.alike] using al
    have d1 : PyData.depthAll (pdL xs) + 1 ≤ kdep (.all k) := by simpa [PyData.depth] using d1
    exact oneLt_tup r r' al (by omega) ⟨rfl, rfl⟩
theorem kindOk_tup {k : SK} {vs : List Value} {tr : Value → D} (h : kindOk k (vs.map tr) = true) : (∀ v ∈ vs, okK k (tr v) = true) ∧ ((∀ v ∈ vs, tupNe (tr v) = true) ∨ ∀ v r, vs = v :: r → tupNe (tr v) = false) := by
  unfold kindOk at h
  rw [Bool.and_eq_true, List.all_eq_true, Bool.or_eq_true, List.all_eq_true] at h
  refine ⟨fun v hv => h.1 _ (List.mem_map.mpr ⟨v, hv, rfl⟩), h.2.imp (fun q v hv => q _ (List.mem_map.mpr ⟨v, hv, rfl⟩)) fun q v r e => ?_⟩
  subst e
  simpa using q
theorem sort_kind {k : SK} {vs : List Value} {d0 : D} {tr : Value → D} (hk : k = .s ∨ k = .all .s ∨ k = .two .i (.all .s) ∨ k = .two .s (.all .s)) (h : kindOk k (vs.map tr) = true) (h2 : 2 ≤ vs.length) (hp : ∀ v ∈ vs, Rk k s.heap v (tr v)) (hu : A.units + 4 < cLine) :
    ∃ κ, (∀ (Q : PyProof.Rows.SortKind → Shared → Prop) (E : Value → Shared → Prop), Q κ s → wpAny (model prog w) A (PyProof.Rows.keyKind' vs.toArray) Q E s) ∧ SrtO.Cmp prog w A s κ (fun p => p.1 ∈ vs) (SrtO.lt2 fun u v => ltK (okK k) d0 (tr u) (tr v)) := by
  have sT : ∀ x, okK .s x = true → PySem.W.dataType (pd x) = Value.type "str" ∧ pd x ≠ .none := fun x hx => by
    cases x <;> first
      | (cases hx; done)
      | exact ⟨rfl, fun z => by simp [pd] at z⟩
  have iT : ∀ x, okK .i x = true → PySem.W.dataType (pd x) = Value.type "int" ∧ pd x ≠ .none := fun x hx => by
    cases x <;> first
      | (cases hx; done)
      | exact ⟨rfl, fun z => by simp [pd] at z⟩
  have st : (Value.type "str" != Value.type "tuple") = true := by decide +kernel
  have it : (Value.type "int" != Value.type "tuple") = true := by decide +kernel
  have ss : (Value.type "str" == Value.type "str") = true := by decide +kernel
  have ii : (Value.type "int" == Value.type "int") = true := by decide +kernel
  obtain ⟨ok, ne⟩ := kindOk_tup h
  rcases hk with rfl | rfl | rfl | rfl
  · exact ⟨_, srt_one (.type "str") sT st ss h2 hp (by show A.units + 0 < _; omega)⟩
  · rcases ne with ne | ne
    · refine ⟨_, srt_tups .s (.type "str") (fun x hx => (sT x hx).1) st ss h2 (fun v hv => ⟨hp v hv, ?_⟩) (by show A.units + 1 < _; omega)⟩
      have o := ok v hv
      have n := ne v hv
      generalize tr v = d at o n
      match d, o, n with
      | .tup (x :: r), o, _ =>
        have o : (x :: r).all (okK .s) = true := o
        rw [List.all_cons, Bool.and_eq_true] at o
        exact ⟨x, r, rfl, o.1⟩
    · refine ⟨_, srt_emp h2 hp (fun v r e => ?_) (by show A.units + 1 + 1 < _; omega)⟩
      have n := ne v r e
      generalize tr v = d at n
      match d, n with
      | .tup [], _ => rfl
  · refine ⟨_, srt_tups .i (.type "int") (fun x hx => (iT x hx).1) it ii h2 (fun v hv => ⟨hp v hv, ?_⟩) (by show A.units + 2 < _; omega)⟩
    have o := ok v hv
    generalize tr v = d at o
    match d, o with
    | .tup [x, y], o =>
      have o : (okK .i x && okK (.all .s) y) = true := o
      rw [Bool.and_eq_true] at o
      exact ⟨x, [y], rfl, o.1⟩
  · refine ⟨_, srt_tups .s (.type "str") (fun x hx => (sT x hx).1) st ss h2 (fun v hv => ⟨hp v hv, ?_⟩) (by show A.units + 2 < _; omega)⟩
    have o := ok v hv
    generalize tr v = d at o
    match d, o with
    | .tup [x, y], o =>
      have o : (okK .s x && okK (.all .s) y) = true := o
      rw [Bool.and_eq_true] at o
      exact ⟨x, [y], rfl, o.1⟩
end
end Mn
end
section
set_option Elab.async false
set_option linter.all false
set_option maxRecDepth 100000
set_option maxHeartbeats 4000000
set_option autoImplicit false
/-! D26: sorted(..) of what can be collected. -/
namespace Mn
open PySem PySem.Spec L2
open PyProof.Rows (seqObj sortedHeap sortedHeap_old sortedHeap_at)
section
variable {prog : Program} {w : World} {A : Around} {E : Value → Shared → Prop} {s : Shared}
/-- sorted, after collecting -/
theorem sorted_coll {x : Value} {C : List Value → Shared → Prop} {lt : Shared → Value → Value → Bool} {Q : Value → Shared → Prop} (hc : wpAny (model prog w) A.in1 (collect x) C E s) (hO : ∀ vs s₁, C vs s₁ → SrtO.Swo (lt s₁) ∧ vs.length ≤ sizeLine)
    (hS : ∀ vs s₁, C vs s₁ → 2 ≤ vs.length → ∀ (h₂ : Heap) (a : Addr), h₂.get? a = some (seqObj "list" vs.toArray 0) → (∀ b o, s₁.heap.get? b = some o → b ≠ a ∧ h₂.get? b = some o) → SrtO.SortableO prog w A.in1.in1 { s₁ with heap := h₂ } a vs (lt s₁))
    (h : ∀ vs s₁ (out : List Value) (h₂ : Heap) (e : Nat), C vs s₁ → (∀ b o, s₁.heap.get? b = some o → h₂.get? b = some o) → h₂.get? s₁.heap.objs.size = some (seqObj "list" out.toArray e) → SrtO.Srtd (lt s₁) out → SrtO.Stb (lt s₁) out vs → Q (.ref s₁.heap.objs.size) { s₁ with heap := h₂ }) :
    wpAny (model prog w) A (call (.builtin "sorted") [x]) Q E s := by
  refine Calls.call_function_entry PyProof.Rows.kind_sorted PyProof.Rows.plain_sorted PyProof.Rows.entry_sorted (PyProof.Rows.args_sorted1 _) ?_
  unfold Builtin.«sorted»
  refine wpAny_bind (m := checkCount "sorted" 1 1 _) (wpAny_pure ?_)
  refine wpAny_bind (wpAny_mono hc (fun vs s₁ c => ?_) fun _ _ z => z)
  obtain ⟨O, hz⟩ := hO vs s₁ c
  refine wpAny_bind (wpAny_newList ?_ hz)
  have hoL : (s₁.heap.push (seqObj "list" vs.toArray 0)).get? s₁.heap.objs.size = some (seqObj "list" vs.toArray 0) := Heap.get?_push_size _ rfl
  have keep : ∀ b o, s₁.heap.get? b = some o → b ≠ s₁.heap.objs.size ∧ (s₁.heap.push (seqObj "list" vs.toArray 0)).get? b = some o := fun b o q => ⟨Nat.ne_of_lt (Heap.lt_size q), Heap.get?_push_of_some _ q⟩
  refine wpAny_bind (wpAny_holding (wpAny_call_entry PyProof.Rows.slot_list_sort ⟨_, hoL, rfl⟩ PyProof.Rows.entry_list_sort (SrtO.list_sort_ord O hoL hz (fun h2 => hS vs s₁ c h2 _ _ hoL keep) fun out hs hb => ⟨_, rfl, ?_⟩) (PyProof.Rows.args_list_sort _)))
  obtain ⟨e, he⟩ := sortedHeap_at (out := out.toArray) hoL
  refine wpAny_pure ⟨_, rfl, h vs s₁ out _ e c (fun b o q => ?_) he hs hb⟩
  rw [sortedHeap_old (Nat.ne_of_lt (Heap.lt_size q)) (by rw [PyProof.Rows.size_push']; exact Nat.lt_succ_of_lt (Heap.lt_size q))]
  exact Heap.get?_push_of_some _ q
/-- a list or a tuple, collected -/
theorem collect_seq {l : Addr} {o : Obj} {vs : List Value} {n : Nat} {Q : List Value → Shared → Prop} (ho : s.heap.get? l = some o) (hc : o.cls = .type "list" ∨ o.cls = .type "tuple") (hd : o.data = .seq vs.toArray n) (hz : vs.length ≤ sizeLine)
    (h : ∀ h₁ : Heap, (∀ b o, s.heap.get? b = some o → h₁.get? b = some o) → s.heap.objs.size ≤ h₁.objs.size → Q vs { s with heap := h₁ }) : wpAny (model prog w) A (collect (.ref l)) Q E s := by
  unfold collect
  refine wpAny_bind (wpAny_runValue (codeAny_builtin PyProof.Rows.entry_proto_collect' ?_))
  show wpAny _ _ (do again (.builtin "list.__iadd__" ⟨[← newList [], .ref l], []⟩)) _ _ s
  refine wpAny_bind (wpAny_newList (wpAny_pure ⟨Code.quiet_builtin _ (by decide +kernel), codeAny_builtin PyProof.Rows.entry_list_iadd' ?_⟩))
  show wpAny _ _ (Builtin.List.listExtendWith (.ref s.heap.objs.size) (.ref l) (.ref s.heap.objs.size)) _ _ { s with heap := s.heap.push (seqObj "list" #[] 0) }
  unfold Builtin.List.listExtendWith
  have ho' : (s.heap.push (seqObj "list" #[] 0)).get? l = some o := Heap.get?_push_of_some _ ho
  obtain ⟨T, hT, ht⟩ : ∃ T : String, o.cls = .type T ∧ (Value.type T == Value.type "list" || Value.type T == Value.type "tuple") = true := by
    rcases hc with e | e
    · exact ⟨_, e, by decide +kernel⟩
    · exact ⟨_, e, by decide +kernel⟩
  refine wpAny_bind (wpAny_typeOf (T := T) ⟨o, ho', hT⟩ ?_)
  rw [if_pos (by rw [Bool.or_assoc, ht]; simp)]
  refine wpAny_bind (PyProof.Rows.listItems_at ho' hd ?_)
  refine wpAny_bind (PyProof.Rows.listItems_at (xs := #[]) (n := 0) (Heap.get?_push_size _ rfl) rfl ?_)
  rw [if_neg (by simp)]
  refine wpAny_bind (PyProof.Rows.listUpdate_at (xs := #[]) (n := 0) (Heap.get?_push_size _ rfl) rfl ?_ (Nat.zero_le _) ?_)
  rotate_left
  · show (#[] ++ vs.toArray).size ≤ sizeLine + 1
    simp only [Array.size_append, List.size_toArray, List.length_nil]
    omega
  refine wpAny_pure ?_
  have hg := PyProof.Rows.get?_update_seq (h := s.heap.push (seqObj "list" #[] 0)) (Heap.get?_push_size _ rfl) (fun z : Array Value => z ++ vs.toArray)
  refine wpAny_bind (wpAny_load hg ?_)
  show wpAny _ _ (pure ((#[] : Array Value) ++ vs.toArray).toList) Q E _
  have ev : ((#[] : Array Value) ++ vs.toArray).toList = vs := by simp
  rw [ev]
  refine wpAny_pure (h _ (fun b ob q => ?_) (by rw [Heap.size_update, PyProof.Rows.size_push']; exact Nat.le_succ _))
  rw [Heap.get?_update_ne _ _ _ _ (Nat.ne_of_lt (Heap.lt_size q))]
  exact Heap.get?_push_of_some _ q
end
/-! ### sorted(..) -/
def vv (u : Value) : V := (absV u).getD .non
theorem vv_eq {v : V} {u : Value} (r : RelV v u) : vv u = v := by unfold vv; rw [r.abs]; rfl
theorem vals_vv : ∀ {us : List Value}, (∀ u ∈ us, RelV (vv u) u) → Vals (us.map vv) us
  | [], _ => .nil
  | u :: us, h => .cons (h u List.mem_cons_self) (vals_vv fun x hx => h x (List.mem_cons_of_mem _ hx))
theorem dvs_map {K : Frag} {H : Hp} {B : Addr → Prop} {tr : Value → D} : ∀ {us : List Value}, (∀ u ∈ us, Dv K H B (vv u) (tr u)) → Dvs K H B (us.map vv) (us.map tr)
  | [], _ => .nil
  | u :: us, h => .cons (h u List.mem_cons_self) (dvs_map fun x hx => h x (List.mem_cons_of_mem _ hx))
theorem three {K : Frag} {H : Hp} {B : Addr → Prop} {tr : Value → D} {R : Value → D → Prop} : ∀ {vs : List V} {us : List Value} {ds : List D}, Vals vs us → Dvs K H B vs ds → (∀ v u d, RelV v u → Dv K H B v d → d ∈ ds → R u d) → (∀ u d, R u d → tr u = d) →
    us.map tr = ds ∧ (∀ u ∈ us, R u (tr u)) ∧ (∀ u ∈ us, RelV (vv u) u) ∧ ∀ u ∈ us, Dv K H B (vv u) (tr u)
  | _, _, _, .nil, .nil, _, _ => ⟨rfl, (fun _ h => nomatch h), (fun _ h => nomatch h), (fun _ h => nomatch h)⟩
  | _, _, _, .cons r rs, .cons d ds, hR, ht => by
    obtain ⟨e, h1, h2, h3⟩ := three rs ds (fun v u d r q m => hR v u d r q (List.mem_cons_of_mem _ m)) ht
    have q := hR _ _ _ r d List.mem_cons_self
    have e1 := ht _ _ q
    refine ⟨by rw [List.map_cons, e, e1], fun u hu => ?_, fun u hu => ?_, fun u hu => ?_⟩
    · rcases List.mem_cons.mp hu with z | z
      · rw [z, e1]; exact q
      · exact h1 u z
    · rcases List.mem_cons.mp hu with z | z
      · rw [z, vv_eq r]; exact r
      · exact h2 u z
    · rcases List.mem_cons.mp hu with z | z
      · rw [z, vv_eq r, e1]; exact d
      · exact h3 u z
section
variable {X : Cx} {pins : List (Addr × Obj)} {σ : St} {H : Hp} {s : Shared} {B : Addr → Prop}
mutual
theorem reads_of (I : Inv X pins σ H s) : ∀ (d : D) (v : V) (u : Value), pur d = true → RelV v u → Dv X.K H B v d → ∃ as, Reads s.heap u (pd d) as
  | .int _, _, _, _, r, h => by
    cases h
    obtain ⟨t, rfl⟩ := r
    exact ⟨[], .int _ t⟩
  | .str _, _, _, _, r, h => by
    cases h
    obtain ⟨t, rfl⟩ := r
    exact ⟨[], .str _ t⟩
  | .tup ds, _, _, hp, r, h => by
    cases h with
    | tup h1 h2 h3 h4 =>
      cases r
      obtain ⟨its, rv, ⟨o, ho, hc, n, hd⟩, _⟩ := I.tuple h2.sq
      obtain ⟨as, q⟩ := readsL_of I ds _ its hp rv h4
      exact ⟨as, .tuple ho hc hd (by simpa using q)⟩
  | .non, _, _, hp, _, _ => nomatch hp
  | .bl _, _, _, hp, _, _ => nomatch hp
  | .lst _, _, _, hp, _, _ => nomatch hp
  | .dct _ _, _, _, hp, _, _ => nomatch hp
  | .scr _, _, _, hp, _, _ => nomatch hp
theorem readsL_of (I : Inv X pins σ H s) : ∀ (ds : List D) (vs : List V) (us : List Value), purL ds = true → Vals vs us → Dvs X.K H B vs ds → ∃ as, ReadsAll s.heap us (pdL ds) as
  | [], _, _, _, r, h => by
    cases h
    cases r
    exact ⟨[], .nil⟩
  | d :: ds, _, _, hp, r, h => by
    have hp : (pur d && purL ds) = true := hp
    rw [Bool.and_eq_true] at hp
    cases h with
    | cons h1 h2 =>
      cases r with
      | cons r1 r2 =>
        obtain ⟨a1, q1⟩ := reads_of I d _ _ hp.1 r1 h1
        obtain ⟨a2, q2⟩ := readsL_of I ds _ _ hp.2 r2 h2
        exact ⟨a1 ++ a2, .cons q1 q2⟩
end
theorem kind_okK {k : SK} {ds : List D} (h : kindOk k ds = true) : ∀ d ∈ ds, okK k d = true := by
  unfold kindOk at h
  rw [Bool.and_eq_true, List.all_eq_true] at h
  exact h.1
/-- a representative of a kind -/
def k0 : SK → D
  | .s => .str []
  | .i => .int 0
  | .all _ => .tup []
  | .two a b => .tup [k0 a, k0 b]
theorem k0_ok : ∀ k : SK, okK k (k0 k) = true
  | .s => rfl
  | .i => rfl
  | .all _ => rfl
  | .two a b => by show (okK a (k0 a) && okK b (k0 b)) = true; rw [k0_ok a, k0_ok b]; rfl
def KindS (k : SK) : Prop := k = .s ∨ k = .all .s ∨ k = .two .i (.all .s) ∨ k = .two .s (.all .s)
/-- THE RULE: what is collected is a list of trees of one kind -/
theorem sorted_perm {k : SK} {x : Value} {ds : List D} {Q : VK} {E : Value → Shared → Prop} (hu : X.A.units + 10 < cLine) (hk : KindS k) (kk : kindOk k ds = true) (hl : ds.length ≤ lim)
    (hc : wpAny (model X.prog X.w) X.A.in1 (collect x) (fun its s₁ => ∃ H₁ vs ds', Inv X pins σ H₁ s₁ ∧ Same H H₁ ∧ Vals vs its ∧ Dvs X.K H₁ B vs ds' ∧ ds'.Perm ds ∧ kindOk k ds' = true) E s) (fin : FinD .n X.K B H Q (.lst (sortS ds))) : wpAny (model X.prog X.w) X.A (call (.builtin "sorted") [x]) (EP X pins σ Q) E s := by
  have hP0 := kind_okK kk
  have t := tot_K k
  have h0 := k0_ok k
  have O := swo_K t h0
  refine sorted_coll (lt := fun s₁ u v => ltK (okK k) (k0 k) (treeOf (Rk k s₁.heap) u) (treeOf (Rk k s₁.heap) v)) hc (fun its s₁ c => ?_) (fun its s₁ c h2 h₂ a ha keep => ?_) fun its s₁ out h₂ e c keep he hs hb => ?_
  · obtain ⟨H₁, vs, ds', I, sm, rv, dv, pd, kk'⟩ := c
    exact ⟨⟨fun x y => O.asym _ _, fun x y z => O.tr _ _ _⟩, by rw [← rv.length, dv.length, pd.length_eq]; exact hl⟩
  · obtain ⟨H₁, vs, ds', I, sm, rv, dv, pd, kk'⟩ := c
    have hP := kind_okK kk'
    obtain ⟨e, h1, h2', h3⟩ := three (tr := treeOf (Rk k s₁.heap)) rv dv (fun v u d r q m => ⟨reads_of I d v u (okK_pur k d (hP d m)) r q, hP d m⟩) fun u d q => tree_eq (fun u d d' q1 q2 => q1.fn q2) q
    intro h' kp
    refine sort_kind (s := { s₁ with heap := h' }) (A := X.A.in1.in1) hk (by rw [e]; exact kk') h2 (fun v hv => (h1 v hv).keeps fun b o q hcl => ?_) (by show X.A.units + 1 + 1 + 4 < _; omega)
    obtain ⟨nb, q2⟩ := keep b o q
    exact kp b o nb q2
  · obtain ⟨H₁, vs, ds', I, sm, rv, dv, pd, kk'⟩ := c
    have hP := kind_okK kk'
    obtain ⟨e1, h1, h2, h3⟩ := three (tr := treeOf (Rk k s₁.heap)) rv dv (fun v u d r q m => ⟨reads_of I d v u (okK_pur k d (hP d m)) r q, hP d m⟩) fun u d q => tree_eq (fun u d d' q1 q2 => q1.fn q2) q
    have pm := hb.perm
    have s1 : SrtO.Srtd (ltK (okK k) (k0 k)) (out.map (treeOf (Rk k s₁.heap))) := SrtO.srtd_map hs
    have s2 : SrtO.Stb (ltK (okK k) (k0 k)) (out.map (treeOf (Rk k s₁.heap))) ds' := by rw [← e1]; exact SrtO.Stb.map O (treeOf (Rk k s₁.heap)) hb
    have s3 := sortS_srtd t h0 ds hP0
    have s4 : SrtO.Stb (ltK (okK k) (k0 k)) (sortS ds) ds' := perm_stb t h0 (fun x hx => hP0 x ((sortS_perm ds).mem_iff.mp hx)) ((sortS_perm ds).trans pd.symm)
    have s5 : SrtO.Stb (ltK (okK k) (k0 k)) (out.map (treeOf (Rk k s₁.heap))) (sortS ds) := ⟨s2.perm.trans s4.perm.symm, fun x => (s2.cls x).trans (s4.cls x).symm⟩
    have es : out.map (treeOf (Rk k s₁.heap)) = sortS ds := SrtO.stb_uniq O s1 s3 s5
    have dout : Dvs X.K H₁ B (out.map vv) (sortS ds) := by
      rw [← es]
      exact dvs_map fun u hu => h3 u (pm.mem_iff.mp hu)
    have hlen : (out.map vv).length ≤ sizeLine := by
      rw [dout.length, (sortS_perm ds).length_eq]; exact hl
    refine ⟨.ref s₁.heap.objs.size, upd H₁ s₁.heap.objs.size (.lst (out.map vv)), I.laid (t' := s₁.toks) keep (Nat.le_refl _) ⟨hlen, out, e, vals_vv fun u hu => h2 u (pm.mem_iff.mp hu), he⟩, rfl, ?_⟩
    exact fin _ H₁ _ sm (I.hok.fresh (Nat.le_refl _)) (by rw [(sortS_perm ds).length_eq]; exact hl) dout
theorem sorted_rule {k : SK} {x : Value} {ds : List D} {Q : VK} {E : Value → Shared → Prop} (hu : X.A.units + 10 < cLine) (hk : KindS k) (kk : kindOk k ds = true) (hl : ds.length ≤ lim)
    (hc : wpAny (model X.prog X.w) X.A.in1 (collect x) (fun its s₁ => ∃ H₁ vs, Inv X pins σ H₁ s₁ ∧ Same H H₁ ∧ Vals vs its ∧ Dvs X.K H₁ B vs ds) E s) (fin : FinD .n X.K B H Q (.lst (sortS ds))) : wpAny (model X.prog X.w) X.A (call (.builtin "sorted") [x]) (EP X pins σ Q) E s :=
  sorted_perm hu hk kk hl (wpAny_mono hc (fun its s₁ ⟨H₁, vs, I, sm, rv, dv⟩ => ⟨H₁, vs, ds, I, sm, rv, dv, List.Perm.refl _, kk⟩) fun _ _ z => z) fin
theorem sortO_kind {z : List D} {r : List D} (h : sortO z = some r) : ∃ k, KindS k ∧ kindOk k z = true ∧ r = sortS z := by
  unfold sortO at h
  split at h
  · rename_i q
    simp only [Bool.or_eq_true] at q
    cases h
    rcases q with ((q | q) | q) | q
    · exact ⟨_, .inl rfl, q, rfl⟩
    · exact ⟨_, .inr (.inl rfl), q, rfl⟩
    · exact ⟨_, .inr (.inr (.inl rfl)), q, rfl⟩
    · exact ⟨_, .inr (.inr (.inr rfl)), q, rfl⟩
  · cases h
end
end Mn
end
section
set_option Elab.async false
set_option linter.all false
set_option maxRecDepth 100000
set_option maxHeartbeats 4000000
set_option autoImplicit false
/-! D28: views of a dict, sorted or listed. -/
namespace Mn
open PySem PySem.Spec L2
section
variable {X : Cx} {pins : List (Addr × Obj)} {σ : St} {H H' : Hp} {s : Shared} {B : Addr → Prop}
/-- many new objects at once -/
theorem Inv.many {h' : Heap} {tk : Nat} (I : Inv X pins σ H s) (hk : ∀ b o, s.heap.get? b = some o → h'.get? b = some o) (kp : ∀ b u, H b = some u → H' b = some u)
    (new : ∀ b u, H' b = some u → H b = some u ∨ (s.heap.objs.size ≤ b ∧ ObjOk X.prog X.w H' h' b u)) : Inv X pins σ H' { s with heap := h', toks := tk } := by
  refine I.call' (ch := []) rfl ⟨fun b o q _ _ _ => hk b o q, fun b o q _ _ _ => ⟨o.slots, hk b o q⟩, fun b o q n _ => ?_, fun b o q _ => ⟨o, hk b o q⟩, fun b xs q => kp b _ q, fun b o u q => kp b _ q, fun b ps q => ⟨#[], by rw [kp b _ q]; simp⟩⟩ (fun b u q => ?_) I.bare fun b z => by simp at z
  · cases e : H' b with
    | none => rfl
    | some u =>
      rcases new b u e with z | ⟨z, _⟩
      · rw [n] at z; cases z
      · exact absurd (Heap.lt_size q) (Nat.not_lt.mpr z)
  · rcases new b u q with z | ⟨_, z⟩
    · exact (I.hok b u z).stay (fun d v _ y => hk d v y) (fun d y => kp d _ y) fun d xs y => kp d _ y
    · exact z
theorem kv_vals {ks : List Tx} : ∀ {us : List V} {vs : List (Key × Value)}, KV (kvs ks us) vs → ks.length = us.length → Vals us (vs.map (·.2)) := by
  induction ks with
  | nil =>
    intro us vs h hl
    cases us with
    | nil => cases h; exact .nil
    | cons _ _ => simp at hl
  | cons k ks ih =>
    intro us vs h hl
    cases us with
    | nil => simp at hl
    | cons u us =>
      cases h with
      | cons h1 h2 => exact .cons h1.2 (ih h2 (by simpa using hl))
theorem kv_keys {ks : List Tx} : ∀ {us : List V} {vs : List (Key × Value)}, KV (kvs ks us) vs → ks.length = us.length → vs.map (·.1) = ks.map fun k => (Sum.inr (tx k) : Key) := by
  induction ks with
  | nil =>
    intro us vs h hl
    cases us with
    | nil => cases h; rfl
    | cons _ _ => simp at hl
  | cons k ks ih =>
    intro us vs h hl
    cases us with
    | nil => simp at hl
    | cons u us =>
      cases h with
      | cons h1 h2 =>
        rw [List.map_cons, List.map_cons, ih h2 (by simpa using hl), ← h1.1]
theorem items_eq {P : Nat → Value → Prop} {acc : Array Value} {n : Nat} {vs : List Value} (h : ItemsOf P acc n) (hl : vs.length = n) (hP : ∀ j v, P j v → vs[j]? = some v) : acc.toList = vs := by
  apply List.ext_getElem?
  intro j
  rw [Array.getElem?_toList]
  by_cases hj : j < acc.size
  · rw [Array.getElem?_eq_getElem hj]
    exact (hP j _ (h.2 j _ (Array.getElem?_eq_getElem hj))).symm
  · rw [Array.getElem?_eq_none (by omega), List.getElem?_eq_none (by have := h.1; omega)]
end
/-- the dict, read -/
structure Dd (X : Cx) (s : Shared) (a : Addr) (ks : List Tx) (us : List V) (vs : List (Key × Value)) (ep : Nat) : Prop where
  lo : (a == sysModules) = false
  kv : KV (kvs ks us) vs
  dd : s.heap.DictOf (mixKind X.prog X.w) a vs
  at' : s.heap.DictAt (mixKind X.prog X.w) a vs ep
  len : vs.length ≤ sizeLine
section
variable {X : Cx} {pins : List (Addr × Obj)} {σ : St} {H : Hp} {s : Shared} {B : Addr → Prop}
theorem dd_of {v : V} {ks : List Tx} {ds : List D} (I : Inv X pins σ H s) (h : Bor X.K H B v (.dct ks ds)) : ∃ a us vs ep, v = .ref a ∧ Dd X s a ks us vs ep ∧ ks.length = us.length ∧ ks.Nodup ∧ (∀ k ∈ ks, okTx k) ∧ Dvs X.K H B us ds ∧ ks.length ≤ lim := by
  obtain ⟨a, us, rfl, h1, h2, h3, h4, h5, h6⟩ := h
  obtain ⟨z, hd, vs, rel, dd⟩ := dk_rd I.hok h1
  obtain ⟨ep, hat⟩ := dd.dictAt
  exact ⟨a, us, vs, ep, rfl, ⟨hd, rel, dd, hat, by rw [← rel.length]; exact z⟩, h3, h4, h5, h6, h2⟩
/-- the values, collected -/
theorem coll_vals {a r : Addr} {ks : List Tx} {us : List V} {vs : List (Key × Value)} {ep : Nat} {ds : List D} {E : Value → Shared → Prop} {A : Around} (hh : A.handled = none) (I : Inv X pins σ H s) (d : Dd X s a ks us vs ep) (hl : ks.length = us.length) (dv : Dvs X.K H B us ds) (hv : s.heap.IsValuesView r a) :
    wpAny (model X.prog X.w) A (collect (.ref r)) (fun its s₁ => ∃ H₁ ws, Inv X pins σ H₁ s₁ ∧ Same H H₁ ∧ Vals ws its ∧ Dvs X.K H₁ B ws ds) E s := by
  refine PySem.W.kdu_collect (PySem.W.kdl_values (knd := mixKind X.prog X.w) (kvs := vs) (ep := ep) (r := r) (d := a)) hh ⟨hv, d.at'⟩ d.len fun h' tk acc hk hi => ?_
  have e : acc.toList = vs.map (·.2) := items_eq hi (by simp) fun j v ⟨k, q⟩ => by rw [List.getElem?_map, q]; rfl
  exact ⟨H, us, I.kept hk, Same.refl _, by rw [e]; exact kv_vals d.kv hl, dv⟩
/-- the keys -/
theorem coll_keys {a : Addr} {ks : List Tx} {us : List V} {vs : List (Key × Value)} {ep : Nat} {E : Value → Shared → Prop} {A : Around} (hh : A.handled = none) (I : Inv X pins σ H s) (d : Dd X s a ks us vs ep) (hl : ks.length = us.length) (ok : ∀ k ∈ ks, okTx k) :
    wpAny (model X.prog X.w) A (collect (.ref a)) (fun its s₁ => ∃ H₁ ws, Inv X pins σ H₁ s₁ ∧ Same H H₁ ∧ Vals ws its ∧ Dvs X.K H₁ B ws (ks.map .str)) E s := by
  refine PySem.W.kdu_collect (PySem.W.kdl_dict (knd := mixKind X.prog X.w) (kvs := vs) (ep := ep) (d := a) d.lo) hh d.at' d.len fun h' tk acc hk hi => ?_
  have ek := kv_keys d.kv hl
  have hlen : vs.length = ks.length := by have := congrArg List.length ek; simpa using this
  refine ⟨H, ks.map fun k => V.str (tx k), I.kept hk, Same.refl _, ?_, ?_⟩
  · have key : ∀ (l : List Value) (q : List Tx), l.length = q.length → (∀ (j : Nat) (v : Value), l[j]? = some v → ∃ k : Tx, q[j]? = some k ∧ RelV (.str (tx k)) v) → Vals (q.map fun k => V.str (tx k)) l := fun l => by
      induction l with
      | nil =>
        intro q hq _
        cases q with
        | nil => exact .nil
        | cons _ _ => simp at hq
      | cons x l ih =>
        intro q hq h
        cases q with
        | nil => simp at hq
        | cons k q =>
          obtain ⟨k', e1, e2⟩ := h 0 x rfl
          have e1 : k = k' := by simpa using e1
          subst e1
          exact .cons e2 (ih q (by simpa using hq) fun j v e => by
            obtain ⟨k', e1, e2⟩ := h (j + 1) v (by simpa using e)
            exact ⟨k', by simpa using e1, e2⟩)
    refine key acc.toList ks (by rw [Array.length_toList, hi.1, hlen]) fun j v e => ?_
    rw [Array.getElem?_toList] at e
    obtain ⟨k, x, e1, e2⟩ := hi.2 j v e
    have e3 := congrArg (·[j]?) ek
    simp only [List.getElem?_map, e1, Option.map_some] at e3
    cases q : ks[j]? with
    | none => rw [q] at e3; cases e3
    | some kt =>
      rw [q] at e3
      simp only [Option.map_some, Option.some.injEq] at e3
      subst e3
      refine ⟨kt, rfl, ?_⟩
      have := relV_key (show keyIs (Sum.inr (tx kt)) v = true from e2)
      exact this
  · have : ∀ q : List Tx, (∀ k ∈ q, okTx k) → Dvs X.K H B (q.map fun k => V.str (tx k)) (q.map .str) := fun q => by
      induction q with
      | nil => intro _; exact .nil
      | cons k q ih => intro h; exact .cons (.str (h k List.mem_cons_self)) (ih fun x hx => h x (List.mem_cons_of_mem _ hx))
    exact this ks ok
theorem kindOk_strs (ks : List Tx) : kindOk .s (ks.map .str) = true := by
  unfold kindOk
  have h1 : (ks.map D.str).all (okK .s) = true := by simp [okK]
  have h2 : (ks.map D.str).all tupNe = true := by simp [tupNe]
  rw [h1, h2]
  rfl
theorem cr_sortedD (hc : X.calm = true) (hu : X.A.units + 10 < cLine) : CallR X (.builtin "sorted") (rB .n X.K (bltO .sorted)) := by
  rintro pins s σ H xs us Q I rv ⟨B, ds, d, t, bs, e, fi⟩
  match ds, e with
  | [.lst z], e =>
    obtain ⟨v, rfl, bv⟩ := bors_one bs
    obtain ⟨a, vs, rfl, h1, l1, d1⟩ := bv
    have e : (sortO z).map .lst = some d := e
    cases q : sortO z with
    | none => rw [q] at e; cases e
    | some r =>
      rw [q] at e
      cases e
      obtain ⟨k, hk, kk, rfl⟩ := sortO_kind q
      cases rv with
      | cons r rr =>
        cases rr
        cases r
        obtain ⟨its, rv, p, hz⟩ := I.list (.inl (.inl h1))
        obtain ⟨o, ho, hcl, n, hd⟩ := p.isList
        refine sorted_rule (H := H) hu hk kk l1 (collect_seq ho (.inl hcl) hd (by rw [← rv.length]; exact hz) fun h₁ kp hs => ⟨H, vs, ?_, Same.refl _, rv, d1⟩) fi
        exact I.kept kp
  | [.tup z], e =>
    obtain ⟨v, rfl, bv⟩ := bors_one bs
    have e : (sortO z).map .lst = some d := e
    cases q : sortO z with
    | none => rw [q] at e; cases e
    | some r =>
      rw [q] at e
      cases e
      obtain ⟨k, hk, kk, rfl⟩ := sortO_kind q
      cases bv with
      | @tup a vs _ n1 h1 l1 d1 =>
        cases rv with
        | cons r rr =>
          cases rr
          cases r
          obtain ⟨its, rv, ⟨o, ho, hcl, n, hd⟩, hz⟩ := I.tuple h1.sq
          refine sorted_rule (H := H) hu hk kk l1 (collect_seq ho (.inr hcl) hd (by rw [← rv.length, d1.length]; exact l1) fun h₁ kp hs => ⟨H, vs, ?_, Same.refl _, rv, d1⟩) fi
          exact I.kept kp
  | [.dct ks ws], e =>
    obtain ⟨v, rfl, bv⟩ := bors_one bs
    have e : some (D.lst (sortS (ks.map .str))) = some d := e
    cases e
    cases rv with
    | cons r rr =>
      cases rr
      obtain ⟨a, us, vs, ep, rfl, dd, hl, hnd, ok, dv, hle⟩ := dd_of I bv
      cases r
      refine sorted_rule (H := H) (k := .s) hu (.inl rfl) (kindOk_strs ks) (by rw [List.length_map]; exact hle) (coll_keys (B := B) (I.ok.hd hc) I dd hl ok) fi
end
/-! ### items -/
/-- tuples laid at new places -/
def putF : Hp → List (Addr × List Value × List V) → Hp
  | H, [] => H
  | H, e :: r => putF (upd H e.1 (.frz (tupO e.2.1) (.tup e.2.2))) r
theorem putF_off {b : Addr} : ∀ (L : List (Addr × List Value × List V)) (H : Hp), b ∉ L.map (·.1) → putF H L b = H b
  | [], _, _ => rfl
  | e :: r, H, h => by
    have h1 : b ≠ e.1 := fun z => h (by rw [z]; exact List.mem_cons_self)
    have h2 : b ∉ r.map (·.1) := fun z => h (List.mem_cons_of_mem _ z)
    show putF (upd H e.1 _) r b = H b
    rw [putF_off r _ h2, upd_ne h1]
theorem putF_at : ∀ (L : List (Addr × List Value × List V)) (H : Hp), (L.map (·.1)).Nodup → ∀ e ∈ L, putF H L e.1 = some (.frz (tupO e.2.1) (.tup e.2.2))
  | [], _, _, _, h => nomatch h
  | e :: r, H, nd, x, hx => by
    have nd' := List.nodup_cons.mp (show (e.1 :: r.map (·.1)).Nodup from nd)
    show putF (upd H e.1 _) r x.1 = _
    rcases List.mem_cons.mp hx with z | hx
    · rw [z, putF_off r _ nd'.1, upd_same]
    · exact putF_at r _ nd'.2 x hx
theorem items_L {P : Program} {w : World} {h' : Heap} : ∀ (as : List Addr) (ks : List Tx) (us : List V) (vs : List (Key × Value)), as.length = vs.length → ks.length = us.length → KV (kvs ks us) vs →
    (∀ (j : Nat) (a : Addr), as[j]? = some a → ∃ (key : Value) (k : Key) (x : Value), vs[j]? = some (k, x) ∧ (mixKind P w).is k key = true ∧ h'.get? a = some { cls := .type "tuple", data := .seq #[key, x] }) →
    ∃ L : List (Addr × List Value × List V), L.map (·.1) = as ∧ (∀ e ∈ L, h'.get? e.1 = some (tupO e.2.1) ∧ Vals e.2.2 e.2.1 ∧ e.2.2.length = 2) ∧ L.map (·.2.2) = (ks.zip us).map fun p => [V.str (tx p.1), p.2]
  | [], ks, us, vs, hl, hk, kv, _ => by
    have e1 := Paired.length kv
    have : vs = [] := List.eq_nil_of_length_eq_zero (by simpa using hl.symm)
    subst this
    have : ks.zip us = [] := by
      apply List.eq_nil_of_length_eq_zero
      unfold kvs at e1
      rw [List.length_zip, List.length_map] at e1
      rw [List.length_zip]
      exact e1
    exact ⟨[], rfl, (fun _ h => nomatch h), by rw [this]; rfl⟩
  | a :: as, [], us, vs, hl, hk, kv, _ => by
    have e1 := Paired.length kv
    unfold kvs at e1
    simp at e1 hl
    omega
  | a :: as, _ :: _, [], vs, hl, hk, kv, _ => by simp at hk
  | a :: as, k :: ks, u :: us, vs, hl, hk, kv, hp => by
    cases kv with
    | @cons p q _ vs' h1 h2 =>
      obtain ⟨key, kk, x, e1, e2, e3⟩ := hp 0 a rfl
      have e1 : q = (kk, x) := by simpa using e1
      subst e1
      obtain ⟨L, l1, l2, l3⟩ := items_L as ks us vs' (by simpa using hl) (by simpa using hk) h2 fun j b e => hp (j + 1) b (by simpa using e)
      have hkey : (Sum.inr (tx k) : Key) = kk := h1.1
      refine ⟨(a, [key, x], [.str (tx k), u]) :: L, by rw [List.map_cons, l1], fun e he => ?_, by rw [List.map_cons, l3]; rfl⟩
      rcases List.mem_cons.mp he with z | he
      · subst z
        refine ⟨e3, .cons ?_ (.cons h1.2 .nil), rfl⟩
        have := relV_key (show keyIs kk key = true from e2)
        rw [← hkey] at this
        exact this
      · exact l2 e he
theorem items_dvs {K : Frag} {H1 : Hp} {B : Addr → Prop} : ∀ (L : List (Addr × List Value × List V)) (ks : List Tx) (us : List V) (ds : List D), (∀ e ∈ L, FT H1 e.1 e.2.2 ∧ ¬ B e.1) → L.map (·.2.2) = (ks.zip us).map (fun p => [V.str (tx p.1), p.2]) → ks.length = us.length → (∀ k ∈ ks, okTx k) → Dvs K H1 B us ds → Dvs K H1 B ((L.map (·.1)).map V.ref) (zipKV ks ds)
  | [], [], _, _, _, _, _, _, _ => .nil
  | [], _ :: _, [], _, _, _, hl, _, _ => by simp at hl
  | [], _ :: _, _ :: _, _, _, e, _, _, _ => by simp at e
  | _ :: _, [], _, _, _, e, _, _, _ => by simp at e
  | _ :: _, _ :: _, [], _, _, e, _, _, _ => by simp at e
  | x :: L, k :: ks, u :: us, _, h, e, hl, ok, .cons d1 d2 => by
    have e1 : x.2.2 = [V.str (tx k), u] ∧ L.map (·.2.2) = (ks.zip us).map fun p => [V.str (tx p.1), p.2] := by simpa using e
    obtain ⟨f1, f2⟩ := h x List.mem_cons_self
    rw [e1.1] at f1
    exact .cons (.tup f2 f1 (show 2 ≤ lim by decide) (.cons (.str (ok k List.mem_cons_self)) (.cons d1 .nil))) (items_dvs L ks us _ (fun y hy => h y (List.mem_cons_of_mem _ hy)) e1.2 (by simpa using hl) (fun y hy => ok y (List.mem_cons_of_mem _ hy)) d2)
section
variable {X : Cx} {pins : List (Addr × Obj)} {σ : St} {H : Hp} {s : Shared} {B : Addr → Prop}
theorem coll_items {a r : Addr} {ks : List Tx} {us : List V} {vs : List (Key × Value)} {ep : Nat} {ds : List D} {E : Value → Shared → Prop} {A : Around} (hh : A.handled = none) (I : Inv X pins σ H s) (tr : Tr H B) (d : Dd X s a ks us vs ep) (hl : ks.length = us.length) (ok : ∀ k ∈ ks, okTx k) (dv : Dvs X.K H B us ds) (hv : s.heap.IsItemsView r a) :
    wpAny (model X.prog X.w) A (collect (.ref r)) (fun its s₁ => ∃ H₁ ws, Inv X pins σ H₁ s₁ ∧ Same H H₁ ∧ Vals ws its ∧ Dvs X.K H₁ B ws (zipKV ks ds)) E s := by
  refine PySem.W.kdx_collect (knd := mixKind X.prog X.w) (kvs := vs) (ep := ep) hh hv d.at' d.len fun h' tk as hk hlen hG => ?_
  obtain ⟨L, l1, l2, l3⟩ := items_L (P := X.prog) (w := X.w) (h' := h') as ks us vs hlen hl d.kv hG.pairs
  have nd : (L.map (·.1)).Nodup := by rw [l1]; exact List.Pairwise.imp (fun {a b} (h : a < b) => Nat.ne_of_lt h) hG.rise
  have fr : ∀ b ∈ L.map (·.1), H b = none := fun b hb => I.hok.fresh (Nat.le_of_lt (hG.above b (by rw [← l1]; exact hb)))
  have sm : Same H (putF H L) := fun b o e => by
    rw [putF_off L H fun z => by rw [fr b z] at e; cases e]
    exact e
  have J : Inv X pins σ (putF H L) { s with heap := h', toks := tk } := by
    refine Inv.many I hk sm fun b u q => ?_
    by_cases hb : b ∈ L.map (·.1)
    · obtain ⟨e, he, eb⟩ := List.mem_map.mp hb
      have eb : e.1 = b := eb
      subst eb
      rw [putF_at L H nd e he] at q
      cases q
      obtain ⟨q1, q2, q3⟩ := l2 e he
      refine .inr ⟨Nat.le_of_lt (hG.above _ (by rw [← l1]; exact hb)), q1, by rw [q3]; decide, e.2.1, q2, ⟨_, q1, rfl, _, rfl⟩⟩
    · rw [putF_off L H hb] at q
      exact .inl q
  refine ⟨putF H L, as.map V.ref, J, sm, ?_, ?_⟩
  · have : ∀ l : List Addr, Vals (l.map V.ref) (l.map Value.ref) := fun l => by
      induction l with
      | nil => exact .nil
      | cons x l ih => exact .cons rfl ih
    exact this as
  · rw [← l1]
    refine items_dvs L ks us ds (fun e he => ⟨⟨e.2.1, putF_at L H nd e he⟩, fun z => ?_⟩) l3 hl ok (dv.ext sm)
    exact tr _ z (fr _ (List.mem_map.mpr ⟨e, he, rfl⟩))
end
/-! ### the expressions -/
section
variable {X : Cx} {cv : Nat → Value} {W : WX} {o : Expr} {f : Env → M D} {p q ap pos : Pos}
theorem boot_sorted : bootBuiltins "sorted" = some (.builtin "sorted") := by decide +kernel
theorem boot_list : bootBuiltins "list" = some (.type "list") := by decide +kernel
/-- what is behind o: a dict, looked at -/
theorem vw_read {k : Vw} {σ : St} {H : Hp} {Q : VK} (hk : k = .sortItems ∨ k = .sortVals ∨ k = .listVals) (h : rd .n X.K cv W (fun ρ => bd (f ρ) fun x => li (vwO k x)) σ H Q) :
    rd .b X.K cv W f σ H fun v H1 => ∃ B ks ds d, Tr H1 B ∧ Bor X.K H1 B v (.dct ks ds) ∧ vwO k (.dct ks ds) = some d ∧ FinD .n X.K B H1 Q d := by
  obtain ⟨B, H0, ρ, r, rep, e, fin⟩ := h
  rcases bd_inv e with ⟨x, hf, e⟩ | ⟨c, hf, rfl⟩
  · refine ⟨B, H0, ρ, _, rep, hf, fun v H1 s1 bv => ?_⟩
    obtain ⟨d, hd, rfl⟩ := li_inv e
    cases x with
    | dct ks ds => exact ⟨_, ks, ds, d, (rep.ext s1).bn, bv, hd, FinD.shift s1 fin⟩
    | _ => rcases hk with rfl | rfl | rfl <;> cases hd
  · exact ⟨B, H0, ρ, _, rep, hf, fin⟩
theorem pe_sortItems (hc : X.calm = true) (hu : X.A.units + 10 < cLine) (hg : Gl X "sorted") (hm : X.mg "sorted" = none) (ho : PE X o (rd .b X.K cv W f)) (hb : noSuper o = true) (hline : (ap.endLine == q.line) = true) :
    PE X (.Call (.Name "sorted" p) [.Call (.Attribute o "items" ap) [] [] q] [] pos) (rd .n X.K cv W fun ρ => bd (f ρ) fun x => li (vwO .sortItems x)) := by
  refine ⟨fun pins s σ H Q I h => ?_⟩
  refine wpAny_Call_Name_kw (ld_blt I hg hm boot_sorted ?_)
  refine PyProof.Rows.callWith_builtin1 (PyProof.Rows.args_cons ?_ rfl) rfl rfl
  refine wpAny_Call_method (T := "dict") (id := "dict.items") (base_of hb) rfl hline F.plainAttrs_dict F.slot_dict_items F.type_dict_items (thn (ho.run pins s σ H _ I (vw_read (.inl rfl) h)) fun u s1 ⟨x, H1, I1, rx, B, ks, ds, d, tr, bv, hd, fin⟩ => ?_)
  obtain ⟨a, us, vs, ep, rfl, dd, hl, hnd, ok, dv, hle⟩ := dd_of I1 bv
  obtain rfl : u = Value.ref a := rx
  refine ⟨dd.dd.typeIs, dd.dd.mapOf.noDict, ?_⟩
  show wpAny _ _ (callWith q (.builtin "dict.items") [.ref a] [] []) _ X.xe s1
  refine method_meetsIn F.slot_dict_items F.entry_dict_items rfl (PySem.evalArgs_none ⟨rfl, dd.dd.typeIs, F.args_dict_items_1 _, _, meets_dict_items (mixKind X.prog X.w) a dd.lo, ⟨vs, dd.dd⟩, ?_⟩)
  refine PyProof.Rows.args_nil ?_
  have I2 : Inv X pins σ H1 { s1 with heap := s1.heap.push { cls := .type "dict_items", data := .fields #[.ref a] } } := I1.kept (t' := s1.toks) fun b ob q => Heap.get?_push_of_some _ q
  have dd2 : Dd X { s1 with heap := s1.heap.push { cls := .type "dict_items", data := .fields #[.ref a] } } a ks us vs ep := ⟨dd.lo, dd.kv, dd.dd.push _, dd.at'.push _, dd.len⟩
  have hd : (sortO (zipKV ks ds)).map .lst = some d := hd
  cases qs : sortO (zipKV ks ds) with
  | none => rw [qs] at hd; cases hd
  | some r =>
    rw [qs] at hd
    cases hd
    obtain ⟨k, hk, kk, rfl⟩ := sortO_kind qs
    have zl : ∀ (ks : List Tx) (ds : List D), (zipKV ks ds).length ≤ ks.length := fun ks => by
      induction ks with
      | nil => intro ds; exact Nat.le_refl _
      | cons k ks ih =>
        intro ds
        cases ds with
        | nil => exact Nat.zero_le _
        | cons d ds => exact Nat.succ_le_succ (ih ds)
    exact sorted_rule (H := H1) hu hk kk (Nat.le_trans (zl ks ds) hle) (coll_items (B := B) (I1.ok.hd hc) I2 tr dd2 hl ok dv ⟨_, Heap.get?_push_size _ rfl, rfl, rfl⟩) fin
theorem pe_sortVals (hc : X.calm = true) (hu : X.A.units + 10 < cLine) (hg : Gl X "sorted") (hm : X.mg "sorted" = none) (ho : PE X o (rd .b X.K cv W f)) (hb : noSuper o = true) (hline : (ap.endLine == q.line) = true) :
    PE X (.Call (.Name "sorted" p) [.Call (.Attribute o "values" ap) [] [] q] [] pos) (rd .n X.K cv W fun ρ => bd (f ρ) fun x => li (vwO .sortVals x)) := by
  refine ⟨fun pins s σ H Q I h => ?_⟩
  refine wpAny_Call_Name_kw (ld_blt I hg hm boot_sorted ?_)
  refine PyProof.Rows.callWith_builtin1 (PyProof.Rows.args_cons ?_ rfl) rfl rfl
  refine wpAny_Call_method (T := "dict") (id := "dict.values") (base_of hb) rfl hline F.plainAttrs_dict F.slot_dict_values F.type_dict_values (thn (ho.run pins s σ H _ I (vw_read (.inr (.inl rfl)) h)) fun u s1 ⟨x, H1, I1, rx, B, ks, ds, d, tr, bv, hd, fin⟩ => ?_)
  obtain ⟨a, us, vs, ep, rfl, dd, hl, hnd, ok, dv, hle⟩ := dd_of I1 bv
  obtain rfl : u = Value.ref a := rx
  refine ⟨dd.dd.typeIs, dd.dd.mapOf.noDict, ?_⟩
  show wpAny _ _ (callWith q (.builtin "dict.values") [.ref a] [] []) _ X.xe s1
  refine method_meetsIn F.slot_dict_values F.entry_dict_values rfl (PySem.evalArgs_none ⟨rfl, dd.dd.typeIs, F.args_dict_values_1 _, _, meets_dict_values (mixKind X.prog X.w) a dd.lo, ⟨vs, dd.dd⟩, ?_⟩)
  refine PyProof.Rows.args_nil ?_
  have I2 : Inv X pins σ H1 { s1 with heap := s1.heap.push { cls := .type "dict_values", data := .fields #[.ref a] } } := I1.kept (t' := s1.toks) fun b ob q => Heap.get?_push_of_some _ q
  have dd2 : Dd X { s1 with heap := s1.heap.push { cls := .type "dict_values", data := .fields #[.ref a] } } a ks us vs ep := ⟨dd.lo, dd.kv, dd.dd.push _, dd.at'.push _, dd.len⟩
  have hd : (sortO ds).map .lst = some d := hd
  cases qs : sortO ds with
  | none => rw [qs] at hd; cases hd
  | some r =>
    rw [qs] at hd
    cases hd
    obtain ⟨k, hk, kk, rfl⟩ := sortO_kind qs
    exact sorted_rule (H := H1) hu hk kk (by rw [← dv.length, ← hl]; exact hle) (coll_vals (B := B) (I1.ok.hd hc) I2 dd2 hl dv ⟨_, Heap.get?_push_size _ rfl, rfl, rfl⟩) fin
theorem pe_listVals (hc : X.calm = true) (hg : Gl X "list") (hm : X.mg "list" = none) (ho : PE X o (rd .b X.K cv W f)) (hb : noSuper o = true) (hline : (ap.endLine == q.line) = true) :
    PE X (.Call (.Name "list" p) [.Call (.Attribute o "values" ap) [] [] q] [] pos) (rd .n X.K cv W fun ρ => bd (f ρ) fun x => li (vwO .listVals x)) := by
  refine ⟨fun pins s σ H Q I h => ?_⟩
  refine wpAny_Call_Name_kw (ld_blt I hg hm boot_list ?_)
  refine PyProof.Rows.callWith_type1 (PyProof.Rows.args_cons ?_ rfl) rfl rfl
  refine wpAny_Call_method (T := "dict") (id := "dict.values") (base_of hb) rfl hline F.plainAttrs_dict F.slot_dict_values F.type_dict_values (thn (ho.run pins s σ H _ I (vw_read (.inr (.inr rfl)) h)) fun u s1 ⟨x, H1, I1, rx, B, ks, ds, d, tr, bv, hd, fin⟩ => ?_)
  obtain ⟨a, us, vs, ep, rfl, dd, hl, hnd, ok, dv, hle⟩ := dd_of I1 bv
  obtain rfl : u = Value.ref a := rx
  refine ⟨dd.dd.typeIs, dd.dd.mapOf.noDict, ?_⟩
  show wpAny _ _ (callWith q (.builtin "dict.values") [.ref a] [] []) _ X.xe s1
  refine method_meetsIn F.slot_dict_values F.entry_dict_values rfl (PySem.evalArgs_none ⟨rfl, dd.dd.typeIs, F.args_dict_values_1 _, _, meets_dict_values (mixKind X.prog X.w) a dd.lo, ⟨vs, dd.dd⟩, ?_⟩)
  refine PyProof.Rows.args_nil ?_
  have I2 : Inv X pins σ H1 { s1 with heap := s1.heap.push { cls := .type "dict_values", data := .fields #[.ref a] } } := I1.kept (t' := s1.toks) fun b ob q => Heap.get?_push_of_some _ q
  have hd : some (D.lst ds) = some d := hd
  cases hd
  refine PySem.W.kdl_call (PySem.W.kdl_values (knd := mixKind X.prog X.w) (kvs := vs) (ep := ep) (d := a)) (I1.ok.hd hc) ⟨⟨_, Heap.get?_push_size _ rfl, rfl, rfl⟩, dd.at'.push _⟩ dd.len fun h' tk acc c' hk hS hi => ?_
  have e : acc.toList = vs.map (·.2) := items_eq hi (by simp) fun j v ⟨k, q⟩ => by rw [List.getElem?_map, q]; rfl
  have hz : us.length ≤ sizeLine := by rw [← hl]; exact hle
  refine ⟨.ref _, upd H1 _ (.lst us), I2.laid (t' := tk) hk (Nat.le_refl _) ⟨hz, acc.toList, c', by rw [e]; exact kv_vals dd.kv hl, by rw [Array.toArray_toList]; exact hS⟩, rfl, ?_⟩
  exact fin _ H1 us (Same.refl _) (I2.hok.fresh (Nat.le_refl _)) (by rw [← dv.length]; exact hz) dv
end
end Mn
end
section
set_option Elab.async false
set_option linter.all false
set_option maxRecDepth 100000
set_option maxHeartbeats 4000000
set_option autoImplicit false
/-! D29: sets. -/
namespace Mn
open PySem PySem.Spec L2
section
variable {P : Program} {w : World} {K : Type} [DecidableEq K]
/-- no two of them have a key in common -/
def Apart (knd : KeyKind P w K) (es : List (Int × Value)) : Prop := es.Pairwise fun e e' => ∀ k, knd.is k e.2 = true → knd.is k e'.2 = true → False
theorem Apart.perm {knd : KeyKind P w K} {l m : List (Int × Value)} (p : l.Perm m) (h : Apart knd l) : Apart knd m := (p.pairwise_iff fun {x y} q k a b => q k b a).mp h
/-- the set at a: the keys of l -/
structure SetG (knd : KeyKind P w K) (h : Heap) (a : Addr) (l : List K) (o : Obj) (es : Array (Int × Value)) (ep : Nat) (t : SetTable) : Prop where
  g0 : h.get? a = some o
  ex : o.ExactSet
  gd : o.data = .set es ep t
  el : ElemsOf knd es.toList
  ap : Apart knd es.toList
  mem : ∀ k, k ∈ l ↔ ∃ e ∈ es.toList, knd.is k e.2 = true
  sz : es.size ≤ l.length
  gf : t.fits es.size = true
  ris : Ris t.place.toList
  led : w.params.followText "set-order" = true ∨ t.led = true
def SetL (knd : KeyKind P w K) (h : Heap) (a : Addr) (l : List K) : Prop := ∃ o es ep t, SetG knd h a l o es ep t
theorem SetL.keep {knd : KeyKind P w K} {h h' : Heap} {a : Addr} {l : List K} (x : SetL knd h a l) (k : ∀ o, h.get? a = some o → h'.get? a = some o) : SetL knd h' a l := by
  obtain ⟨o, es, ep, t, g⟩ := x
  exact ⟨o, es, ep, t, { g with g0 := k o g.g0 }⟩
variable {A : Around} {E : Value → Shared → Prop} {s : Shared} {knd : KeyKind P w K} {a : Addr}
/-- the table is written, and laid anew if it is too full -/
theorem grow_tail {f : Bool → Sem Unit} (hf : ∀ (b : Bool) (s₁ : Shared) (Q' : Unit → Shared → Prop), Q' () s₁ → wpAny (model P w) A (f b) Q' E s₁) {o : Obj} {es es1 : Array (Int × Value)} {ep : Nat} {t t2 : SetTable} {l : List K} (g0 : s.heap.get? a = some o) (ex : o.ExactSet) (gd : o.data = .set es ep t)
    (el : ElemsOf knd es1.toList) (ap : Apart knd es1.toList) (mem : ∀ k, k ∈ l ↔ ∃ e ∈ es1.toList, knd.is k e.2 = true) (sz : es1.size ≤ l.length) (hb : es1.size < scanBound) (gf : t2.fits es1.size = true) (ris : Ris t2.place.toList) (led : w.params.followText "set-order" = true ∨ t2.led = true)
    {dm : Bool} {R : Option Bool → Shared → Prop} (hR : ∀ h', Heap.SameBut a s.heap h' → SetL knd h' a l → R (some true) { s with heap := h' }) :
    wpAny (model P w) A (do
        storeSet a es1 t2
        if (!dm && t2.tooFull) = true then do
            f (relayAll t2 es1 (SetTable.grown es1.size)).2.2
            storeSet a (relayAll t2 es1 (SetTable.grown es1.size)).1 (relayAll t2 es1 (SetTable.grown es1.size)).2.1
            pure (some true)
          else pure (some true)) R E s := by
  refine wpAny_bind (wpAny_storeSet_of g0 gd ?_ (fits_of_scanBound hb))
  have g1 := L2.store_at (es' := es1) (t' := t2) g0 gd
  have sb := Heap.SameBut.update s.heap a (Obj.putSet es1 t2)
  split
  · have pm := relayAll_perm t2 es1 (SetTable.grown es1.size)
    have f3 := relayAll_fits t2 es1 (SetTable.grown es1.size)
    have r3 := L2.relayAll_ris t2 es1 (SetTable.grown es1.size)
    have d3 := L2.relayAll_led t2 es1 (SetTable.grown es1.size)
    generalize relayAll t2 es1 (SetTable.grown es1.size) = Z at pm f3 r3 d3 ⊢
    obtain ⟨es2, t3, gv⟩ := Z
    dsimp only at pm f3 r3 d3 ⊢
    have z2 : es2.size = es1.size := by
      have q := pm.length_eq
      rwa [Array.length_toList, Array.length_toList] at q
    refine wpAny_bind (hf _ _ _ ?_)
    refine wpAny_bind (wpAny_storeSet_of g1 rfl ?_ (fits_of_scanBound (by rw [z2]; exact hb)))
    have g2 := L2.store_at (es' := es2) (t' := t3) g1 rfl
    refine wpAny_pure (hR _ (sb.trans (Heap.SameBut.update _ a _)) ⟨_, es2, _, t3, g2, ex, rfl, el.perm pm, ap.perm pm.symm, fun k => ?_, by rw [z2]; exact sz, f3, r3, led.imp id fun z => by rw [d3]; exact z⟩)
    exact (mem k).trans ⟨fun ⟨e, he, q⟩ => ⟨e, pm.mem_iff.mpr he, q⟩, fun ⟨e, he, q⟩ => ⟨e, pm.mem_iff.mp he, q⟩⟩
  · exact wpAny_pure (hR _ sb ⟨_, es1, _, t2, g1, ex, rfl, el, ap, mem, sz, gf, ris, led⟩)
theorem grow_add {k : K} {x : Value} {l : List K} {Q : Bool → Shared → Prop} (hk : knd.is k x = true) (hx : x.scannable = true) (S : SetL knd s.heap a l) (room : l.length + 1 < scanBound)
    (hQ : ∀ (b : Bool) (h' : Heap), Heap.SameBut a s.heap h' → SetL knd h' a (l ++ [k]) → Q b { s with heap := h' }) : wpAny (model P w) A (setAddHashed a x (knd.hash k)) Q E s := by
  obtain ⟨o, es, ep, t, g⟩ := S
  obtain ⟨g0, ex, gd, el, ap, mem, sz, gf, ris, led⟩ := g
  have gb : es.size < scanBound := by omega
  unfold setAddHashed setAddHashedIn
  refine wpAny_holding (wpAny_bind (wpAny_setState_of g0 gd gf ?_))
  dsimp only
  rw [byScan_of hx gb el]
  simp only [↓reduceIte]
  unfold setAddByScan
  refine wpAny_bind ?_
  refine wpAny_bind (wpAny_rule ?_)
  refine wpAny_bind (wpAny_setScan_of hk g0 gd gf el ?_)
  cases fi : List.findIdx? (fun e => knd.is k e.2) es.toList with
  | some j =>
    dsimp only
    obtain ⟨hj, pj, _⟩ := List.findIdx?_eq_some_iff_getElem.mp fi
    have kl : k ∈ l := (mem k).mpr ⟨es.toList[j], List.getElem_mem hj, pj⟩
    refine wpAny_pure (wpAny_pure (hQ _ s.heap (Heap.SameBut.refl a s.heap) ⟨o, es, ep, t, g0, ex, gd, el, ap, fun i => ?_, by rw [List.length_append]; omega, gf, ris, led⟩))
    rw [← mem i, List.mem_append, List.mem_singleton]
    exact ⟨fun z => z.elim id fun q => q ▸ kl, .inl⟩
  | none =>
    dsimp only
    have nk : ∀ e ∈ es.toList, knd.is k e.2 = false := fun e he => by
      have c := List.findIdx?_eq_none_iff.mp fi e he
      cases q : knd.is k e.2 with
      | false => rfl
      | true => rw [q] at c; cases c
    have gw : ∀ (b : Bool) {s₁ : Shared} {Q' : Unit → Shared → Prop}, Q' () s₁ → wpAny (model P w) A (match b with | true => rule "set.scan.the-table-gave-way" | false => pure ()) Q' E s₁ := fun b s₁ Q' q => by
      cases b
      · exact wpAny_pure q
      · exact wpAny_rule q
    have pm := layNew_perm t es (knd.hash k) x
    have f1 := layNew_fits t es (knd.hash k) x
    have r1 := L2.layNew_ris t es (knd.hash k) x ris
    have d1 := L2.layNew_led t es (knd.hash k) x
    generalize layNew t es (knd.hash k) x = Z at pm f1 r1 d1 ⊢
    obtain ⟨es1, t1, dm, gv⟩ := Z
    dsimp only at pm f1 r1 d1 ⊢
    rw [Array.toList_push] at pm
    have el1 : ElemsOf knd es1.toList := (el.push hk hx).perm pm
    have ap1 : Apart knd es1.toList := by
      refine Apart.perm pm.symm (List.pairwise_append.mpr ⟨ap, List.pairwise_singleton _ _, fun e he e' he' j q1 q2 => ?_⟩)
      rw [List.mem_singleton] at he'
      subst he'
      have := knd.inj x j k q2 hk
      subst this
      rw [nk e he] at q1
      cases q1
    have mem1 : ∀ j, j ∈ l ++ [k] ↔ ∃ e ∈ es1.toList, knd.is j e.2 = true := fun j => by
      rw [List.mem_append, List.mem_singleton, mem j]
      refine ⟨fun z => ?_, fun ⟨e, he, q⟩ => ?_⟩
      · rcases z with ⟨e, he, q⟩ | rfl
        · exact ⟨e, pm.mem_iff.mpr (List.mem_append_left _ he), q⟩
        · exact ⟨_, pm.mem_iff.mpr (List.mem_append_right _ (List.mem_singleton.mpr rfl)), hk⟩
      · rcases List.mem_append.mp (pm.mem_iff.mp he) with z | z
        · exact .inl ⟨e, z, q⟩
        · rw [List.mem_singleton] at z
          subst z
          exact .inr (knd.inj x j k q hk)
    have z1 : es1.size = es.size + 1 := by
      have q := pm.length_eq
      rw [List.length_append, Array.length_toList, Array.length_toList] at q
      exact q
    have sz1 : es1.size ≤ (l ++ [k]).length := by rw [List.length_append, z1]; exact Nat.succ_le_succ sz
    have hb1 : es1.size < scanBound := by omega
    have led1 : w.params.followText "set-order" = true ∨ t1.led = true := led.imp id fun z => by rw [d1]; exact z
    refine wpAny_bind (gw _ ?_)
    split
    · refine wpAny_bind ?_
      rw [hashByValue_scannable 8 hx]
      refine wpAny_pure ?_
      refine grow_tail (l := l ++ [k]) ?_ g0 ex gd el1 ap1 mem1 sz1 hb1 ?_ ?_ ?_ ?_
      · intro b s₁ Q' q; cases b <;> first | exact wpAny_pure q | exact wpAny_rule q
      · first | (split <;> first | exact f1 | exact SetTable.fits_plain_off f1) | exact f1
      · first | (split <;> exact r1) | exact r1
      · first | (split <;> exact led1) | exact led1
      · intro h' sb r; dsimp only; exact wpAny_pure (hQ _ h' sb r)
    · refine wpAny_bind (wpAny_pure ?_)
      simp only [↓reduceIte]
      refine grow_tail (l := l ++ [k]) ?_ g0 ex gd el1 ap1 mem1 sz1 hb1 f1 r1 led1 ?_
      · intro b s₁ Q' q; cases b <;> first | exact wpAny_pure q | exact wpAny_rule q
      · intro h' sb r; dsimp only; exact wpAny_pure (hQ _ h' sb r)
/-- a new set -/
def set0 (w : World) : Obj := { cls := .type "set", dict := none, data := .set #[] 0 (.fresh 0 0 (!w.params.followText "set-order")) }
theorem set0_L {h : Heap} (g0 : h.get? a = some (set0 w)) : SetL knd h a [] := by
  refine ⟨_, #[], 0, _, g0, ⟨rfl, rfl, rfl⟩, rfl, fun e he => by simp at he, List.Pairwise.nil, fun k => ⟨(fun z => nomatch z), fun ⟨e, he, _⟩ => by simp at he⟩, Nat.le_refl _, rfl, List.Pairwise.nil, ?_⟩
  show _ ∨ (!w.params.followText "set-order") = true
  cases w.params.followText "set-order"
  · exact .inr rfl
  · exact .inl rfl
/-- the loop of set(xs) -/
theorem fill_loop {I : Addr} {fp wr : List Addr} {G : Array GenState → Array GenState → Prop} {n : Nat} {Pv : Nat → Value → Prop} {St : Nat → Shared → Prop} {R : Result → Shared → Prop} (W : WalksS P w A.in1 I fp wr G n Pv St) (S : Addr) (hSf : S ∉ fp) (ks : List K) (hn : n = ks.length) (few : ks.length + 1 < scanBound)
    (hval : ∀ i v, Pv i v → ∃ k, ks[i]? = some k ∧ knd.is k v = true ∧ v.scannable = true) : ∀ (m i : Nat) (s : Shared), n - i = m → i ≤ n → St i s → SetL knd s.heap S (ks.take i) →
      (∀ s', Moved (S :: wr) G s s' → SetL knd s'.heap S ks → R (.ok (.ret .none)) s') → codeAny (model P w) A (.builtin "set.update.loop" ⟨[.ref S, .ref I], []⟩) R s := by
  have nw : S ∉ wr := fun z => hSf (W.sub _ z)
  have sub : ∀ b ∈ wr, b ∈ S :: wr := fun b z => List.mem_cons_of_mem _ z
  intro m
  induction m with
  | zero =>
    intro i s hm hi st hS hR
    have e : i = n := by omega
    subst e
    refine codeAny_builtin PyProof.Rows.F.entry_set_update_loop ?_
    rw [Around.under_plainId PyProof.Rows.F.plain_set_update_loop _]
    refine wpAny_bind (W.done s _ _ st fun s' mv => ?_)
    refine wpAny_pure (hR s' (mv.mono sub) ?_)
    have e2 : ks.take i = ks := List.take_of_length_le (by omega)
    rw [e2] at hS
    exact hS.keep fun o q => mv.heap S o nw q
  | succ m ih =>
    intro i s hm hi st hS hR
    have lt : i < n := by omega
    refine codeAny_builtin PyProof.Rows.F.entry_set_update_loop ?_
    rw [Around.under_plainId PyProof.Rows.F.plain_set_update_loop _]
    refine wpAny_bind (W.item i s _ _ lt st fun v s' hP st' mv => ?_)
    obtain ⟨k, ek, hk, hx⟩ := hval i v hP
    have hS' : SetL knd s'.heap S (ks.take i) := hS.keep fun o q => mv.heap S o nw q
    show wpAny _ A.in1 (holding [v] (setAdd S v) >>= _) _ _ s'
    refine wpAny_bind (wpAny_holding ?_)
    unfold setAdd
    refine wpAny_holding ?_
    refine wpAny_bind (knd.pyHash hk ?_)
    have hl : (ks.take i).length + 1 < scanBound := by rw [List.length_take]; omega
    refine grow_add (s := { s' with toks := s'.toks + 1 }) hk hx hS' hl fun b h' sb hS2 => ?_
    have e3 : ks.take (i + 1) = ks.take i ++ [k] := by rw [List.take_succ, ek]; rfl
    rw [← e3] at hS2
    refine wpAny_pure ⟨plainId_quiet PyProof.Rows.F.plain_set_update_loop _, ih (i + 1) _ (by omega) lt (W.frame _ s' _ _ st' (Nat.le_succ _) fun c hc o q => ?_) hS2 fun s'' mv2 hS3 => ?_⟩
    · rw [sb.2 c (fun z : c = S => hSf (by rw [← z]; exact hc))]
      exact q
    · refine hR s'' (Moved.trans W.gtrans ((mv.mono sub).then_heap (Nat.le_succ _) fun c o hc q => ?_) mv2) hS3
      rw [sb.2 c (fun z : c = S => hc (by rw [z]; exact List.mem_cons_self))]
      exact q
set_option maxRecDepth 100000 in
/-- set(xs) -/
theorem call_setL {l : Addr} {items : Array Value} {ks : List K} {Q : Value → Shared → Prop} (hh : A.handled = none) (hl : s.heap.IsList l items) (hz : items.size = ks.length) (few : ks.length + 1 < scanBound) (hval : ∀ (i : Nat) (v : Value), items[i]? = some v → ∃ k, ks[i]? = some k ∧ knd.is k v = true ∧ v.scannable = true)
    (h : ∀ (h' : Heap) (tk : Nat), SetL knd h' s.heap.objs.size ks → (∀ b o, s.heap.get? b = some o → h'.get? b = some o) → Q (.ref s.heap.objs.size) { s with heap := h', toks := tk }) : wpAny (model P w) A (call (.type "set") [.ref l]) Q E s := by
  obtain ⟨c, tl, hmro⟩ := F.called_set.mro
  have hmade := F.called_set.made
  have hsub := F.called_set.sub
  refine wpAny_call (codeAny_of_tree ?_)
  refine wpAny_pure ⟨Code.quiet_builtin _ (by decide +kernel), codeAny_builtin F.entry_type_call ?_⟩
  rw [Around.under_plain (weight_type_call_type "set" [.ref l] []) rfl]
  have h1 := F.called_set.notType
  have h2 := F.called_set.canCreate
  have hct := F.typeCall_set_1 (.ref l)
  repeat (any_goals (first | assumption | wp_step))
  refine codeAny_mono (L2.code_set_led1 (.ref l) (E := E) (Q₁ := fun ob s₁ => ob = .ref s.heap.objs.size ∧ s₁ = { s with heap := s.heap.push (set0 w) }) ⟨rfl, rfl⟩) fun r s₁ hr => ?_
  cases r with
  | error e => exact hr
  | ok fl =>
    cases fl with
    | ret ob =>
      obtain ⟨rfl, rfl⟩ := hr
      have gS : (s.heap.push (set0 w)).get? s.heap.objs.size = some (set0 w) := Heap.get?_push_size _ rfl
      have hT : Shared.TypeIs { s with heap := s.heap.push (set0 w) } (.ref s.heap.objs.size) "set" := ⟨_, gS, rfl⟩
      have hli := F.called_set.init.lookup
      have hbi := F.called_set.init.bind (.ref s.heap.objs.size)
      repeat (any_goals (first | assumption | wp_step))
      refine codeAny_mono (codeAny_call_builtin (R := wants (fun r s₂ => r = .none ∧ ∃ h' tk, s₂ = { s with heap := h', toks := tk } ∧ SetL knd h' s.heap.objs.size ks ∧ ∀ b o, s.heap.get? b = some o → h'.get? b = some o) E) F.called_set.init.plain F.entry_set_init (check_set_init_1 hT ?_)) fun r₂ s₂ hr₂ => ?_
      · obtain ⟨ol, hol, hcl, nl, hdl⟩ := hl
        obtain ⟨ocls, odict, odata, oslots⟩ := ol
        simp only at hcl hdl
        subst hcl
        subst hdl
        have hol' : (s.heap.push (set0 w)).get? l = some { cls := .type "list", dict := odict, data := .seq items nl, slots := oslots } := Heap.get?_push_of_some _ hol
        have hsls := F.sub_list_set
        have hslf := F.sub_list_frozenset
        have hne : (Value.type "list" == Value.type "dict") = false := by decide
        have hl1 : (s.heap.push (set0 w)).IsList l items := ⟨_, hol', rfl, nl, rfl⟩
        unfold Builtin.«set.__init__» noKeywords Builtin.Frozenset.updateFrom
        generalize hPI : pyIter = PI
        wp_walk
        subst hPI
        refine wpAny_pyIter_list hl1 ?_
        refine wpAny_bind (wpAny_runValue ?_)
        have lS : l < s.heap.objs.size := Heap.lt_size hol
        have hh3 : A.in1.in1.in1.handled = none := by simp [hh]
        have nI : l ≠ (s.heap.push (set0 w)).objs.size := by
          rw [Heap.size_push]
          exact Nat.ne_of_lt (Nat.lt_succ_of_lt lS)
        have nSf : s.heap.objs.size ∉ [(s.heap.push (set0 w)).objs.size, l] := by
          rw [Heap.size_push]
          simp only [List.mem_cons, List.not_mem_nil, or_false, not_or]
          exact ⟨Nat.ne_of_lt (Nat.lt_succ_self _), Nat.ne_of_gt lS⟩
        refine fill_loop ((Walks.list hh3 _ l nI items).toS) s.heap.objs.size nSf ks hz few hval (items.size - 0) 0 _ (by omega) (Nat.zero_le _) ⟨⟨_, Heap.get?_push_size _ rfl, rfl, rfl⟩, (hl1.push _)⟩ (set0_L (Heap.get?_push_of_some _ gS)) fun s' mv hS' => ?_
        obtain ⟨h', g2, d', tk', os'⟩ := s'
        have eg : g2 = s.gens := mv.gens
        have ed : d' = s.drawn := mv.drawn
        have eo : os' = s.os := mv.os
        subst eg
        subst ed
        subst eo
        refine wpAny_pure ?_
        refine wpAny_pure ⟨rfl, h', tk', rfl, hS', fun b o q => ?_⟩
        have lb := Heap.lt_size q
        refine mv.heap b o ?_ (Heap.get?_push_of_some _ (Heap.get?_push_of_some _ q))
        simp only [List.mem_cons, List.not_mem_nil, or_false, not_or]
        exact ⟨Nat.ne_of_lt lb, by rw [Heap.size_push]; exact Nat.ne_of_lt (Nat.lt_succ_of_lt lb)⟩
      · cases r₂ with
        | error e => exact hr₂
        | ok fl₂ =>
          cases fl₂ with
          | ret r =>
            obtain ⟨rfl, h', tk, rfl, hS', hk'⟩ := hr₂
            repeat (any_goals (first | assumption | wp_step))
            exact h _ _ hS' hk'
          | _ => exact hr₂.elim
    | _ => exact hr.elim
end
end Mn
end
section
set_option Elab.async false
set_option linter.all false
set_option maxRecDepth 100000
set_option maxHeartbeats 4000000
set_option autoImplicit false
/-! D30: sets of texts, of bools: len, sorted. -/
namespace Mn
open PySem PySem.Spec L2
/-! ### texts -/
theorem mem_dedup (x : Tx) : ∀ ts : List Tx, x ∈ dedup ts ↔ x ∈ ts
  | [] => Iff.rfl
  | t :: ts => by
    simp only [dedup, List.mem_cons, List.mem_filter, mem_dedup x ts]
    constructor
    · rintro (h | ⟨h, _⟩)
      · exact .inl h
      · exact .inr h
    · rintro (h | h)
      · exact .inl h
      · by_cases e : x = t
        · exact .inl e
        · exact .inr ⟨h, by simpa using e⟩
theorem nodup_dedup : ∀ ts : List Tx, (dedup ts).Nodup
  | [] => List.nodup_nil
  | t :: ts => by
    simp only [dedup]
    refine List.nodup_cons.mpr ⟨fun h => ?_, List.Pairwise.filter _ (nodup_dedup ts)⟩
    have := (List.mem_filter.mp h).2
    simp at this
theorem strL_inv : ∀ {x : List D} {ts : List Tx}, strL x = some ts → x = ts.map .str
  | [], ts, h => by cases h; rfl
  | d :: x, ts, h => by
    cases d <;> first
      | (cases h; done)
      | skip
    rename_i s
    have h : (strL x).map (s :: ·) = some ts := h
    cases q : strL x with
    | none => rw [q] at h; cases h
    | some r =>
      rw [q] at h
      cases h
      rw [strL_inv q]
      rfl
def tOf (v : Value) : Tx := match v with
  | .str k _ => k.cps.toList
  | _ => []
theorem tx_tOf (k : Str) (t : Tok) : tx (tOf (.str k t)) = k := rfl
theorem tOf_tx (x : Tx) (t : Tok) : tOf (.str (tx x) t) = x := rfl
section
variable {P : Program} {w : World}
theorem strK_inv {k : Str} {v : Value} (h : (strKind P w).is k v = true) : ∃ t, v = .str k t := Value.isStrOf_shape h
/-- a set of texts, as texts -/
theorem setL_texts {h : Heap} {a : Addr} {ts : List Tx} {o : Obj} {es : Array (Int × Value)} {ep : Nat} {t : SetTable} (g : SetG (strKind P w) h a (ts.map tx) o es ep t) : (es.toList.map fun e => tOf e.2).Perm (dedup ts) ∧ ∀ e ∈ es.toList, ∃ u, e.2 = .str (tx (tOf e.2)) u := by
  have sh : ∀ e ∈ es.toList, ∃ k u, e.2 = Value.str k u := fun e he => by
    obtain ⟨⟨k, hk, _⟩, _⟩ := g.el e he
    obtain ⟨u, q⟩ := strK_inv hk
    exact ⟨k, u, q⟩
  have isk : ∀ (k : Str) (u : Tok), (strKind P w).is k (.str k u) = true := fun k u => by
    show Value.isStrOf k (.str k u) = true
    simp [Value.isStrOf]
  refine ⟨?_, fun e he => ?_⟩
  · refine (List.perm_ext_iff_of_nodup ?_ (nodup_dedup ts)).mpr fun x => ?_
    · refine List.pairwise_map.mpr (g.ap.imp_of_mem fun {e e'} he he' q z => ?_)
      obtain ⟨k, u, e1⟩ := sh e he
      obtain ⟨k', u', e2⟩ := sh e' he'
      rw [e1, e2] at q z
      have : k = k' := by
        have z' : k.cps.toList = k'.cps.toList := z
        exact PySem.W.str_of_cps z'
      subst this
      exact q k (isk k u) (isk k u')
    · rw [mem_dedup, List.mem_map]
      constructor
      · rintro ⟨e, he, rfl⟩
        obtain ⟨k, u, e1⟩ := sh e he
        have m := (g.mem k).mpr ⟨e, he, by rw [e1]; exact isk k u⟩
        obtain ⟨y, hy, ey⟩ := List.mem_map.mp m
        rw [e1, ← ey]
        exact hy
      · intro hx
        obtain ⟨e, he, q⟩ := (g.mem (tx x)).mp (List.mem_map.mpr ⟨x, hx, rfl⟩)
        obtain ⟨u, e1⟩ := strK_inv q
        exact ⟨e, he, by rw [e1]; rfl⟩
  · obtain ⟨k, u, e1⟩ := sh e he
    exact ⟨u, by rw [e1]; rfl⟩
end
section
variable {X : Cx} {pins : List (Addr × Obj)} {σ : St} {H H' : Hp} {s s' : Shared} {B : Addr → Prop}
/-- nothing of ours has changed -/
theorem Inv.same' (I : Inv X pins σ H s) (ho : s'.os = s.os) (hg : s'.gens = s.gens) (hk : ∀ b o, s.heap.get? b = some o → s'.heap.get? b = some o) : Inv X pins σ H s' := by
  refine I.call' (ch := []) ho ⟨fun b o q _ _ _ => hk b o q, fun b o q _ _ _ => ⟨o.slots, hk b o q⟩, fun b o q n _ => n, fun b o q _ => ⟨o, hk b o q⟩, fun b xs q => q, fun b o u q => q, fun b ps q => ⟨#[], by rw [q]; simp⟩⟩ (fun b u q => ?_) (by rw [hg]; exact I.bare) fun b z => by simp at z
  exact (I.hok b u q).stay (fun d v _ y => hk d v y) (fun d y => y) fun d xs y => y
theorem vals_strs_at {ts : List Tx} : ∀ {us : List V} {its : List Value}, Vals us its → Dvs X.K H B us (ts.map .str) → ∀ (i : Nat) (v : Value), its[i]? = some v → ∃ k, (ts.map tx)[i]? = some k ∧ (strKind X.prog X.w).is k v = true ∧ v.scannable = true := by
  induction ts with
  | nil =>
    intro us its rv dv i v e
    cases dv
    cases rv
    simp at e
  | cons t ts ih =>
    intro us its rv dv i v e
    cases dv with
    | cons d1 d2 =>
      cases rv with
      | cons r1 r2 =>
        cases i with
        | zero =>
          have e := Option.some.inj e
          subst e
          cases d1
          obtain ⟨u, rfl⟩ := r1
          exact ⟨tx t, rfl, by show Value.isStrOf (tx t) (.str (tx t) u) = true; simp [Value.isStrOf], rfl⟩
        | succ i => exact ih r2 d2 i v e
end
/-! ### bools -/
theorem bools_inv : ∀ {x : List D} {bs : List Bool}, bools x = some bs → x = bs.map .bl
  | [], ts, h => by cases h; rfl
  | d :: x, ts, h => by
    cases d <;> first
      | (cases h; done)
      | skip
    rename_i s
    have h : (bools x).map (s :: ·) = some ts := h
    cases q : bools x with
    | none => rw [q] at h; cases h
    | some r =>
      rw [q] at h
      cases h
      rw [bools_inv q]
      rfl
def bOf (v : Value) : Bool := match v with
  | .bool b => b
  | _ => false
section
variable {P : Program} {w : World}
theorem setL_bools {h : Heap} {a : Addr} {bs : List Bool} {o : Obj} {es : Array (Int × Value)} {ep : Nat} {t : SetTable} (g : SetG (PpSet.boolK P w) h a bs o es ep t) : (es.size : Int) = b2i (bs.contains true) + b2i (bs.contains false) := by
  have sh : ∀ e ∈ es.toList, ∃ b, e.2 = Value.bool b := fun e he => by
    obtain ⟨⟨b, hb, _⟩, _⟩ := g.el e he
    exact ⟨b, PpSet.isB_shape hb⟩
  have nd : (es.toList.map fun e => bOf e.2).Nodup := List.pairwise_map.mpr (g.ap.imp_of_mem fun {e e'} he he' q z => by
      obtain ⟨k, e1⟩ := sh e he
      obtain ⟨k', e2⟩ := sh e' he'
      rw [e1, e2] at q z
      have z : k = k' := z
      subst z
      exact q k (PpSet.boolK_is P w k) (PpSet.boolK_is P w k))
  have mm : ∀ b, b ∈ es.toList.map (fun e => bOf e.2) ↔ b ∈ bs := fun b => by
    rw [g.mem b, List.mem_map]
    constructor
    · rintro ⟨e, he, rfl⟩
      obtain ⟨k, e1⟩ := sh e he
      exact ⟨e, he, by rw [e1]; exact PpSet.boolK_is P w k⟩
    · rintro ⟨e, he, q⟩
      exact ⟨e, he, by rw [PpSet.isB_shape q]; rfl⟩
  have hl : (es.toList.map fun e => bOf e.2).length = es.size := by rw [List.length_map, Array.length_toList]
  have small : ∀ l : List Bool, l.Nodup → (l.length : Int) = b2i (decide (true ∈ l)) + b2i (decide (false ∈ l)) := fun l h => by
    match l, h with
    | [], _ => rfl
    | [true], _ => rfl
    | [false], _ => rfl
    | [true, true], h => simp at h
    | [false, false], h => simp at h
    | [true, false], _ => rfl
    | [false, true], _ => rfl
    | a :: b :: c :: r, h =>
      exfalso
      simp only [List.nodup_cons, List.mem_cons, not_or] at h
      obtain ⟨⟨h1, h2, _⟩, ⟨h3, _⟩, _⟩ := h
      cases a <;> cases b <;> cases c <;> simp_all
  have z := small _ nd
  rw [hl] at z
  rw [z]
  have e1 : decide (true ∈ es.toList.map fun e => bOf e.2) = bs.contains true := by rw [Bool.eq_iff_iff]; simp only [decide_eq_true_eq, List.contains_iff_mem]; exact mm true
  have e2 : decide (false ∈ es.toList.map fun e => bOf e.2) = bs.contains false := by rw [Bool.eq_iff_iff]; simp only [decide_eq_true_eq, List.contains_iff_mem]; exact mm false
  rw [e1, e2]
end
/-! ### the expressions -/
theorem vals_bools_at {X : Cx} {H : Hp} {B : Addr → Prop} {bs : List Bool} : ∀ {us : List V} {its : List Value}, Vals us its → Dvs X.K H B us (bs.map .bl) → ∀ (i : Nat) (v : Value), its[i]? = some v → ∃ k, bs[i]? = some k ∧ (PpSet.boolK X.prog X.w).is k v = true ∧ v.scannable = true := by
  induction bs with
  | nil =>
    intro us its rv dv i v e
    cases dv
    cases rv
    simp at e
  | cons t ts ih =>
    intro us its rv dv i v e
    cases dv with
    | cons d1 d2 =>
      cases rv with
      | cons r1 r2 =>
        cases i with
        | zero =>
          have e := Option.some.inj e
          subst e
          cases d1
          have r1 : _ = Value.bool t := r1
          subst r1
          exact ⟨t, rfl, PpSet.boolK_is _ _ t, rfl⟩
        | succ i => exact ih r2 d2 i v e
section
variable {X : Cx} {cv : Nat → Value} {W : WX} {e : Expr} {f : Env → M D} {p q p2 pos : Pos}
theorem boot_set' : bootBuiltins "set" = some (.type "set") := by decide +kernel
theorem boot_len' : bootBuiltins "len" = some (.builtin "len") := by decide +kernel
theorem vw_readL {k : Vw} {σ : St} {H : Hp} {Q : VK} (hk : k = .lenSet ∨ k = .sortSet) (h : rd .n X.K cv W (fun ρ => bd (f ρ) fun x => li (vwO k x)) σ H Q) :
    rd .b X.K cv W f σ H fun v H1 => ∃ B ds d, Tr H1 B ∧ Bor X.K H1 B v (.lst ds) ∧ vwO k (.lst ds) = some d ∧ FinD .n X.K B H1 Q d := by
  obtain ⟨B, H0, ρ, r, rep, e, fin⟩ := h
  rcases bd_inv e with ⟨x, hf, e⟩ | ⟨c, hf, rfl⟩
  · refine ⟨B, H0, ρ, _, rep, hf, fun v H1 s1 bv => ?_⟩
    obtain ⟨d, hd, rfl⟩ := li_inv e
    cases x with
    | lst ds => exact ⟨_, ds, d, (rep.ext s1).bn, bv, hd, FinD.shift s1 fin⟩
    | _ => rcases hk with rfl | rfl <;> cases hd
  · exact ⟨B, H0, ρ, _, rep, hf, fin⟩
theorem pe_lenSetD (hc : X.calm = true) (hg : Gl X "len") (hm : X.mg "len" = none) (hg2 : Gl X "set") (hm2 : X.mg "set" = none) (ho : PE X e (rd .b X.K cv W f)) (hs : noStar e = true) :
    PE X (.Call (.Name "len" p) [.Call (.Name "set" p2) [e] [] q] [] pos) (rd .n X.K cv W fun ρ => bd (f ρ) fun x => li (vwO .lenSet x)) := by
  refine ⟨fun pins s σ H Q I h => ?_⟩
  refine wpAny_Call_Name_kw (ld_blt I hg hm boot_len' ?_)
  refine PyProof.Rows.callWith_builtin1 (PyProof.Rows.args_cons ?_ rfl) rfl rfl
  refine wpAny_Call_Name_kw (ld_blt I hg2 hm2 boot_set' ?_)
  refine PyProof.Rows.callWith_type1 (PyProof.Rows.args_cons (thn (ho.run pins s σ H _ I (vw_readL (.inl rfl) h)) fun u s1 ⟨x, H1, I1, rx, B, ds, d, tr, bv, hd, fin⟩ => PyProof.Rows.args_nil ?_) (star_one hs)) (star_one hs) rfl
  obtain ⟨a, us, rfl, h1, l1, dv⟩ := bv
  obtain rfl : u = Value.ref a := rx
  obtain ⟨its, rv, pl, hz⟩ := I1.list (.inl (.inl h1))
  have hsz : ∀ n, ds.length = n → its.toArray.size = n := fun n en => by rw [List.size_toArray, ← rv.length, dv.length, en]
  have fin2 : ∀ {o : Obj} {es : Array (Int × Value)} {ep : Nat} {t : SetTable} {h' : Heap} {tk : Nat}, h'.get? s1.heap.objs.size = some o → o.ExactSet → o.data = .set es ep t → t.fits es.size = true → es.size < scanBound → d = .int (es.size : Int) → (∀ b o, s1.heap.get? b = some o → h'.get? b = some o) →
      wpAny (model X.prog X.w) X.A (spliced (backTo pos (starEach [] X.env))) (fun vs s₂ => wpAny (model X.prog X.w) X.A (call (.builtin "len") (Value.ref s1.heap.objs.size :: vs)) (EP X pins σ Q) X.xe s₂) X.xe { s1 with heap := h', toks := tk } := fun {o es ep t h' tk} g0 ex gd gf hb ed hk => by
    refine PyProof.Rows.args_nil ?_
    subst ed
    have I2 : Inv X pins σ H1 { s1 with heap := h', toks := tk } := I1.kept hk
    have hb' : es.size < 4096 := hb
    exact call_len_set g0 ex gd gf (by omega) ⟨.int es.size, H1, I2.tok _, ⟨_, rfl⟩, fin_int fin⟩
  have hd : (match strL ds with
    | some ts => if ts.length < 4000 then some (D.int (dedup ts).length) else none
    | none => match bools ds with
      | some bs => if bs.length < 4000 then some (D.int (b2i (bs.contains true) + b2i (bs.contains false))) else none
      | none => none) = some d := hd
  cases es : strL ds with
  | some ts =>
    rw [es] at hd
    have hd : (if ts.length < 4000 then some (D.int (dedup ts).length) else none) = some d := hd
    by_cases hlt : ts.length < 4000
    · rw [if_pos hlt] at hd
      cases hd
      have ed := strL_inv es
      subst ed
      refine call_setL (knd := strKind X.prog X.w) (ks := ts.map tx) (I1.ok.hd hc) pl.isList (by rw [hsz _ (List.length_map _), List.length_map]) (by rw [List.length_map]; show ts.length + 1 < 4096; omega) (fun i v e => vals_strs_at rv dv i v (by rw [← Array.getElem?_toList] at e; exact e)) fun h' tk ⟨o, es, ep, t, g⟩ hk => ?_
      have pm := (setL_texts g).1.length_eq
      rw [List.length_map, Array.length_toList] at pm
      have z := g.sz
      rw [List.length_map] at z
      exact fin2 g.g0 g.ex g.gd g.gf (show es.size < 4096 by omega) (by rw [pm]) hk
    · rw [if_neg hlt] at hd
      cases hd
  | none =>
    rw [es] at hd
    have hd : (match bools ds with
      | some bs => if bs.length < 4000 then some (D.int (b2i (bs.contains true) + b2i (bs.contains false))) else none
      | none => none) = some d := hd
    cases eb : bools ds with
    | none => rw [eb] at hd; cases hd
    | some bs =>
      rw [eb] at hd
      have hd : (if bs.length < 4000 then some (D.int (b2i (bs.contains true) + b2i (bs.contains false))) else none) = some d := hd
      by_cases hlt : bs.length < 4000
      · rw [if_pos hlt] at hd
        cases hd
        have ed := bools_inv eb
        subst ed
        refine call_setL (knd := PpSet.boolK X.prog X.w) (ks := bs) (I1.ok.hd hc) pl.isList (hsz _ (List.length_map _)) (show bs.length + 1 < 4096 by omega) (fun i v e => vals_bools_at rv dv i v (by rw [← Array.getElem?_toList] at e; exact e)) fun h' tk ⟨o, es, ep, t, g⟩ hk => ?_
        have z := g.sz
        exact fin2 g.g0 g.ex g.gd g.gf (show es.size < 4096 by omega) (by rw [setL_bools g]) hk
      · rw [if_neg hlt] at hd
        cases hd
theorem pe_sortSetD (hc : X.calm = true) (hu : X.A.units + 10 < cLine) (hg : Gl X "sorted") (hm : X.mg "sorted" = none) (hg2 : Gl X "set") (hm2 : X.mg "set" = none) (ho : PE X e (rd .b X.K cv W f)) (hs : noStar e = true) :
    PE X (.Call (.Name "sorted" p) [.Call (.Name "set" p2) [e] [] q] [] pos) (rd .n X.K cv W fun ρ => bd (f ρ) fun x => li (vwO .sortSet x)) := by
  refine ⟨fun pins s σ H Q I h => ?_⟩
  refine wpAny_Call_Name_kw (ld_blt I hg hm boot_sorted ?_)
  refine PyProof.Rows.callWith_builtin1 (PyProof.Rows.args_cons ?_ rfl) rfl rfl
  refine wpAny_Call_Name_kw (ld_blt I hg2 hm2 boot_set' ?_)
  refine PyProof.Rows.callWith_type1 (PyProof.Rows.args_cons (thn (ho.run pins s σ H _ I (vw_readL (.inr rfl) h)) fun u s1 ⟨x, H1, I1, rx, B, ds, d, tr, bv, hd, fin⟩ => PyProof.Rows.args_nil ?_) (star_one hs)) (star_one hs) rfl
  obtain ⟨a, us, rfl, h1, l1, dv⟩ := bv
  obtain rfl : u = Value.ref a := rx
  obtain ⟨its, rv, pl, hz⟩ := I1.list (.inl (.inl h1))
  have hd : (match strL ds with
    | some ts => if ts.length < 4000 then some (D.lst (sortS ((dedup ts).map .str))) else none
    | none => none) = some d := hd
  cases es : strL ds with
  | none => rw [es] at hd; cases hd
  | some ts =>
    rw [es] at hd
    have hd : (if ts.length < 4000 then some (D.lst (sortS ((dedup ts).map .str))) else none) = some d := hd
    by_cases hlt : ts.length < 4000
    · rw [if_pos hlt] at hd
      cases hd
      have ed := strL_inv es
      subst ed
      refine call_setL (knd := strKind X.prog X.w) (ks := ts.map tx) (I1.ok.hd hc) pl.isList (by rw [List.size_toArray, ← rv.length, dv.length, List.length_map, List.length_map]) (by rw [List.length_map]; show ts.length + 1 < 4096; omega) (fun i v e => vals_strs_at rv dv i v (by rw [← Array.getElem?_toList] at e; exact e)) fun h' tk ⟨o, es, ep, t, g⟩ hk => PyProof.Rows.args_nil ?_
      have I2 : Inv X pins σ H1 { s1 with heap := h', toks := tk } := I1.kept hk
      obtain ⟨pm, sh⟩ := setL_texts g
      have z := g.sz
      rw [List.length_map] at z
      have okt : ∀ x ∈ ts, okTx x := fun x hx => by
        have : ∀ (us : List V) (ts : List Tx), Dvs X.K H1 B us (ts.map .str) → ∀ x ∈ ts, okTx x := fun us ts => by
          induction ts generalizing us with
          | nil => intro _ x hx; cases hx
          | cons t ts ih =>
            intro dv x hx
            cases dv with
            | cons d1 d2 =>
              rcases List.mem_cons.mp hx with z | z
              · cases d1 with
                | str o => rw [z]; exact o
              · exact ih _ d2 x z
        exact this us ts dv x hx
      have dl : (dedup ts).length ≤ lim := by
        have q := pm.length_eq
        rw [List.length_map, Array.length_toList] at q
        rw [← q, lim_eq, sizeLine_eq]
        omega
      refine sorted_perm (H := H1) (k := .s) (ds := (dedup ts).map .str) hu (.inl rfl) (kindOk_strs _) (by rw [List.length_map]; exact dl) (L2.collect_set (I1.ok.hd hc) ⟨o, g.g0, g.ex.1, g.gd⟩ g.gf (show es.size < 4096 by omega) g.ris g.led fun s' out k1 k2 k3 k4 po => ⟨H1, out.map fun v => V.str (tx (tOf v)), (out.map tOf).map .str, Inv.same' I2 k4 k3 k1, Same.refl _, ?_, ?_, ?_, kindOk_strs _⟩) fin
      · have hv : ∀ v ∈ out, ∃ u, v = .str (tx (tOf v)) u := fun v hv => by
          obtain ⟨e, he, ee⟩ := List.mem_map.mp (po.mem_iff.mp hv)
          rw [← ee]
          exact sh e he
        clear po
        induction out with
        | nil => exact .nil
        | cons v out ih =>
          obtain ⟨u, e⟩ := hv v List.mem_cons_self
          exact .cons ⟨u, e⟩ (ih fun x hx => hv x (List.mem_cons_of_mem _ hx))
      · have hv : ∀ v ∈ out, okTx (tOf v) := fun v hv => by
          have m : tOf v ∈ es.toList.map fun e => tOf e.2 := by
            obtain ⟨e, he, ee⟩ := List.mem_map.mp (po.mem_iff.mp hv)
            exact List.mem_map.mpr ⟨e, he, by rw [← ee]⟩
          exact okt _ ((mem_dedup _ ts).mp (pm.mem_iff.mp m))
        clear po
        induction out with
        | nil => exact .nil
        | cons v out ih => exact .cons (.str (hv v List.mem_cons_self)) (ih fun x hx => hv x (List.mem_cons_of_mem _ hx))
      · have q := (po.map tOf).map D.str
        rw [List.map_map (l := es.toList)] at q
        exact q.trans (pm.map D.str)
    · rw [if_neg hlt] at hd
      cases hd
end
end Mn
end
section
set_option Elab.async false
set_option linter.all false
set_option maxRecDepth 100000
set_option maxHeartbeats 4000000
set_option autoImplicit false
/-! D31: min(..) and max(..) of a list. -/
namespace Mn
open PySem PySem.Spec L2
theorem okMin_kind {xs : List D} (h : okMin xs = true) : ∃ k, kdep k ≤ 2 ∧ ∀ x ∈ xs, okK k x = true := by
  unfold okMin at h
  simp only [Bool.or_eq_true, List.all_eq_true] at h
  rcases h with (h | h) | h
  · refine ⟨.i, by decide, fun x hx => ?_⟩
    have := h x hx
    cases x <;> first | rfl | cases this
  · refine ⟨.s, by decide, fun x hx => ?_⟩
    have := h x hx
    cases x <;> first | rfl | cases this
  · exact ⟨_, by decide, h⟩
theorem minL_ok {P : D → Prop} : ∀ (xs : List D) (m : D), P m → (∀ x ∈ xs, P x) → P (minL m xs)
  | [], m, h, _ => h
  | x :: xs, m, h, hs => minL_ok xs _ (by split; exact hs x List.mem_cons_self; exact h) fun y hy => hs y (List.mem_cons_of_mem _ hy)
theorem maxL_ok {P : D → Prop} : ∀ (xs : List D) (m : D), P m → (∀ x ∈ xs, P x) → P (maxL m xs)
  | [], m, h, _ => h
  | x :: xs, m, h, hs => maxL_ok xs _ (by split; exact hs x List.mem_cons_self; exact h) fun y hy => hs y (List.mem_cons_of_mem _ hy)
theorem minL_pd {k : SK} : ∀ (xs : List D) (m : D), okK k m = true → (∀ x ∈ xs, okK k x = true) → PySem.W.minD (pd m) (pdL xs) = pd (minL m xs)
  | [], m, h, _ => rfl
  | x :: xs, m, h, hs => by
    have hx := hs x List.mem_cons_self
    have e := (lt_pd x m (okK_pur k x hx) (okK_pur k m h) (okK_alike k x m hx h)).2
    have ih := minL_pd xs (if ltS x m then x else m) (by split; exact hx; exact h) fun y hy => hs y (List.mem_cons_of_mem _ hy)
    show List.foldl _ (if PySem.W.dataLt (pd x) (pd m) then pd x else pd m) (pdL xs) = pd (minL (if ltS x m then x else m) xs)
    rw [← ih, ← e]
    cases ltS x m <;> rfl
theorem maxL_pd {k : SK} : ∀ (xs : List D) (m : D), okK k m = true → (∀ x ∈ xs, okK k x = true) → PySem.W.maxD (pd m) (pdL xs) = pd (maxL m xs)
  | [], m, h, _ => rfl
  | x :: xs, m, h, hs => by
    have hx := hs x List.mem_cons_self
    have e := (lt_pd m x (okK_pur k m h) (okK_pur k x hx) (okK_alike k m x h hx)).2
    have ih := maxL_pd xs (if ltS m x then x else m) (by split; exact hx; exact h) fun y hy => hs y (List.mem_cons_of_mem _ hy)
    show List.foldl _ (if PySem.W.dataLt (pd m) (pd x) then pd x else pd m) (pdL xs) = pd (maxL (if ltS m x then x else m) xs)
    rw [← ih, ← e]
    cases ltS m x <;> rfl
theorem mem_pdL : ∀ (xs : List D) (p : PyData), p ∈ pdL xs → ∃ x ∈ xs, p = pd x
  | [], p, h => nomatch h
  | x :: xs, p, h => by
    rcases List.mem_cons.mp h with rfl | h
    · exact ⟨x, List.mem_cons_self, rfl⟩
    · obtain ⟨y, hy, e⟩ := mem_pdL xs p h
      exact ⟨y, List.mem_cons_of_mem _ hy, e⟩
theorem pd_ne {k : SK} {x : D} (h : okK k x = true) : pd x ≠ .none := by
  cases k <;> cases x <;> first
    | (cases h; done)
    | (intro e; cases e)
theorem alike_pdL {k : SK} {xs : List D} (h : ∀ x ∈ xs, okK k x = true) : PySem.W.AlikeAll (pdL xs) := by
  refine ⟨fun p hp q hq => ?_, fun p hp => ?_⟩
  · obtain ⟨x, hx, rfl⟩ := mem_pdL xs p hp
    obtain ⟨y, hy, rfl⟩ := mem_pdL xs q hq
    exact okK_alike k x y (h x hx) (h y hy)
  · obtain ⟨x, hx, rfl⟩ := mem_pdL xs p hp
    exact pd_ne (h x hx)
theorem purL_of {k : SK} : ∀ {xs : List D}, (∀ x ∈ xs, okK k x = true) → purL xs = true
  | [], _ => rfl
  | x :: xs, h => by
    show (pur x && purL xs) = true
    rw [okK_pur k x (h x List.mem_cons_self), purL_of fun y hy => h y (List.mem_cons_of_mem _ hy)]
    rfl
theorem min_fin {X : Cx} {H : Hp} {B : Addr → Prop} {h' : Heap} {k : SK} {vs : List V} {its : List Value} {ds : List D} {i : Nat} {v : Value} {d : D} {bs : List Addr} {pins : List (Addr × Obj)} {σ : St} {s : Shared}
    (I : Inv X pins σ H s) (rv : Vals vs its) (dv : Dvs X.K H B vs ds) (hk : ∀ x ∈ ds, okK k x = true) (hi : its[i]? = some v) (hd : okK k d = true) (r : Reads h' v (pd d) bs) (kp : ∀ b o, s.heap.get? b = some o → h'.get? b = some o) :
    ∃ x, RelV x v ∧ Dv X.K H B x d := by
  obtain ⟨e, h1, h2, h3⟩ := three (tr := treeOf (Rk k s.heap)) rv dv (fun v u d r q m => ⟨reads_of I d v u (okK_pur k d (hk d m)) r q, hk d m⟩) fun u d q => tree_eq (fun u d d' q1 q2 => q1.fn q2) q
  have hm : v ∈ its := List.mem_of_getElem? hi
  have q1 : Rk k h' v (treeOf (Rk k s.heap) v) := (h1 v hm).keeps fun b o q _ => kp b o q
  have q2 : Rk k h' v d := ⟨⟨bs, r⟩, hd⟩
  have e1 := q1.fn q2
  refine ⟨vv v, h2 v hm, ?_⟩
  have := h3 v hm
  rw [e1] at this
  exact this
theorem cr_min1D {X : Cx} (hc : X.calm = true) (hu : X.A.units + 10 < cLine) : CallR X (.builtin "min") (rB .n X.K (bltO .min1)) := by
  rintro pins s σ H xs us Q I rv ⟨B, ds, d, t, bs, e, fi⟩
  match ds, e with
  | [.lst (z :: zs)], e =>
    obtain ⟨v, rfl, bv⟩ := bors_one bs
    obtain ⟨a, vs, rfl, h1, l1, d1⟩ := bv
    have e : (if okMin (z :: zs) then some (minL z zs) else none) = some d := e
    split at e
    · rename_i ok
      cases e
      obtain ⟨k, kd, hk⟩ := okMin_kind ok
      cases rv with
      | cons r rr =>
        cases rr
        cases r
        obtain ⟨its, rv, p, hz⟩ := I.list (.inl (.inl h1))
        obtain ⟨as, ra⟩ := readsL_of I (z :: zs) vs its (purL_of hk) rv d1
        have hd := depL_le (n := 2) (z :: zs) fun x hx => Nat.le_trans (kdep_le k x (hk x hx)) kd
        refine PySem.W.min_list_data (x := pd z) (xs := pdL zs) (I.ok.hd hc) p.isList (by simpa [pdL] using ra) (alike_pdL hk) (by show X.A.units + 1 + PyData.depthAll (pdL (z :: zs)) < _; omega) fun i v h' tk bs hv hr kp => ?_
        have hz1 := hk z List.mem_cons_self
        have hzs : ∀ x ∈ zs, okK k x = true := fun x hx => hk x (List.mem_cons_of_mem _ hx)
        rw [minL_pd zs z hz1 hzs] at hr
        have okd : okK k (minL z zs) = true := minL_ok (P := fun d => okK k d = true) zs z hz1 hzs
        obtain ⟨x, rx, dx⟩ := min_fin I rv d1 hk (by simpa using hv) okd hr kp
        refine ⟨x, H, I.kept kp, rx, ?_⟩
        generalize minL z zs = m at *
        cases m <;> first
          | exact fi _ _ (Same.refl _) dx
          | (exfalso; cases k <;> cases okd)
    · cases e
theorem cr_max1D {X : Cx} (hc : X.calm = true) (hu : X.A.units + 10 < cLine) : CallR X (.builtin "max") (rB .n X.K (bltO .max1)) := by
  rintro pins s σ H xs us Q I rv ⟨B, ds, d, t, bs, e, fi⟩
  match ds, e with
  | [.lst (z :: zs)], e =>
    obtain ⟨v, rfl, bv⟩ := bors_one bs
    obtain ⟨a, vs, rfl, h1, l1, d1⟩ := bv
    have e : (if okMin (z :: zs) then some (maxL z zs) else none) = some d := e
    split at e
    · rename_i ok
      cases e
      obtain ⟨k, kd, hk⟩ := okMin_kind ok
      cases rv with
      | cons r rr =>
        cases rr
        cases r
        obtain ⟨its, rv, p, hz⟩ := I.list (.inl (.inl h1))
        obtain ⟨as, ra⟩ := readsL_of I (z :: zs) vs its (purL_of hk) rv d1
        have hd := depL_le (n := 2) (z :: zs) fun x hx => Nat.le_trans (kdep_le k x (hk x hx)) kd
        refine PySem.W.max_list_data (x := pd z) (xs := pdL zs) (I.ok.hd hc) p.isList (by simpa [pdL] using ra) (alike_pdL hk) (by show X.A.units + 1 + PyData.depthAll (pdL (z :: zs)) < _; omega) fun i v h' tk bs hv hr kp => ?_
        have hz1 := hk z List.mem_cons_self
        have hzs : ∀ x ∈ zs, okK k x = true := fun x hx => hk x (List.mem_cons_of_mem _ hx)
        rw [maxL_pd zs z hz1 hzs] at hr
        have okd : okK k (maxL z zs) = true := maxL_ok (P := fun d => okK k d = true) zs z hz1 hzs
        obtain ⟨x, rx, dx⟩ := min_fin I rv d1 hk (by simpa using hv) okd hr kp
        refine ⟨x, H, I.kept kp, rx, ?_⟩
        generalize maxL z zs = m at *
        cases m <;> first
          | exact fi _ _ (Same.refl _) dx
          | (exfalso; cases k <;> cases okd)
    · cases e
end Mn
end
section
set_option Elab.async false
set_option linter.all false
set_option maxRecDepth 100000
set_option maxHeartbeats 4000000
set_option autoImplicit false
/-! D17: the checker is sound: expressions. -/
namespace Mn
open PySem PySem.Spec L2
abbrev wx (E0 : XK) : WX := fun c d _ H => E0 c d H
/-- a def's promise -/
def spF (K : Frag) (cv : Nat → Value) (F : Nat → List D → M D) (np f : Nat) : Sp := fun vs H Q E => vs.length = np ∧ ∃ B ds r, Tr H B ∧ Dvs K H B vs ds ∧ F f ds = some r ∧ match r with
  | .ok d => ∀ v H', Same H H' → Dv K H' B v d → Q v H'
  | .exc c => ∀ H', Same H H' → E (cv c) none H'
def freeN : List Str := ["len", "all", "any", "list", "tuple", "dict", "min", "max", "range", "zip", "enumerate", "isinstance", "int", "bool", "str", "sorted", "set"]
/-- what the program's classes of exceptions say -/
structure XcF (sg : Sg) (cv : Nat → Value) (K : Frag) (mg : Str → Option Value) : Prop where
  c : ∀ (c : Nat) (x : Str), sg.exs.lookup c = some x → ∃ C : Addr, cv c = .ref C ∧ mg x = some (.ref C) ∧ ExcC K C
  kit : ∀ (c d : Nat) (x y : Str), sg.exs.lookup c = some x → sg.exs.lookup d = some y → PySem.W.kitOne K (cv c) (cv d) = some (decide (d = c))
  port : ∃ C : Addr, mg "PortError" = some (.ref C) ∧ ∀ (c : Nat) (x : Str), sg.exs.lookup c = some x → PySem.W.exmOne K (cv c) (.ref C) = some true
structure Ws (sg : Sg) (cv : Nat → Value) (P : Program) (w : World) (K : Frag) (mg : Str → Option Value) (base : Heap) (n : Nat) (F : Nat → List D → M D) : Prop where
  gl : ∀ x d, sg.gl.lookup x = some d → ∃ v u, mg x = some u ∧ RelV v u ∧ ∀ H B, Dv K H B v d
  fns : ∀ (f : Nat) (x : Str) (k : Nat), sg.fns.lookup f = some (x, k) → ∃ (a : Addr) (fd : FuncData) (ps : List Str), ps.length = k ∧ mg x = some (.ref a) ∧ PySem.W.keepIn K (.ref a) = true ∧ Binds K fd ps [] ∧ FnOk P w K mg base (L2.CX P w) n a fd ps (spF K cv F k f)
  fr : ∀ x ∈ freeN, mg x = none
  ex : ∀ (c : Nat) (x : Str), sg.exs.lookup c = some x → ∃ (C : Addr) (bmB : List Value) (Bn newId initId : String), ExcBaseFacts Bn newId initId bmB ∧ PySem.W.excIn K C bmB newId = true ∧ mg x = some (.ref C) ∧ PySem.W.keepIn K (.ref C) = true ∧
    PySem.W.subIn K (.ref C) (.type "BaseException") = some true ∧ PySem.W.typeIn K (.ref C) = some (.type "type") ∧ cv c = .ref C
  xf : sg.tr = true → XcF sg cv K mg
structure Cok (sg : Sg) (cv : Nat → Value) (n : Nat) (F : Nat → List D → M D) (cs : Cs) (E0 : XK) (X : Cx) : Prop where
  ws : Ws sg cv X.prog X.w X.K X.mg X.base n F
  N : X.N = cs.N
  sc : X.env.scope = cs.sc
  fn : X.fn = cs.fn
  nod : cs.N.Nodup
  calm : X.calm = true
  room : Room n X.A
  tk : Takes X (wx E0)
section
variable {sg : Sg} {cv : Nat → Value} {n : Nat} {F : Nat → List D → M D} {cs : Cs} {E0 : XK} {X : Cx}
theorem Cok.hu (c : Cok sg cv n F cs E0 X) : X.A.units + 1 < cLine := hu_of c.room
theorem Cok.nodX (c : Cok sg cv n F cs E0 X) : X.N.Nodup := by rw [c.N]; exact c.nod
theorem Cok.blk (c : Cok sg cv n F cs E0 X) (s : Shared) (H : Hp) (scope : Scope) (cl : List (Str × Addr)) (C : Addr) (fp : List Addr) : Cok sg cv n F (cs.blk scope) (fun _ _ _ => False) (X.blk s H scope (compEnvC scope cl C X.env) fp) :=
  ⟨c.ws, c.N, by show (compEnvC scope cl C X.env).scope = relS scope cs.sc; rw [← c.sc]; rfl, rfl, c.nod, c.calm, c.room, takes0⟩
theorem Cok.gl (c : Cok sg cv n F cs E0 X) {x : Str} (h : glB cs x = true) : Gl X x ∧ (x == ("__debug__" : Str)) = false := by
  unfold glB at h
  split at h
  · rename_i e
    refine ⟨?_, by simpa using h⟩
    show X.env.scope.names.lookup x = _
    rw [c.sc]; exact e
  · cases h
theorem Cok.name (c : Cok sg cv n F cs E0 X) {i : Nat} {x : Str} (h : nameOk cs i x = true) : X.N[i]? = some x ∧ Vis X.env.scope x ∧ (x == ("__debug__" : Str)) = false ∧ (x == ("__classdict__" : Str)) = false := by
  unfold nameOk at h
  simp only [Bool.and_eq_true, decide_eq_true_eq, Bool.not_eq_true'] at h
  obtain ⟨⟨⟨h1, h2⟩, h3⟩, h4⟩ := h
  refine ⟨by rw [c.N]; exact h1, ?_, h3, h4⟩
  rw [c.sc]
  unfold visB at h2
  split at h2
  · exact .inl (by assumption)
  · exact .inr (.inl (by assumption))
  · exact .inr (.inr (by assumption))
  · cases h2
theorem st_ok {s : Tx} (h : stB s = true) : okTx s := by
  unfold stB at h
  simp only [Bool.and_eq_true, decide_eq_true_eq, List.all_eq_true] at h
  exact h
theorem cst_ok (c : Cok sg cv n F cs E0 X) {W : WX} {d : D} {e : Expr} (h : ckC sg cs d e = true) : PE X e (rd .v X.K cv W fun _ => rt d) := by
  have glo : ∀ (x : Str) (p : Pos) (d' : D), glB cs x = true → sg.gl.lookup x = some d' → PE X (.Name x p) (rd .v X.K cv W fun _ => rt d') := fun x p d' h1 h2 => by
    obtain ⟨v, u, q1, q2, q3⟩ := c.ws.gl x d' h2
    obtain ⟨g1, g2⟩ := c.gl h1
    exact pe_cstD (pe_glob g1 q1 q2 g2) q3
  unfold ckC at h
  split at h
  · have e := of_decide_eq_true h
    subst e
    exact pe_cstD pe_int fun _ _ => .int _
  · rename_i x _ _
    rw [Bool.and_eq_true] at h
    obtain ⟨h1, h2⟩ := h
    have e := of_decide_eq_true h1
    subst e
    have ex : x = tx x.cps.toList := by
      show x = (⟨x.cps.toList.toArray⟩ : Str)
      rw [Array.toArray_toList]
    have hp := pe_str (X := X) (x := tx x.cps.toList) (j := ‹Nat›) (pos := ‹Pos›)
    rw [← ex] at hp
    refine pe_cstD hp fun H B => ?_
    have z : Dv X.K H B (.str (tx x.cps.toList)) (.str x.cps.toList) := .str (st_ok h2)
    rw [← ex] at z
    exact z
  · have e := of_decide_eq_true h
    subst e
    exact pe_cstD pe_bl fun _ _ => .bl _
  · exact pe_cstD pe_non fun _ _ => .non
  · rw [Bool.and_eq_true] at h
    obtain ⟨h1, h2⟩ := h
    split at h2
    · rename_i e
      have z := of_decide_eq_true h2
      subst z
      exact glo _ _ _ h1 e
    · cases h2
  · rw [Bool.and_eq_true] at h
    obtain ⟨h1, h2⟩ := h
    split at h2
    · rename_i e
      have z := of_decide_eq_true h2
      subst z
      exact glo _ _ _ h1 e
    · cases h2
  · cases h
theorem plain_of {y : Expr} (h : notSlice y = true) : PlainIx y := by
  intro o i
  cases y with
  | Slice a b c p =>
    cases c with
    | none => cases h
    | some c => rfl
  | _ => rfl
theorem marks_of {op : CmpOp} {y : Expr} (h : notSet y = true) : behindInMarks op y = false := by
  cases y with
  | Set a b c => cases h
  | _ => rfl
theorem fold_of {y : Expr} (h : notSet y = true) {env : PySem.Env} : ∀ x, foldedSetIterable y env x = pure x := by
  intro x
  cases y with
  | Set a b c => cases h
  | _ => rfl
/-- built-in functions -/
theorem blt_ok (c : Cok sg cv n F cs E0 X) {b : Blt} {x : Str} {p pos : Pos} {y : Expr} {ys : List Expr} {W : WX} {fa : Env → M (List D)} (h : bName b = some x) (hg : glB cs x = true) (ha : PA X (y :: ys) (rdA false X.K cv W fa)) (hs : (y :: ys).all noStar = true) :
    PE X (.Call (.Name x p) (y :: ys) [] pos) (rd .n X.K cv W fun ρ => bd (fa ρ) fun ds => li (bltO b ds)) := by
  obtain ⟨g1, g2⟩ := c.gl hg
  have fr : ∀ z ∈ freeN, X.mg z = none := c.ws.fr
  cases b <;> first
    | (cases h; done)
    | skip
  · cases h; exact pe_bltD cr_len g1 (fr _ (by decide)) PySem.boot_len ha (by decide) g2 hs
  · cases h; exact pe_bltD (cr_allD c.calm) g1 (fr _ (by decide)) (by decide +kernel) ha (by decide) g2 hs
  · cases h; exact pe_bltD (cr_anyD c.calm) g1 (fr _ (by decide)) (by decide +kernel) ha (by decide) g2 hs
  · cases h
    have e : bltO .list = (fun ds => match ds with
      | [.lst x] => some (.lst x)
      | [.tup x] => some (.lst x)
      | [.str x] => some (.lst (x.map fun c => .str [c]))
      | _ => none) := by
      funext ds
      match ds with
      | [] => rfl
      | [d] => cases d <;> rfl
      | d :: d' :: ds => cases d <;> rfl
    rw [e]
    exact pe_bltTy (cr_listD c.calm) g1 (fr _ (by decide)) (by decide +kernel) ha (by decide) g2 hs
  · cases h
    have e : bltO .tuple = (fun ds => match ds with
      | [.lst x] => some (.tup x)
      | [.tup x] => some (.tup x)
      | _ => none) := by
      funext ds
      match ds with
      | [] => rfl
      | [d] => cases d <;> rfl
      | d :: d' :: ds => cases d <;> rfl
    rw [e]
    exact pe_bltTy cr_tupleD g1 (fr _ (by decide)) (by decide +kernel) ha (by decide) g2 hs
  · cases h; exact pe_bltTy (cr_dictD c.calm) g1 (fr _ (by decide)) (by decide +kernel) ha (by decide) g2 hs
  · cases h; exact pe_bltD (cr_sortedD c.calm (by have := c.room.un; omega)) g1 (fr _ (by decide)) (by decide +kernel) ha (by decide) g2 hs
  · cases h; exact pe_bltD (cr_min1D c.calm (by have := c.room.un; omega)) g1 (fr _ (by decide)) (by decide +kernel) ha (by decide) g2 hs
  · cases h; exact pe_bltD (cr_max1D c.calm (by have := c.room.un; omega)) g1 (fr _ (by decide)) (by decide +kernel) ha (by decide) g2 hs
  · cases h; exact pe_bltD (cr_min2D c.calm) g1 (fr _ (by decide)) (by decide +kernel) ha (by decide) g2 hs
  · cases h; exact pe_bltD (cr_max2D c.calm) g1 (fr _ (by decide)) (by decide +kernel) ha (by decide) g2 hs
theorem call_ok (c : Cok sg cv n F cs E0 X) {f k : Nat} {x : Str} {p pos : Pos} {es : List Expr} {fa : Env → M (List D)} (h : sg.fns.lookup f = some (x, k)) (hl : es.length = k) (hg : glB cs x = true) (ha : PA X es (rdA true X.K cv (wx E0) fa)) (hs : es.all noStar = true) (hn : ∀ ρ ds, fa ρ = some (.ok ds) → ds.length = k) (hz : es = [] → ∀ ρ, fa ρ = rt []) :
    PE X (.Call (.Name x p) es [] pos) (rd .v X.K cv (wx E0) fun ρ => bd (fa ρ) fun ds => F f ds) := by
  obtain ⟨g1, g2⟩ := c.gl hg
  obtain ⟨a, fd, ps, hp, m1, kp, bn, ok⟩ := c.ws.fns f x k h
  have rdr : ∀ (t : TA), (∀ σ H Q, rdA true X.K cv (wx E0) fa σ H Q → t σ H Q) → ∀ σ H Q, rd .v X.K cv (wx E0) (fun ρ => bd (fa ρ) fun ds => F f ds) σ H Q → tCall (spF X.K cv F k f) [] E0 t σ H Q := by
    rintro t ht σ H Q ⟨B, H0, ρ, r, rep, e, fin⟩
    refine ht σ H _ ?_
    rcases bd_inv e with ⟨ds, h1, e⟩ | ⟨c, h1, rfl⟩
    · refine ⟨B, H0, ρ, _, rep, h1, fun vs H1 s dv => ?_⟩
      have dv : Dvs X.K H1 (Bn B σ ρ) vs ds := dv
      refine ⟨by rw [List.append_nil, dv.length]; exact hn ρ ds h1, Bn B σ ρ, ds, r, (rep.ext s).bn, by rw [List.append_nil]; exact dv, e, ?_⟩
      cases r with
      | ok d => exact fun v H' s' q => fin v H' (s.trans s') q
      | exc c => exact fun H' s' => fin H' (s.trans s')
    · exact ⟨B, H0, ρ, _, rep, h1, fin⟩
  have ps0 : Passes (L2.CX X.prog X.w) X E0 := passes_call c.tk fun _ _ _ _ h => h
  cases es with
  | nil =>
    refine pe_imp (pe_call0 ok c.room g1 m1 kp bn .nil ps0 g2) (rdr tNil ?_)
    rintro σ H Q ⟨B, H0, ρ, r, rep, e, fin⟩
    rw [hz rfl] at e
    cases e
    exact fin [] H (Same.refl _) .nil
  | cons y ys =>
    have hs' := hs
    rw [List.all_cons, Bool.and_eq_true] at hs'
    exact pe_imp (pe_call ok c.room g1 m1 kp bn .nil ps0 ha g2 (star_one hs'.1) (star_any hs'.2)) (rdr _ fun _ _ _ q => q)
end
end Mn
end
section
set_option Elab.async false
set_option linter.all false
set_option maxRecDepth 100000
set_option maxHeartbeats 4000000
set_option autoImplicit false
/-! D18: the checker is sound: all expressions. -/
namespace Mn
open PySem PySem.Spec L2
def mo (a : E) : Md := if fresh a then .n else .v
section
variable {sg : Sg} {cv : Nat → Value} {n : Nat} {F : Nat → List D → M D} {cs : Cs} {E0 : XK} {X : Cx}
theorem ev_cast {X : Cx} {K : Frag} {W : WX} {m : Md} {e : Expr} {f g : Env → M D} (h : PE X e (rd m K cv W f)) (q : f = g) : PE X e (rd m K cv W g) := q ▸ h
theorem mo_v {X : Cx} {K : Frag} {W : WX} {a : E} {e : Expr} {f : Env → M D} (h : PE X e (rd (mo a) K cv W f)) : PE X e (rd .v K cv W f) := by
  unfold mo at h
  split at h
  · exact rd_nv h
  · exact h
theorem mo_of {X : Cx} {K : Frag} {W : WX} {a : E} {e : Expr} {f : Env → M D} (hf : fresh a = false) (h : PE X e (rd .v K cv W f)) : PE X e (rd (mo a) K cv W f) := by
  unfold mo
  rw [hf]
  exact h
theorem mo_n {X : Cx} {K : Frag} {W : WX} {a : E} {e : Expr} {f : Env → M D} (h : PE X e (rd .n K cv W f)) : PE X e (rd (mo a) K cv W f) := by
  unfold mo
  split
  · exact h
  · exact rd_nv h
/-- soundness of one piece -/
structure Snd (sg : Sg) (cv : Nat → Value) (n : Nat) (F : Nat → List D → M D) (a : E) : Prop where
  pe : ∀ cs E0 X, Cok sg cv n F cs E0 X → ∀ e, ckE sg a .v cs e = true → PE X e (rd (mo a) X.K cv (wx E0) (evE F a))
  pb : ∀ cs E0 X, Cok sg cv n F cs E0 X → ∀ e, ckE sg a .b cs e = true → PE X e (rd .b X.K cv (wx E0) (evE F a))
  pt : ∀ cs E0 X, Cok sg cv n F cs E0 X → ∀ e, ckE sg a .t cs e = true → PT X e (rdT X.K cv (wx E0) (evE F a))
  pa : ∀ cs E0 X, Cok sg cv n F cs E0 X → ∀ m es, ckA sg a m cs es = true → PA X es (rdA m X.K cv (wx E0) (evA F a)) ∧ (∀ ρ ds, evA F a ρ = some (.ok ds) → ds.length = es.length) ∧ (es = [] → ∀ ρ, evA F a ρ = rt [])
  pi : ∀ cs E0 X, Cok sg cv n F cs E0 X → ∀ m tg e, (pOf a = true → isTupleE tg = true) → ckI sg a cs m e = true → PI X tg e (rdI m (pOf a) X.K cv (wx E0) (evI F a))
  po : ∀ cs E0 X, Cok sg cv n F cs E0 X → ∀ eo, ckO sg a cs eo = true → PO X eo (rdO X.K cv (wx E0) fun ρ => bd (evA F a ρ) fun l => li (partO l))
/-- an expression that is neither a list nor walked -/
theorem Snd.of {a : E} (ha : ∀ m cs es, ckA sg a m cs es = false) (hi : ∀ cs m e, ckI sg a cs m e = false) (ho : ∀ cs eo, ckO sg a cs eo = false)
    (e : ∀ cs E0 X, Cok sg cv n F cs E0 X → ∀ m e, ckE sg a m cs e = true → m ≠ .t → PE X e (rd (mo a) X.K cv (wx E0) (evE F a)))
    (t : ∀ cs E0 X, Cok sg cv n F cs E0 X → ∀ e, ckE sg a .t cs e = true → PT X e (rdT X.K cv (wx E0) (evE F a))) : Snd sg cv n F a :=
  ⟨fun cs E0 X c x h => e cs E0 X c .v x h (by decide), fun cs E0 X c x h => rd_vb (mo_v (e cs E0 X c .b x h (by decide))), t, fun cs E0 X c m es h => Bool.noConfusion ((ha m cs es).symm.trans h), fun cs E0 X c m tg x _ h => Bool.noConfusion ((hi cs m x).symm.trans h), fun cs E0 X c x h => Bool.noConfusion ((ho cs x).symm.trans h)⟩
def plainT : Expr → Bool
  | .UnaryOp .Not _ _ => false
  | .BoolOp _ _ _ => false
  | .IfExp _ _ _ _ => false
  | .Compare _ _ _ _ => false
  | _ => true
theorem plain_t {e : Expr} (h : plainT e = true) (env : PySem.Env) (whole : Sem Value) : isTrue e env whole = (do let v ← whole; standAt e.pos; holding [v] (truthy v)) := by
  cases e with
  | UnaryOp op x p => cases op <;> first | (cases h; done) | rfl
  | BoolOp _ _ _ => cases h
  | IfExp _ _ _ _ => cases h
  | Compare _ _ _ _ => cases h
  | _ => rfl
/-- .. a test by its value -/
theorem Snd.of' {a : E} (ha : ∀ m cs es, ckA sg a m cs es = false) (hi : ∀ cs m e, ckI sg a cs m e = false) (ho : ∀ cs eo, ckO sg a cs eo = false)
    (e : ∀ cs E0 X, Cok sg cv n F cs E0 X → ∀ m e, ckE sg a m cs e = true → PE X e (rd (mo a) X.K cv (wx E0) (evE F a)) ∧ plainT e = true) : Snd sg cv n F a :=
  .of ha hi ho (fun cs E0 X c m x h _ => (e cs E0 X c m x h).1) fun cs E0 X c x h => pt_of (mo_v (e cs E0 X c .t x h).1) (plain_t (e cs E0 X c .t x h).2 X.env)
theorem snd_var (i : Nat) : Snd sg cv n F (.var i) := by
  refine .of' (fun _ _ _ => rfl) (fun _ _ _ => rfl) (fun _ _ => rfl) fun cs E0 X c m e h => ?_
  cases e with
  | Name x p =>
    obtain ⟨h1, h2, h3, h4⟩ := c.name h
    exact ⟨mo_of rfl (pe_varD h1 h2 h3 h4), rfl⟩
  | _ => exact Bool.noConfusion (show false = true from h)
theorem snd_bor (i : Nat) : Snd sg cv n F (.bor i) := by
  have key : ∀ cs E0 X, Cok sg cv n F cs E0 X → ∀ m e, ckE sg (.bor i) m cs e = true → m = .b ∧ PE X e (rd .b X.K cv (wx E0) (evE F (.bor i))) := fun cs E0 X c m e h => by
    cases e with
    | Name x p =>
      have h : (decide (m = .b) && nameOk cs i x) = true := h
      rw [Bool.and_eq_true] at h
      obtain ⟨h1, h2, h3, h4⟩ := c.name h.2
      exact ⟨of_decide_eq_true h.1, pe_borD h1 h2 h3 h4⟩
    | _ => exact Bool.noConfusion (show false = true from h)
  exact ⟨fun cs E0 X c x h => absurd (key cs E0 X c .v x h).1 (by decide), fun cs E0 X c x h => (key cs E0 X c .b x h).2, fun cs E0 X c x h => absurd (key cs E0 X c .t x h).1 (by decide), fun cs E0 X c m es h => Bool.noConfusion (show false = true from h),
    fun cs E0 X c m tg x _ h => Bool.noConfusion (show false = true from h), fun cs E0 X c x h => Bool.noConfusion (show false = true from h)⟩
theorem ckC_plain {d : D} {e : Expr} (h : ckC sg cs d e = true) : plainT e = true := by
  unfold ckC at h
  split at h <;> first | rfl | cases h
theorem snd_cst (d : D) : Snd sg cv n F (.cst d) := by
  refine .of' (fun _ _ _ => rfl) (fun _ _ _ => rfl) (fun _ _ => rfl) fun cs E0 X c m e h => ?_
  have h : ckC sg cs d e = true := h
  exact ⟨mo_of rfl (cst_ok c h), ckC_plain h⟩
theorem snd_bin {op : Bop} {a b : E} (sa : Snd sg cv n F a) (sb : Snd sg cv n F b) : Snd sg cv n F (.bin op a b) := by
  refine .of' (fun _ _ _ => rfl) (fun _ _ _ => rfl) (fun _ _ => rfl) fun cs E0 X c m e h => ?_
  cases e with
  | BinOp x o y p =>
    have h : (decide (bopOf o = some op) && ckE sg a .b cs x && ckE sg b .b cs y) = true := h
    simp only [Bool.and_eq_true, decide_eq_true_eq] at h
    exact ⟨mo_n (pe_bin (sa.pb cs E0 X c x h.1.2) (sb.pb cs E0 X c y h.2) (or_bin o op h.1.1)), rfl⟩
  | _ => exact Bool.noConfusion (show false = true from h)
theorem snd_neg {a : E} (sa : Snd sg cv n F a) : Snd sg cv n F (.neg a) := by
  refine .of' (fun _ _ _ => rfl) (fun _ _ _ => rfl) (fun _ _ => rfl) fun cs E0 X c m e h => ?_
  cases e with
  | UnaryOp o x p =>
    cases o with
    | USub => exact ⟨mo_of rfl (pe_negD (sa.pb cs E0 X c x h)), rfl⟩
    | _ => exact Bool.noConfusion (show false = true from h)
  | _ => exact Bool.noConfusion (show false = true from h)
theorem tv_v {m : Mo} (h : m ≠ .t) : m.tv = .v := by cases m <;> first | rfl | exact absurd rfl h
theorem snd_not {a : E} (sa : Snd sg cv n F a) : Snd sg cv n F (.not_ a) := by
  refine .of (fun _ _ _ => rfl) (fun _ _ _ => rfl) (fun _ _ => rfl) (fun cs E0 X c m e h hm => ?_) fun cs E0 X c e h => ?_
  · cases e with
    | UnaryOp o x p =>
      cases o with
      | Not =>
        have h : ckE sg a m.tv cs x = true := h
        rw [tv_v hm] at h
        exact mo_of rfl (pe_notD (mo_v (sa.pe cs E0 X c x h)))
      | _ => exact Bool.noConfusion (show false = true from h)
    | _ => exact Bool.noConfusion (show false = true from h)
  · cases e with
    | UnaryOp o x p =>
      cases o with
      | Not => exact pt_notD (sa.pt cs E0 X c x h)
      | _ => exact Bool.noConfusion (show false = true from h)
    | _ => exact Bool.noConfusion (show false = true from h)
theorem snd_cmp {op : Cop} {a b : E} (sa : Snd sg cv n F a) (sb : Snd sg cv n F b) : Snd sg cv n F (.cmp op a b) := by
  have key : ∀ cs E0 X, Cok sg cv n F cs E0 X → ∀ m e, ckE sg (.cmp op a b) m cs e = true → ∃ x o y p, e = .Compare x [o] [y] p ∧ copOf o = op ∧ PE X x (rd .b X.K cv (wx E0) (evE F a)) ∧ PE X y (rd .b X.K cv (wx E0) (evE F b)) ∧ behindInMarks o y = false := fun cs E0 X c m e h => by
    cases e with
    | Compare x os ys p =>
      match os, ys, h with
      | [o], [y], h =>
        have h : (decide (copOf o = op) && ckE sg a .b cs x && ckE sg b .b cs y && notSet y) = true := h
        simp only [Bool.and_eq_true, decide_eq_true_eq] at h
        exact ⟨x, o, y, p, rfl, h.1.1.1, sa.pb cs E0 X c x h.1.1.2, sb.pb cs E0 X c y h.1.2, marks_of h.2⟩
      | [], ys, h => exact Bool.noConfusion (show false = true from h)
      | [_], [], h => exact Bool.noConfusion (show false = true from h)
      | [_], _ :: _ :: _, h => exact Bool.noConfusion (show false = true from h)
      | _ :: _ :: _, ys, h => exact Bool.noConfusion (show false = true from h)
    | _ => exact Bool.noConfusion (show false = true from h)
  refine .of (fun _ _ _ => rfl) (fun _ _ _ => rfl) (fun _ _ => rfl) (fun cs E0 X c m e h hm => ?_) fun cs E0 X c e h => ?_
  · obtain ⟨x, o, y, p, rfl, rfl, h1, h2, h3⟩ := key cs E0 X c m e h
    exact mo_of rfl (pe_cmpD h1 h2 (or_cmp c.room.units o) h3)
  · obtain ⟨x, o, y, p, rfl, rfl, h1, h2, h3⟩ := key cs E0 X c .t e h
    exact pt_cmpD h1 h2 (or_cmp c.room.units o) h3
end
end Mn
end
section
set_option Elab.async false
set_option linter.all false
set_option maxRecDepth 100000
set_option maxHeartbeats 4000000
set_option autoImplicit false
/-! D19: the checker is sound: the rest of the expressions. -/
namespace Mn
open PySem PySem.Spec L2
section
variable {sg : Sg} {cv : Nat → Value} {n : Nat} {F : Nat → List D → M D} {cs : Cs} {E0 : XK} {X : Cx}
theorem pw_of {op : BoolOp} {es : List Expr} {p : Pos} {t : TT} (h : PT X (.BoolOp op es p) t) : PW X (.BoolOp op es p) t := ⟨fun _ pins s σ H Q I q => h.run pins s σ H Q I q⟩
theorem snd_and {a b : E} (sa : Snd sg cv n F a) (sb : Snd sg cv n F b) : Snd sg cv n F (.and_ a b) := by
  refine .of (fun _ _ _ => rfl) (fun _ _ _ => rfl) (fun _ _ => rfl) (fun cs E0 X c m e h hm => ?_) fun cs E0 X c e h => ?_
  · cases e with
    | BoolOp op es p =>
      cases op with
      | Or => exact Bool.noConfusion (show false = true from h)
      | And =>
        match es, h with
        | [], h => exact Bool.noConfusion (show false = true from h)
        | [_], h => exact Bool.noConfusion (show false = true from h)
        | [x, y], h =>
          have h : (ckE sg a m.tv cs x && ckE sg b m.tv cs y) = true := h
          rw [tv_v hm, Bool.and_eq_true] at h
          exact mo_of rfl (pe_andD (mo_v (sa.pe cs E0 X c x h.1)) (pe_one (mo_v (sb.pe cs E0 X c y h.2))))
        | x :: y :: z :: r, h =>
          have h : (ckE sg a m.tv cs x && (ckE sg b m.tv cs (.BoolOp .And (y :: z :: r) p) && isAnd b)) = true := h
          rw [tv_v hm, Bool.and_eq_true, Bool.and_eq_true] at h
          exact mo_of rfl (pe_andD (mo_v (sa.pe cs E0 X c x h.1)) (mo_v (sb.pe cs E0 X c _ h.2.1)))
    | _ => exact Bool.noConfusion (show false = true from h)
  · cases e with
    | BoolOp op es p =>
      cases op with
      | Or => exact Bool.noConfusion (show false = true from h)
      | And =>
        match es, h with
        | [], h => exact Bool.noConfusion (show false = true from h)
        | [_], h => exact Bool.noConfusion (show false = true from h)
        | [x, y], h =>
          have h : (ckE sg a .t cs x && ckE sg b .t cs y) = true := h
          rw [Bool.and_eq_true] at h
          exact (pw_andD (sa.pt cs E0 X c x h.1) (pw_and1 (sb.pt cs E0 X c y h.2))).pt
        | x :: y :: z :: r, h =>
          have h : (ckE sg a .t cs x && (ckE sg b .t cs (.BoolOp .And (y :: z :: r) p) && isAnd b)) = true := h
          rw [Bool.and_eq_true, Bool.and_eq_true] at h
          exact (pw_andD (sa.pt cs E0 X c x h.1) (pw_of (sb.pt cs E0 X c _ h.2.1))).pt
    | _ => exact Bool.noConfusion (show false = true from h)
theorem snd_or {a b : E} (sa : Snd sg cv n F a) (sb : Snd sg cv n F b) : Snd sg cv n F (.or_ a b) := by
  refine .of (fun _ _ _ => rfl) (fun _ _ _ => rfl) (fun _ _ => rfl) (fun cs E0 X c m e h hm => ?_) fun cs E0 X c e h => ?_
  · cases e with
    | BoolOp op es p =>
      cases op with
      | And => exact Bool.noConfusion (show false = true from h)
      | Or =>
        match es, h with
        | [], h => exact Bool.noConfusion (show false = true from h)
        | [_], h => exact Bool.noConfusion (show false = true from h)
        | [x, y], h =>
          have h : (ckE sg a m.tv cs x && ckE sg b m.tv cs y) = true := h
          rw [tv_v hm, Bool.and_eq_true] at h
          exact mo_of rfl (pe_orD (mo_v (sa.pe cs E0 X c x h.1)) (pe_one (mo_v (sb.pe cs E0 X c y h.2))))
        | x :: y :: z :: r, h =>
          have h : (ckE sg a m.tv cs x && (ckE sg b m.tv cs (.BoolOp .Or (y :: z :: r) p) && isOr b)) = true := h
          rw [tv_v hm, Bool.and_eq_true, Bool.and_eq_true] at h
          exact mo_of rfl (pe_orD (mo_v (sa.pe cs E0 X c x h.1)) (mo_v (sb.pe cs E0 X c _ h.2.1)))
    | _ => exact Bool.noConfusion (show false = true from h)
  · cases e with
    | BoolOp op es p =>
      cases op with
      | And => exact Bool.noConfusion (show false = true from h)
      | Or =>
        match es, h with
        | [], h => exact Bool.noConfusion (show false = true from h)
        | [_], h => exact Bool.noConfusion (show false = true from h)
        | [x, y], h =>
          have h : (ckE sg a .t cs x && ckE sg b .t cs y) = true := h
          rw [Bool.and_eq_true] at h
          exact (pw_orD (sa.pt cs E0 X c x h.1) (pw_or1 (sb.pt cs E0 X c y h.2))).pt
        | x :: y :: z :: r, h =>
          have h : (ckE sg a .t cs x && (ckE sg b .t cs (.BoolOp .Or (y :: z :: r) p) && isOr b)) = true := h
          rw [Bool.and_eq_true, Bool.and_eq_true] at h
          exact (pw_orD (sa.pt cs E0 X c x h.1) (pw_of (sb.pt cs E0 X c _ h.2.1))).pt
    | _ => exact Bool.noConfusion (show false = true from h)
theorem snd_chn {p q : Cop} {a b d : E} (sa : Snd sg cv n F a) (sb : Snd sg cv n F b) (sd : Snd sg cv n F d) : Snd sg cv n F (.chn p q a b d) := by
  have key : ∀ cs E0 X, Cok sg cv n F cs E0 X → ∀ m e, ckE sg (.chn p q a b d) m cs e = true → ∃ x o o2 y z ps, e = .Compare x [o, o2] [y, z] ps ∧ copOf o = p ∧ copOf o2 = q ∧ PE X x (rd .b X.K cv (wx E0) (evE F a)) ∧ PE X y (rd .b X.K cv (wx E0) (evE F b)) ∧ PE X z (rd .b X.K cv (wx E0) (evE F d)) ∧ lastMarks [o, o2] [y, z] = false := fun cs E0 X c m e h => by
    cases e with
    | Compare x os ys ps =>
      match os, ys, h with
      | [o, o2], [y, z], h =>
        have h : (decide (copOf o = p) && decide (copOf o2 = q) && ckE sg a .b cs x && ckE sg b .b cs y && ckE sg d .b cs z && notSet z) = true := h
        simp only [Bool.and_eq_true, decide_eq_true_eq] at h
        exact ⟨x, o, o2, y, z, ps, rfl, h.1.1.1.1.1, h.1.1.1.1.2, sa.pb cs E0 X c x h.1.1.1.2, sb.pb cs E0 X c y h.1.1.2, sd.pb cs E0 X c z h.1.2, marks_of h.2⟩
      | [], ys, h => exact Bool.noConfusion (show false = true from h)
      | [_], ys, h => exact Bool.noConfusion (show false = true from h)
      | [_, _], [], h => exact Bool.noConfusion (show false = true from h)
      | [_, _], [_], h => exact Bool.noConfusion (show false = true from h)
      | [_, _], _ :: _ :: _ :: _, h => exact Bool.noConfusion (show false = true from h)
      | _ :: _ :: _ :: _, ys, h => exact Bool.noConfusion (show false = true from h)
    | _ => exact Bool.noConfusion (show false = true from h)
  refine .of (fun _ _ _ => rfl) (fun _ _ _ => rfl) (fun _ _ => rfl) (fun cs E0 X c m e h hm => ?_) fun cs E0 X c e h => ?_
  · obtain ⟨x, o, o2, y, z, ps, rfl, rfl, rfl, h1, h2, h3, h4⟩ := key cs E0 X c m e h
    exact mo_of rfl (pe_chnD (or_cmp c.room.units o) (or_cmp c.room.units o2) h1 h2 h3 h4)
  · obtain ⟨x, o, o2, y, z, ps, rfl, rfl, rfl, h1, h2, h3, h4⟩ := key cs E0 X c .t e h
    exact pt_chnD (or_cmp c.room.units o) (or_cmp c.room.units o2) h1 h2 h3 h4
theorem snd_ite {d a b : E} (sd : Snd sg cv n F d) (sa : Snd sg cv n F a) (sb : Snd sg cv n F b) : Snd sg cv n F (.ite d a b) := by
  have key : ∀ cs E0 X, Cok sg cv n F cs E0 X → ∀ m e, ckE sg (.ite d a b) m cs e = true → m ≠ .t ∧ PE X e (rd .v X.K cv (wx E0) (evE F (.ite d a b))) := fun cs E0 X c m e h => by
    cases e with
    | IfExp t x y p =>
      have h : (decide (m ≠ .t) && ckE sg d .t cs t && ckE sg a .v cs x && ckE sg b .v cs y) = true := h
      simp only [Bool.and_eq_true, decide_eq_true_eq] at h
      exact ⟨h.1.1.1, pe_iteD (sd.pt cs E0 X c t h.1.1.2) (mo_v (sa.pe cs E0 X c x h.1.2)) (mo_v (sb.pe cs E0 X c y h.2))⟩
    | _ => exact Bool.noConfusion (show false = true from h)
  exact .of (fun _ _ _ => rfl) (fun _ _ _ => rfl) (fun _ _ => rfl) (fun cs E0 X c m e h _ => mo_of rfl (key cs E0 X c m e h).2) fun cs E0 X c e h => absurd rfl (key cs E0 X c .t e h).1
theorem snd_call {f : Nat} {as : E} (sa : Snd sg cv n F as) : Snd sg cv n F (.call f as) := by
  refine .of' (fun _ _ _ => rfl) (fun _ _ _ => rfl) (fun _ _ => rfl) fun cs E0 X c m e h => ?_
  cases e with
  | Call fn es kws p =>
    cases fn with
    | Name x p2 =>
      cases kws with
      | nil =>
        have h : ((match sg.fns.lookup f with
          | some (y, k) => decide (x = y) && decide (es.length = k)
          | none => false) && glB cs x && es.all noStar && ckA sg as true cs es) = true := h
        simp only [Bool.and_eq_true] at h
        obtain ⟨⟨⟨h1, h2⟩, h3⟩, h4⟩ := h
        split at h1
        · rename_i y k hf
          simp only [Bool.and_eq_true, decide_eq_true_eq] at h1
          obtain ⟨rfl, rfl⟩ := h1
          obtain ⟨pa, hl, hz⟩ := sa.pa cs E0 X c true es h4
          exact ⟨mo_of rfl (call_ok c hf rfl h2 pa h3 hl hz), rfl⟩
        · cases h1
      | cons _ _ => exact Bool.noConfusion (show false = true from h)
    | _ => exact Bool.noConfusion (show false = true from h)
  | _ => exact Bool.noConfusion (show false = true from h)
theorem snd_blt {b : Blt} {as : E} (sa : Snd sg cv n F as) : Snd sg cv n F (.blt b as) := by
  refine .of' (fun _ _ _ => rfl) (fun _ _ _ => rfl) (fun _ _ => rfl) fun cs E0 X c m e h => ?_
  cases e with
  | Call fn es kws p =>
    cases fn with
    | Name x p2 =>
      cases kws with
      | nil =>
        cases es with
        | nil => exact Bool.noConfusion (show false = true from h)
        | cons y ys =>
          have h : (decide (bName b = some x) && glB cs x && (y :: ys).all noStar && ckA sg as false cs (y :: ys)) = true := h
          rw [Bool.and_eq_true, Bool.and_eq_true, Bool.and_eq_true, decide_eq_true_eq] at h
          obtain ⟨⟨⟨h1, h2⟩, h3⟩, h4⟩ := h
          exact ⟨mo_n (blt_ok c h1 h2 (sa.pa cs E0 X c false _ h4).1 h3), rfl⟩
      | cons _ _ => cases es <;> exact Bool.noConfusion (show false = true from h)
    | _ => exact Bool.noConfusion (show false = true from h)
  | _ => exact Bool.noConfusion (show false = true from h)
theorem snd_vw {k : Vw} {a : E} (sa : Snd sg cv n F a) : Snd sg cv n F (.vw k a) := by
  refine .of' (fun _ _ _ => rfl) (fun _ _ _ => rfl) (fun _ _ => rfl) fun cs E0 X c m e h => ?_
  have inv : ∃ x p1 fn es q pos, e = .Call (.Name x p1) [.Call fn es [] q] [] pos := by
    cases e with
    | Call f es kws pos =>
      cases f with
      | Name x p1 =>
        cases kws with
        | cons _ _ =>
          match es, h with
          | [], h => exact Bool.noConfusion (show false = true from h)
          | y :: r, h => cases r <;> cases y <;> first
              | exact Bool.noConfusion (show false = true from h)
              | (rename_i k2 _; cases k2 <;> exact Bool.noConfusion (show false = true from h))
        | nil =>
          match es, h with
          | [], h => exact Bool.noConfusion (show false = true from h)
          | [y], h =>
            cases y with
            | Call fn es2 kws2 q =>
              cases kws2 with
              | nil => exact ⟨x, p1, fn, es2, q, pos, rfl⟩
              | cons _ _ => exact Bool.noConfusion (show false = true from h)
            | _ => exact Bool.noConfusion (show false = true from h)
          | y :: z :: r, h => cases y <;> first
              | exact Bool.noConfusion (show false = true from h)
              | (rename_i k2 _; cases k2 <;> exact Bool.noConfusion (show false = true from h))
      | _ => exact Bool.noConfusion (show false = true from h)
    | _ => exact Bool.noConfusion (show false = true from h)
  obtain ⟨x, p1, fn, es, q, pos, rfl⟩ := inv
  have fr : ∀ y, y ∈ freeN → X.mg y = none := fun y hy => c.ws.fr y hy
  have un : X.A.units + 10 < cLine := by have := c.room.un; omega
  have inS : ∀ {f : Expr → Bool}, ckSet fn es cs f = true → ∃ p2 e1, fn = .Name "set" p2 ∧ es = [e1] ∧ glB cs "set" = true ∧ noStar e1 = true ∧ f e1 = true := fun {f} z => by
    unfold ckSet at z
    split at z
    · rename_i y p2 e1
      simp only [Bool.and_eq_true, decide_eq_true_eq] at z
      obtain ⟨⟨⟨rfl, z2⟩, z3⟩, z4⟩ := z
      exact ⟨p2, e1, rfl, rfl, z2, z3, z4⟩
    · cases z
  have inV : ∀ {mm : Str} {f : Expr → Bool}, ckView mm fn es q f = true → ∃ ob ap, fn = .Attribute ob mm ap ∧ es = [] ∧ noSuper ob = true ∧ (ap.endLine == q.line) = true ∧ f ob = true := fun {mm f} z => by
    unfold ckView at z
    split at z
    · rename_i ob y ap
      simp only [Bool.and_eq_true, decide_eq_true_eq] at z
      obtain ⟨⟨⟨rfl, z2⟩, z3⟩, z4⟩ := z
      exact ⟨ob, ap, rfl, rfl, z2, z3, z4⟩
    · cases z
  have ev : (evE F (.vw k a)) = fun ρ => bd (evE F a ρ) fun x => li (vwO k x) := by funext ρ; rw [evE]
  cases k with
  | lenSet =>
    have h : (glB cs x && (decide (x = "len") && ckSet fn es cs (fun e => ckE sg a .b cs e))) = true := h
    simp only [Bool.and_eq_true, decide_eq_true_eq] at h
    obtain ⟨g, rfl, z⟩ := h
    obtain ⟨p2, e1, rfl, rfl, g2, ns, z⟩ := inS z
    exact ⟨mo_n (ev_cast (pe_lenSetD c.calm (c.gl g).1 (fr _ (by decide)) (c.gl g2).1 (fr _ (by decide)) (sa.pb cs E0 X c e1 z) ns) ev.symm), rfl⟩
  | sortSet =>
    have h : (glB cs x && (decide (x = "sorted") && ckSet fn es cs (fun e => ckE sg a .b cs e))) = true := h
    simp only [Bool.and_eq_true, decide_eq_true_eq] at h
    obtain ⟨g, rfl, z⟩ := h
    obtain ⟨p2, e1, rfl, rfl, g2, ns, z⟩ := inS z
    exact ⟨mo_n (ev_cast (pe_sortSetD c.calm un (c.gl g).1 (fr _ (by decide)) (c.gl g2).1 (fr _ (by decide)) (sa.pb cs E0 X c e1 z) ns) ev.symm), rfl⟩
  | sortItems =>
    have h : (glB cs x && (decide (x = "sorted") && ckView "items" fn es q (fun e => ckE sg a .b cs e))) = true := h
    simp only [Bool.and_eq_true, decide_eq_true_eq] at h
    obtain ⟨g, rfl, z⟩ := h
    obtain ⟨ob, ap, rfl, rfl, ns, hl, z⟩ := inV z
    exact ⟨mo_n (ev_cast (pe_sortItems c.calm un (c.gl g).1 (fr _ (by decide)) (sa.pb cs E0 X c ob z) ns hl) ev.symm), rfl⟩
  | sortVals =>
    have h : (glB cs x && (decide (x = "sorted") && ckView "values" fn es q (fun e => ckE sg a .b cs e))) = true := h
    simp only [Bool.and_eq_true, decide_eq_true_eq] at h
    obtain ⟨g, rfl, z⟩ := h
    obtain ⟨ob, ap, rfl, rfl, ns, hl, z⟩ := inV z
    exact ⟨mo_n (ev_cast (pe_sortVals c.calm un (c.gl g).1 (fr _ (by decide)) (sa.pb cs E0 X c ob z) ns hl) ev.symm), rfl⟩
  | listVals =>
    have h : (glB cs x && (decide (x = "list") && ckView "values" fn es q (fun e => ckE sg a .b cs e))) = true := h
    simp only [Bool.and_eq_true, decide_eq_true_eq] at h
    obtain ⟨g, rfl, z⟩ := h
    obtain ⟨ob, ap, rfl, rfl, ns, hl, z⟩ := inV z
    exact ⟨mo_n (ev_cast (pe_listVals c.calm (c.gl g).1 (fr _ (by decide)) (sa.pb cs E0 X c ob z) ns hl) ev.symm), rfl⟩
theorem mth_ok (c : Cok sg cv n F cs E0 X) {t : Mth} {x : Str} {ap p : Pos} {o y : Expr} {ys : List Expr} {W : WX} {f : Env → M D} {fa : Env → M (List D)} (h : mName t = some x) (ho : PE X o (rd .b X.K cv W f)) (ha : PA X (y :: ys) (rdA false X.K cv W fa))
    (hb : noSuper o = true) (hs : (y :: ys).all noStar = true) (hl : (y :: ys).length < 29) (hline : (ap.endLine == p.line) = true) : PE X (.Call (.Attribute o x ap) (y :: ys) [] p) (rd .n X.K cv W (fMth t f fa)) := by
  cases t <;> first
    | (cases h; done)
    | skip
  · cases h
    refine pe_mth2 (p := fun x => ∃ s, x = .str s) (q := fun x => ∃ s, x = .lst s) (fun x hx => ?_) (pe_mthD kind_str PySem.F.plainAttrs_str PySem.F.slot_str_index PySem.F.type_str_index mt_sindexD ho ha hb hs hl hline) (pe_mthD kind_lst PySem.F.plainAttrs_list PySem.F.slot_list_index PySem.F.type_list_index mt_lindexD ho ha hb hs hl hline)
    cases x <;> first
      | (cases hx; done)
      | exact .inl ⟨_, rfl⟩
      | exact .inr ⟨_, rfl⟩
  · cases h
    refine pe_mth1 (p := fun x => ∃ s, x = .str s) (fun x hx => ?_) (pe_mthD kind_str PySem.F.plainAttrs_str PySem.F.slot_str_join PySem.F.type_str_join mt_joinD ho ha hb hs hl hline)
    cases x <;> first
      | (cases hx; done)
      | exact ⟨_, rfl⟩
theorem mth_ok0 (c : Cok sg cv n F cs E0 X) {t : Mth} {x : Str} {ap p : Pos} {o : Expr} {W : WX} {f : Env → M D} (h : mName0 t = some x) (ho : PE X o (rd .b X.K cv W f)) (hb : noSuper o = true) (hline : (ap.endLine == p.line) = true) : PE X (.Call (.Attribute o x ap) [] [] p) (rd .n X.K cv W (fMth t f fun _ => rt [])) := by
  cases t <;> first
    | (cases h; done)
    | skip
  · cases h
    refine pe_mth1 (p := fun x => ∃ s, x = .str s) (fun x hx => ?_) (pe_mthD0 kind_str PySem.F.plainAttrs_str PySem.F.slot_str_lower PySem.F.type_str_lower mt_lowerD ho hb hline)
    cases x <;> first
      | (cases hx; done)
      | exact ⟨_, rfl⟩
  · cases h
    refine pe_mth1 (p := fun x => ∃ s, x = .str s) (fun x hx => ?_) (pe_mthD0 kind_str PySem.F.plainAttrs_str PySem.F.slot_str_upper PySem.F.type_str_upper mt_upperD ho hb hline)
    cases x <;> first
      | (cases hx; done)
      | exact ⟨_, rfl⟩
theorem snd_mth {t : Mth} {o as : E} (so : Snd sg cv n F o) (sa : Snd sg cv n F as) : Snd sg cv n F (.mth t o as) := by
  refine .of' (fun _ _ _ => rfl) (fun _ _ _ => rfl) (fun _ _ => rfl) fun cs E0 X c m e h => ?_
  cases e with
  | Call fn es kws p =>
    cases fn with
    | Attribute ob x ap =>
      cases kws with
      | nil =>
        cases es with
        | nil =>
          have h : (ckE sg o .b cs ob && noSuper ob && (ap.endLine == p.line) && (decide (mName0 t = some x) && isNil as)) = true := h
          rw [Bool.and_eq_true, Bool.and_eq_true, Bool.and_eq_true, Bool.and_eq_true, decide_eq_true_eq] at h
          obtain ⟨⟨⟨h1, h2⟩, h3⟩, h4, h5⟩ := h
          cases as <;> first
            | (cases h5; done)
            | exact ⟨mo_n (mth_ok0 c h4 (so.pb cs E0 X c ob h1) h2 h3), rfl⟩
        | cons y ys =>
          have h : (ckE sg o .b cs ob && noSuper ob && (ap.endLine == p.line) && (decide (mName t = some x) && (y :: ys).all noStar && decide ((y :: ys).length < 29) && ckA sg as false cs (y :: ys))) = true := h
          rw [Bool.and_eq_true, Bool.and_eq_true, Bool.and_eq_true, Bool.and_eq_true, Bool.and_eq_true, Bool.and_eq_true, decide_eq_true_eq, decide_eq_true_eq] at h
          obtain ⟨⟨⟨h1, h2⟩, h3⟩, ⟨⟨h4, h5⟩, h6⟩, h7⟩ := h
          exact ⟨mo_n (mth_ok c h4 (so.pb cs E0 X c ob h1) (sa.pa cs E0 X c false _ h7).1 h2 h5 h6 h3), rfl⟩
      | cons _ _ => exact Bool.noConfusion (show false = true from h)
    | _ => exact Bool.noConfusion (show false = true from h)
  | _ => exact Bool.noConfusion (show false = true from h)
theorem snd_get {o a b : E} (so : Snd sg cv n F o) (sa : Snd sg cv n F a) (sb : Snd sg cv n F b) : Snd sg cv n F (.get o a b) := by
  refine .of' (fun _ _ _ => rfl) (fun _ _ _ => rfl) (fun _ _ => rfl) fun cs E0 X c m e h => ?_
  cases e with
  | Call fn es kws p =>
    cases fn with
    | Attribute ob x ap =>
      match es, kws, h with
      | [y, z], [], h =>
        have h : (decide (x = "get") && ckE sg o .b cs ob && noSuper ob && (ap.endLine == p.line) && noStar y && noStar z && ckE sg a .v cs y && ckE sg b .v cs z) = true := h
        simp only [Bool.and_eq_true, decide_eq_true_eq] at h
        obtain ⟨⟨⟨⟨⟨⟨⟨rfl, h2⟩, h3⟩, h4⟩, h5⟩, h6⟩, h7⟩, h8⟩ := h
        exact ⟨mo_of rfl (pe_getD c.hu (so.pb cs E0 X c ob h2) (mo_v (sa.pe cs E0 X c y h7)) (mo_v (sb.pe cs E0 X c z h8)) h3 h5 h6 (by simpa using h4)), rfl⟩
      | [], kws, h => exact Bool.noConfusion (show false = true from h)
      | [_], kws, h => exact Bool.noConfusion (show false = true from h)
      | [_, _], _ :: _, h => exact Bool.noConfusion (show false = true from h)
      | _ :: _ :: _ :: _, kws, h => exact Bool.noConfusion (show false = true from h)
    | _ => exact Bool.noConfusion (show false = true from h)
  | _ => exact Bool.noConfusion (show false = true from h)
theorem snd_isi {t : Ty} {a : E} (sa : Snd sg cv n F a) : Snd sg cv n F (.isi t a) := by
  refine .of' (fun _ _ _ => rfl) (fun _ _ _ => rfl) (fun _ _ => rfl) fun cs E0 X c m e h => ?_
  cases e with
  | Call fn es kws p =>
    cases fn with
    | Name x p2 =>
      match es, h with
      | [y, .Name z p3], h =>
        cases kws with
        | cons _ _ => exact Bool.noConfusion (show false = true from h)
        | nil =>
        have h : (decide (x = "isinstance") && glB cs x && decide (tyN t = some z) && glB cs z && noStar y && ckE sg a .b cs y) = true := h
        rw [Bool.and_eq_true, Bool.and_eq_true, Bool.and_eq_true, Bool.and_eq_true, Bool.and_eq_true, decide_eq_true_eq, decide_eq_true_eq] at h
        obtain ⟨⟨⟨⟨⟨rfl, h2⟩, h3⟩, h4⟩, h5⟩, h6⟩ := h
        obtain ⟨g1, g2⟩ := c.gl h2
        obtain ⟨g3, g4⟩ := c.gl h4
        have fr : ∀ z ∈ freeN, X.mg z = none := c.ws.fr
        refine ⟨mo_of rfl ?_, rfl⟩
        cases t <;> first
          | (cases h3; done)
          | (cases h3; exact pe_isiD (sa.pb cs E0 X c y h6) g1 (fr _ (by decide)) (by decide +kernel) g3 (fr _ (by decide)) (by decide +kernel) (by decide) g4 h5)
      | [], h => exact Bool.noConfusion (show false = true from h)
      | [_], h => exact Bool.noConfusion (show false = true from h)
      | _ :: z :: _ :: _, h => cases z <;> exact Bool.noConfusion (show false = true from h)
      | [_, .BoolOp ..], h | [_, .NamedExpr ..], h | [_, .BinOp ..], h | [_, .UnaryOp ..], h | [_, .Lambda ..], h | [_, .IfExp ..], h | [_, .Dict ..], h | [_, .Set ..], h | [_, .ListComp ..], h | [_, .SetComp ..], h | [_, .DictComp ..], h | [_, .GeneratorExp ..], h | [_, .Await ..], h | [_, .Yield ..], h | [_, .YieldFrom ..], h | [_, .Compare ..], h | [_, .Call ..], h | [_, .FormattedValue ..], h | [_, .JoinedStr ..], h | [_, .Constant ..], h | [_, .Attribute ..], h | [_, .Subscript ..], h | [_, .Starred ..], h | [_, .List ..], h | [_, .Tuple ..], h | [_, .Slice ..], h =>
        exact Bool.noConfusion (show false = true from h)
    | _ => exact Bool.noConfusion (show false = true from h)
  | _ => exact Bool.noConfusion (show false = true from h)
theorem snd_idx {a i : E} (sa : Snd sg cv n F a) (si : Snd sg cv n F i) : Snd sg cv n F (.idx a i) := by
  refine .of' (fun _ _ _ => rfl) (fun _ _ _ => rfl) (fun _ _ => rfl) fun cs E0 X c m e h => ?_
  cases e with
  | Subscript x y p =>
    have h : (ckE sg a .b cs x && ckE sg i .b cs y && notSlice y) = true := h
    simp only [Bool.and_eq_true] at h
    exact ⟨mo_of rfl (pe_idxD c.hu (sa.pb cs E0 X c x h.1.1) (si.pb cs E0 X c y h.1.2) (plain_of h.2)), rfl⟩
  | _ => exact Bool.noConfusion (show false = true from h)
theorem snd_slc {a lo hi : E} (sa : Snd sg cv n F a) (sl : Snd sg cv n F lo) (sh : Snd sg cv n F hi) : Snd sg cv n F (.slc a lo hi) := by
  refine .of' (fun _ _ _ => rfl) (fun _ _ _ => rfl) (fun _ _ => rfl) fun cs E0 X c m e h => ?_
  cases e with
  | Subscript x y p =>
    cases y with
    | Slice l u st p2 =>
      cases st with
      | none =>
        have h : (ckE sg a .b cs x && ckO sg lo cs l && ckO sg hi cs u) = true := h
        simp only [Bool.and_eq_true] at h
        exact ⟨mo_n (pe_slcD (sa.pb cs E0 X c x h.1.1) (sl.po cs E0 X c l h.1.2) (sh.po cs E0 X c u h.2)), rfl⟩
      | some _ => exact Bool.noConfusion (show false = true from h)
    | _ => exact Bool.noConfusion (show false = true from h)
  | _ => exact Bool.noConfusion (show false = true from h)
theorem snd_tup {as : E} (sa : Snd sg cv n F as) : Snd sg cv n F (.tup as) := by
  refine .of' (fun _ _ _ => rfl) (fun _ _ _ => rfl) (fun _ _ => rfl) fun cs E0 X c m e h => ?_
  cases e with
  | Tuple es k p =>
    have h : (es.all noStar && ckA sg as true cs es) = true := h
    rw [Bool.and_eq_true] at h
    exact ⟨mo_of rfl (pe_tupD (sa.pa cs E0 X c true es h.2).1), rfl⟩
  | _ => exact Bool.noConfusion (show false = true from h)
theorem snd_lst {as : E} (sa : Snd sg cv n F as) : Snd sg cv n F (.lst as) := by
  refine .of' (fun _ _ _ => rfl) (fun _ _ _ => rfl) (fun _ _ => rfl) fun cs E0 X c m e h => ?_
  cases e with
  | List es p =>
    have h : (es.all noStar && ckA sg as true cs es) = true := h
    rw [Bool.and_eq_true] at h
    exact ⟨mo_n (pe_lstD (sa.pa cs E0 X c true es h.2).1), rfl⟩
  | _ => exact Bool.noConfusion (show false = true from h)
theorem snd_dct : Snd sg cv n F .dct := by
  refine .of' (fun _ _ _ => rfl) (fun _ _ _ => rfl) (fun _ _ => rfl) fun cs E0 X c m e h => ?_
  cases e with
  | Dict ks vs p =>
    match ks, vs, h with
    | [], [], h => exact ⟨mo_n pe_dctD, rfl⟩
    | _ :: _, vs, h => exact Bool.noConfusion (show false = true from h)
    | [], _ :: _, h => exact Bool.noConfusion (show false = true from h)
  | _ => exact Bool.noConfusion (show false = true from h)
end
end Mn
end
section
set_option Elab.async false
set_option linter.all false
set_option maxRecDepth 100000
set_option maxHeartbeats 4000000
set_option autoImplicit false
/-! D32: comprehensions, two clauses. -/
namespace Mn
open PySem PySem.Spec L2
def fTurn2 (own own2 : List Nat) (tg tg2 : Tg) (fi2 : Env → M (List D)) (fc fc2 fe : Env → M D) (ρ : Env) (x : D) : Option (List D) := match bindTg tg x (wipeE ρ own) with
  | none => none
  | some ρ' => match nx (fc ρ') with
    | some (.bl true) => (match nx (fi2 ρ') with
      | none => none
      | some ys => compF (fTurn own2 tg2 fc2 fe ρ') ys)
    | some (.bl false) => some []
    | _ => none
def fComp2 (own own2 : List Nat) (tg tg2 : Tg) (fi fi2 : Env → M (List D)) (fc fc2 fe : Env → M D) : Env → M D := fun ρ => bd (fi ρ) fun xs => match compF (fTurn2 own own2 tg tg2 fi2 fc fc2 fe ρ) xs with
  | none => none
  | some zs => if zs.length ≤ lim then rt (.lst zs) else none
section
variable {J : It} {n : Nat} {G : Hp → Prop} {Y : Nat → Hp → V → Hp → Prop}
theorem lc2_it (w : Walk J n G Y) {g : TG} {tt : TT} (inner : St → Hp → (Hp → Prop) → Prop) {vs : List Nat} {σ : St} {H1 : Hp} {Qd : Hp → Prop} (Pv : Nat → Hp → Prop) (h0 : Pv 0 H1) (hG : ∀ i H, i ≤ n → Pv i H → G H)
    (hs : ∀ i x H H', i < n → Pv i H → Y i H x H' → g x (wipe σ vs) H' fun σ2 H2 => wipe σ2 vs = wipe σ vs ∧ tt σ2 H2 fun b H3 => if b = true then inner σ2 H3 (Pv (i + 1)) else Pv (i + 1) H3) (hd : ∀ H, Pv n H → Qd H) :
    ∃ W : Nat → Nat → Hp → Prop, (∃ m, W 0 m H1) ∧ ∀ i m H, W i m H →
      (J.stop i H ∧ Qd H) ∨ (J.go i H ∧ ∃ Nx : Hp → Prop, (∀ H', Nx H' → ∃ m', m' < m ∧ W (i + 1) m' H') ∧ ∀ x H', J.yld i H x H' → g x (wipe σ vs) H' fun σ2 H2 => wipe σ2 vs = wipe σ vs ∧ tt σ2 H2 fun b H3 =>
        if b = true then inner σ2 H3 Nx else Nx H3) := by
  refine ⟨fun i m H => m = n - i ∧ i ≤ n ∧ Pv i H, ⟨n, by simp, Nat.zero_le _, h0⟩, ?_⟩
  rintro i m H ⟨rfl, hi, p⟩
  have q := hG i H hi p
  by_cases hlt : i < n
  · refine .inr ⟨w.goes i H hlt q, Pv (i + 1), fun H' p' => ⟨n - (i + 1), by omega, rfl, hlt, p'⟩, fun x H' y => hs i x H H' hlt p (w.yields i H x H' hlt q y)⟩
  · have e : i = n := by omega
    subst e
    exact .inl ⟨w.stops H q, hd H p⟩
end
theorem compF_len {f : D → Option (List D)} {xs zs a : List D} {i : Nat} (h : compF f xs = some zs) (e : compF f (xs.take i) = some a) : a.length ≤ zs.length := by
  rw [← List.take_append_drop i xs] at h
  obtain ⟨a', b, h1, _, rfl⟩ := compF_app h
  rw [h1] at e
  cases e
  rw [List.length_append]
  exact Nat.le_add_right _ _
section
variable {K : Frag} {B : Addr → Prop} {H0 H H1 H' : Hp} {σ : St} {ρ : Env} {L : Addr}
theorem Rep.off (r : Rep K B H0 H σ ρ) (hB : B L) (h0 : H0 L = none) (hs : ∀ b o, b ≠ L → H b = some o → H' b = some o) (hl : H' L ≠ none) : Rep K B H0 H' σ ρ := by
  refine ⟨fun b o e => hs b o (ne_of_none e h0) (r.same b o e), fun a ha => ?_, r.len, fun i d e => ?_, fun i d e => ?_, r.inj⟩
  · by_cases z : a = L
    · rw [z]; exact hl
    · cases q : H a with
      | none => exact absurd q (r.ban a ha)
      | some o => rw [hs a o z q]; exact fun z => nomatch z
  · obtain ⟨v, e1, h⟩ := r.sh i d e
    exact ⟨v, e1, Dv.keep (fun _ q _ => q) (fun b o n e => hs b o (fun z => n (.inl (z ▸ hB))) e) _ _ h⟩
  · obtain ⟨a, e1, h1, hb, h⟩ := r.ow i d e
    exact ⟨a, e1, h1, hb, h.keep (fun _ q _ => q) (fun b o n e => hs b o (fun z => n (.inl (z ▸ hB))) e) fun o e => hs a o (fun z => hb (z ▸ hB)) e⟩
theorem own_unwipe : ∀ {vs : List Nat} {a : Addr}, (∀ i ∈ vs, ∀ d, ρ[i]? ≠ some (.ow d)) → OwnA σ ρ a → OwnA (wipe σ vs) (wipeE ρ vs) a
  | [], _, _, h => h
  | v :: vs, a, hn, h => by
    refine own_keep (i := v) (c := .no) (x := none) (fun d z => ?_) (own_unwipe (vs := vs) (fun i hi => hn i (List.mem_cons_of_mem _ hi)) h)
    have aux : ∀ ws : List Nat, (wipeE ρ ws)[v]? = some (.ow d) → ρ[v]? = some (.ow d) := by
      intro ws
      induction ws with
      | nil => exact id
      | cons u us ih =>
        intro e
        rcases getset e with ⟨_, q⟩ | ⟨_, q⟩
        · cases q
        · exact ih q
    exact hn v List.mem_cons_self d (aux vs z)
theorem setAll_no {P : Nat → Prop} : ∀ {is : List Nat} {ds : List D} {ρ : Env}, (∀ i, P i → ∀ d, ρ[i]? ≠ some (.ow d)) → ∀ i, P i → ∀ d, (Mn.setAll is ds ρ)[i]? ≠ some (.ow d)
  | [], _, _, h => by simpa [Mn.setAll] using h
  | _ :: _, [], _, h => by simpa [Mn.setAll] using h
  | j :: is, d :: ds, ρ, h => by
    refine setAll_no (is := is) (ds := ds) fun i hi d' z => ?_
    rcases getset z with ⟨_, q⟩ | ⟨_, q⟩
    · cases q
    · exact h i hi d' q
theorem bind_no {own : List Nat} {tg : Tg} {d : D} {ρ2 : Env} (e : bindTg tg d (wipeE ρ own) = some ρ2) : ∀ i ∈ own, ∀ d', ρ2[i]? ≠ some (.ow d') := by
  have no : ∀ i, i ∈ own → ∀ d, (wipeE ρ own)[i]? ≠ some (.ow d) := fun i hi d z => nomatch wipeE_no hi z
  cases tg with
  | one j =>
    cases e
    intro i hi d' z
    rcases getset z with ⟨_, q⟩ | ⟨_, q⟩
    · cases q
    · exact no i hi d' q
  | many is =>
    cases d with
    | tup ds =>
      simp only [bindTg] at e
      split at e
      · cases e
        exact setAll_no (P := fun i => i ∈ own) no
      · cases e
    | _ => cases e
theorem same_updL {A : Hp} {o : HO} (s : Same A H) (h : A L = none) : Same A (upd H L o) := fun b x e => by
  rw [upd_ne (ne_of_none e h)]
  exact s b x e
theorem lc2_read {m p p2 : Bool} {cv : Nat → Value} {W : WX} {own own2 : List Nat} {tg tg2 : Tg} {fi fi2 : Env → M (List D)} {fc fc2 fe : Env → M D} (hp : p = true → ∃ is, tg = .many is) (hix : ∀ i ∈ tg.ix, i ∈ own) (hp2 : p2 = true → ∃ is, tg2 = .many is) (hix2 : ∀ i ∈ tg2.ix, i ∈ own2) (hoo : ∀ i ∈ own2, i ∈ own) :
    ∀ σ H Q, rd .n K cv W (fComp2 own own2 tg tg2 fi fi2 fc fc2 fe) σ H Q → tLc2 (rdI m p K cv W fi) (tgG K tg) (rdT K cv WF fc) (rdI true p2 K cv WF fi2) (tgG K tg2) (rdT K cv WF fc2) (rd .v K cv WF fe) own own2 σ H Q := by
  rintro σ H Q ⟨B, H0, ρ, r, rep, e, fin⟩
  rcases bd_inv e with ⟨xs, hfi, e⟩ | ⟨c, hfi, rfl⟩
  · cases hz : compF (fTurn2 own own2 tg tg2 fi2 fc fc2 fe ρ) xs with
    | none => rw [hz] at e; cases e
    | some zs =>
      rw [hz] at e
      have e : (if zs.length ≤ lim then rt (.lst zs) else none) = some r := e
      split at e
      · rename_i hzl
        cases e
        refine ⟨B, H0, ρ, _, rep, hfi, fun hlim J H1 s1 w L hL => ?_⟩
        have rep1 := rep.ext s1
        have sb : Same (bs m H1 (Bn B σ ρ)) H1 := by
          cases m with
          | true => exact unban_same H1 _
          | false => exact Same.refl _
        have h0L : H0 L = none := rep1.same.free hL
        refine lc2_it w _ (fun i Hc => ∃ Hm acc ds, Hc = upd Hm L (.lst acc) ∧ Hm L = none ∧ Same H1 Hm ∧ compF (fTurn2 own own2 tg tg2 fi2 fc fc2 fe ρ) (xs.take i) = some ds ∧ Dvs K Hm (Bn B σ ρ) acc ds)
          ⟨H1, [], [], rfl, hL, Same.refl _, rfl, .nil⟩ ?_ ?_ ?_
        · rintro i Hc _ ⟨Hm, acc, ds, rfl, hm, sm, _⟩
          exact (sb.trans sm).trans (same_upd hm)
        · rintro i x Hc H' hi ⟨Hm, acc, ds, eHc, hm, sm, ec, dacc⟩ ⟨d, ed, y⟩
          obtain ⟨a, yi, ea, ey, ez⟩ := compF_take hz i ed
          rw [ec] at ea
          cases ea
          have hle : (ds ++ yi).length ≤ zs.length := compF_len hz ez
          have sc : Same H1 Hc := by rw [eHc]; exact sm.trans (same_upd hm)
          have hcL : Hc L = some (.lst acc) := by rw [eHc]; exact upd_same
          have rb := rep_block (vs := own) (L := L) rep1 hL sc (by rw [hcL]; exact fun z => nomatch z)
          unfold fTurn2 at ey
          cases eb : bindTg tg d (wipeE ρ own) with
          | none => rw [eb] at ey; cases ey
          | some ρ2 =>
            rw [eb] at ey
            have hbn : ∀ b, ¬ Bn B σ ρ b → bs m H1 (Bn B σ ρ) b ≠ none → ¬ Bn (Bb B σ (wipe σ own) ρ (wipeE ρ own) L) (wipe σ own) (wipeE ρ own) b := fun b n hb z => by
              rcases z with (z | z | z) | z
              · exact n (.inl z)
              · rw [z] at hb
                exact hb (sb.free hL)
              · exact n (.inr z.1)
              · exact n (.inr (own_wipe z))
            obtain ⟨σ2, gq, r2, s2, hσ⟩ := bind_ok (H' := H') hp rb (sb.trans sc) hbn y eb
            obtain ⟨how, hw⟩ := own_tg hix eb hσ
            have hno := bind_no eb
            refine gq _ ⟨hw, ?_⟩
            simp only at ey
            cases en : nx (fc ρ2) with
            | none => rw [en] at ey; cases ey
            | some b =>
              rw [en] at ey
              refine ⟨_, H0, ρ2, _, r2, nx_inv en, ?_⟩
              cases b with
              | bl b =>
                refine ⟨b, rfl, fun H3 s3 => ?_⟩
                have s3' : Same H1 H3 := (sc.trans s2).trans s3
                have h3L : H3 L = some (.lst acc) := s3 _ _ (s2 _ _ hcL)
                have sm3 : Same Hm H3 := fun b o q => s3 _ _ (s2 _ _ (by rw [eHc]; exact same_upd hm b o q))
                cases b with
                | true =>
                  simp only [if_true]
                  simp only at ey
                  cases ei : nx (fi2 ρ2) with
                  | none => rw [ei] at ey; cases ey
                  | some ys =>
                    rw [ei] at ey
                    have ey : compF (fTurn own2 tg2 fc2 fe ρ2) ys = some yi := ey
                    refine ⟨_, H0, ρ2, _, r2.ext s3, nx_inv ei, fun hyl J1 H4 s4 w1 => ?_⟩
                    have r3 := (r2.ext s3).ext s4
                    generalize hZ : Bn (Bb B σ (wipe σ own) ρ (wipeE ρ own) L) σ2 ρ2 = Z at w1
                    have w1 : Walk J1 ys.length (Same (unban H4 Z)) (YD p2 K (unban H4 Z) Z ys) := w1
                    have zL : Z L := by rw [← hZ]; exact .inl (.inr (.inl rfl))
                    have h4L : H4 L = some (.lst acc) := s4 _ _ h3L
                    refine lc2_it w1 (fun σ3 H6 Nx1 => rd .v K cv WF fe σ3 H6 fun y H7 => ∃ acc, H7 L = some (.lst acc) ∧ acc.length < sizeLine ∧ Nx1 (upd H7 L (.lst (acc ++ [y])))) (fun j Hc => ∃ Hm acc dj, Hc = upd Hm L (.lst acc) ∧ Hm L = none ∧ Same H1 Hm ∧ Same (unban H4 Z) Hc ∧ (∀ b o, b ≠ L → H4 b = some o → Hc b = some o) ∧ compF (fTurn own2 tg2 fc2 fe ρ2) (ys.take j) = some dj ∧ Dvs K Hm (Bn B σ ρ) acc (ds ++ dj))
                      ⟨less H4 L, acc, [], (less_upd h4L).symm, less_self, same_less (s3'.trans s4) hL, unban_same _ _, fun _ _ _ q => q, rfl, by rw [List.append_nil]; exact dacc.ext (same_less (sm3.trans s4) hm)⟩ ?_ ?_ ?_
                    · rintro j Hj _ ⟨Hn, ac, dj, _, _, _, sz, _⟩
                      exact sz
                    · rintro j x2 Hj H5 hj ⟨Hn, ac, dj, eHj, hn, sn, sz, so, ej, dj'⟩ ⟨d2, ed2, y2⟩
                      obtain ⟨a, yj, ea, eyj, ezj⟩ := compF_take ey j ed2
                      rw [ej] at ea
                      cases ea
                      have hle2 : (dj ++ yj).length ≤ yi.length := compF_len ey ezj
                      have hjL : Hj L = some (.lst ac) := by rw [eHj]; exact upd_same
                      have r4 := (r3.off (L := L) (H' := Hj) (.inr (.inl rfl)) h0L so (by rw [hjL]; exact fun z => nomatch z)).wipe own2
                      unfold fTurn at eyj
                      cases eb2 : bindTg tg2 d2 (wipeE ρ2 own2) with
                      | none => rw [eb2] at eyj; cases eyj
                      | some ρ3 =>
                        rw [eb2] at eyj
                        obtain ⟨σ3, gq2, r5, s5, hσ3⟩ := bind_ok (H' := H5) (Bb := Z) hp2 r4 sz (fun b n _ z => n (by rw [← hZ]; exact z.imp id own_wipe)) y2 eb2
                        obtain ⟨how2, hw2⟩ := own_tg hix2 eb2 hσ3
                        refine gq2 _ ⟨hw2, ?_⟩
                        simp only at eyj
                        cases en2 : nx (fc2 ρ3) with
                        | none => rw [en2] at eyj; cases eyj
                        | some b2 =>
                          rw [en2] at eyj
                          refine ⟨_, H0, ρ3, _, r5, nx_inv en2, ?_⟩
                          cases b2 with
                          | bl b2 =>
                            refine ⟨b2, rfl, fun H6 s6 => ?_⟩
                            have s6' : Same Hj H6 := s5.trans s6
                            have h6L : H6 L = some (.lst ac) := s6' _ _ hjL
                            have sj : Same Hn Hj := by rw [eHj]; exact same_upd hn
                            cases b2 with
                            | true =>
                              simp only [if_true]
                              cases ee : nx (fe ρ3) with
                              | none => rw [ee] at eyj; cases eyj
                              | some u =>
                                rw [ee] at eyj
                                cases eyj
                                refine ⟨_, H0, ρ3, _, r5.ext s6, nx_inv ee, fun v H7 s7 dv => ?_⟩
                                have s7' : Same Hj H7 := s6'.trans s7
                                have h7L : H7 L = some (.lst ac) := s7 _ _ h6L
                                have hal := dj'.length
                                have hlt : ac.length < sizeLine := by
                                  rw [List.length_append, List.length_singleton] at hle2
                                  rw [List.length_append] at hle hal
                                  have : ac.length < lim := by omega
                                  exact this
                                have ho : ∀ a, OwnA (wipe σ own) (wipeE ρ own) a → OwnA σ3 ρ3 a := fun a h => how2 a (own_unwipe (fun i hi => hno i (hoo i hi)) (how a h))
                                refine ⟨ac, h7L, hlt, less H7 L, ac ++ [v], dj ++ [u], upd_less (o' := .lst []), less_self, same_less (sn.trans (sj.trans s7')) hL, same_updL (sz.trans s7') (unban_no zL), fun b o nb q => ?_, ezj, ?_⟩
                                · rw [upd_ne nb]
                                  exact s7' _ _ (so b o nb q)
                                · rw [← List.append_assoc]
                                  exact Dvs.append (dj'.ext (same_less (sj.trans s7') hn)) (.cons (out_ok (is := []) hL ho dv) .nil)
                            | false =>
                              simp only [Bool.false_eq_true, if_false]
                              cases eyj
                              refine ⟨less H6 L, ac, dj, (less_upd h6L).symm, less_self, same_less (sn.trans (sj.trans s6')) hL, sz.trans s6', fun b o nb q => s6' _ _ (so b o nb q), by rw [ezj, List.append_nil], dj'.ext (same_less (sj.trans s6') hn)⟩
                          | _ => cases eyj
                    · rintro Hj ⟨Hn, ac, dj, eHj, hn, sn, sz, so, ej, dj'⟩
                      rw [List.take_length, ey] at ej
                      cases ej
                      exact ⟨Hn, ac, ds ++ yi, eHj, hn, sn, ez, dj'⟩
                | false =>
                  simp only [Bool.false_eq_true, if_false]
                  cases ey
                  refine ⟨less H3 L, acc, ds, (less_upd h3L).symm, less_self, same_less s3' hL, by rw [ez, List.append_nil], dacc.ext (same_less sm3 hm)⟩
              | _ => cases ey
        · rintro Hc ⟨Hm, acc, ds, rfl, hm, sm, ec, dacc⟩
          rw [List.take_length] at ec
          rw [hz] at ec
          cases ec
          exact fin L Hm acc (s1.trans sm) hm hzl dacc
      · cases e
  · exact ⟨B, H0, ρ, _, rep, hfi, fin⟩
end
end Mn
end
section
set_option Elab.async false
set_option linter.all false
set_option maxRecDepth 100000
set_option maxHeartbeats 4000000
set_option autoImplicit false
/-! D34: a comprehension over the keys of a dict that a name owns: the dict is locked while it runs. -/
namespace Mn
open PySem PySem.Spec L2
section
variable {K : Frag} {H : Hp} {B B' : Addr → Prop} {a : Addr} {od : Obj} {kv : List (Key × V)}
/-- heaps that differ by the lock at a -/
structure LkH (a : Addr) (H H' : Hp) : Prop where
  off : ∀ b, b ≠ a → H' b = H b
  rd : ∀ kv, Rd H a (.dK kv) → Rd H' a (.dK kv)
  dk : ∃ kv, Rd H a (.dK kv)
theorem LkH.ne {H' : Hp} (l : LkH a H H') {b : Addr} {o : HO} (e : H b = some o) (h1 : ∀ kv, o ≠ .dK kv) (h2 : ∀ od kv, o ≠ .frz od (.dK kv)) : b ≠ a := fun z => by
  subst z
  obtain ⟨kv, r⟩ := l.dk
  rcases r with r | ⟨od, r⟩
  · rw [e] at r; exact h1 _ (Option.some.inj r)
  · rw [e] at r; exact h2 _ _ (Option.some.inj r)
theorem lk_up (h : H a = some (.dK kv)) : LkH a H (upd H a (.frz od (.dK kv))) :=
  ⟨fun b n => upd_ne n, (fun kv' r => by
    rcases r with r | ⟨o, r⟩
    · rw [h] at r; cases r; exact .inr ⟨od, upd_same⟩
    · rw [h] at r; cases r), ⟨kv, .inl h⟩⟩
theorem lk_dn (h : H a = some (.frz od (.dK kv))) : LkH a H (upd H a (.dK kv)) :=
  ⟨fun b n => upd_ne n, (fun kv' r => by
    rcases r with r | ⟨o, r⟩
    · rw [h] at r; cases r
    · rw [h] at r; cases r; exact .inl upd_same), ⟨kv, .inr ⟨od, h⟩⟩⟩
theorem LkH.rd' {H' : Hp} (l : LkH a H H') {b : Addr} {u : HO} (hu : (∃ kv, u = .dK kv) ∨ ∃ vs, u = .lst vs) (r : Rd H b u) : Rd H' b u := by
  by_cases z : b = a
  · subst z
    rcases hu with ⟨kv, rfl⟩ | ⟨vs, rfl⟩
    · exact l.rd _ r
    · exfalso
      rcases r with r | ⟨o, r⟩
      · exact l.ne r (fun _ q => nomatch q) (fun _ _ q => nomatch q) rfl
      · exact l.ne r (fun _ q => nomatch q) (fun _ _ q => by cases q) rfl
  · rcases r with r | ⟨o, r⟩
    · exact .inl (by rw [l.off b z]; exact r)
    · exact .inr ⟨o, by rw [l.off b z]; exact r⟩
mutual
theorem Dv.lk {H' : Hp} (l : LkH a H H') : ∀ (d : D) (v : V), Dv K H B v d → Dv K H' B v d
  | .non, _, h => by cases h; exact .non
  | .bl _, _, h => by cases h; exact .bl _
  | .int _, _, h => by cases h; exact .int _
  | .str _, _, h => by cases h with | str e => exact .str e
  | .tup ds, _, h => by
    cases h with
    | tup h1 h2 h3 h4 =>
      obtain ⟨its, h2⟩ := h2
      exact .tup h1 ⟨its, by rw [l.off _ (l.ne h2 (fun _ q => nomatch q) (fun _ _ q => by cases q))]; exact h2⟩ h3 (Dvs.lk l ds _ h4)
  | .lst ds, _, h => by
    cases h with
    | lst h1 h2 h3 h4 => exact .lst h1 (by rw [l.off _ (l.ne h2 (fun _ q => nomatch q) (fun _ _ q => nomatch q))]; exact h2) h3 (Dvs.lk l ds _ h4)
  | .scr ns, _, h => by
    cases h with
    | scr h1 h3 =>
      refine .scr ?_ h3
      rcases h1 with ⟨h1, h2⟩ | h1
      · exact .inl ⟨h1, l.rd' (.inr ⟨_, rfl⟩) h2⟩
      · exact .inr h1
  | .dct ks ds, _, h => by
    cases h with
    | dct h1 h2 h3 h5 h6 h7 h4 => exact .dct h1 (l.rd' (.inl ⟨_, rfl⟩) h2) h3 h5 h6 h7 (Dvs.lk l ds _ h4)
theorem Dvs.lk {H' : Hp} (l : LkH a H H') : ∀ (ds : List D) (vs : List V), Dvs K H B vs ds → Dvs K H' B vs ds
  | [], _, h => by cases h; exact .nil
  | d :: ds, _, h => by
    cases h with
    | cons h1 h2 => exact .cons (Dv.lk l d _ h1) (Dvs.lk l ds _ h2)
end
mutual
/-- what holds no dict does not meet one -/
theorem Dv.off (r : ∃ kv, Rd H a (.dK kv)) (n : ∀ b, B' b → B b ∨ b = a) : ∀ (d : D) (v : V), noD d = true → Dv K H B v d → Dv K H B' v d
  | .non, _, _, h => by cases h; exact .non
  | .bl _, _, _, h => by cases h; exact .bl _
  | .int _, _, _, h => by cases h; exact .int _
  | .str _, _, _, h => by cases h with | str e => exact .str e
  | .tup ds, _, q, h => by
    cases h with
    | tup h1 h2 h3 h4 =>
      obtain ⟨its, h2⟩ := h2
      refine .tup (fun z => (n _ z).elim h1 fun z => ?_) ⟨its, h2⟩ h3 (Dvs.off r n ds _ (by simpa [noD] using q) h4)
      subst z
      obtain ⟨kv, r | ⟨od, r⟩⟩ := r <;> (rw [h2] at r; cases r)
  | .lst ds, _, q, h => by
    cases h with
    | lst h1 h2 h3 h4 =>
      refine .lst (fun z => (n _ z).elim h1 fun z => ?_) h2 h3 (Dvs.off r n ds _ (by simpa [noD] using q) h4)
      subst z
      obtain ⟨kv, r | ⟨od, r⟩⟩ := r <;> (rw [h2] at r; cases r)
  | .scr ns, _, _, h => by
    cases h with
    | scr h1 h3 =>
      refine .scr ?_ h3
      rcases h1 with ⟨h1, h2⟩ | h1
      · refine .inl ⟨fun z => (n _ z).elim h1 fun z => ?_, h2⟩
        subst z
        obtain ⟨kv, r | ⟨od, r⟩⟩ := r <;> (rcases h2 with h2 | ⟨o, h2⟩ <;> (rw [h2] at r; cases r))
      · exact .inr h1
  | .dct ks ds, _, q, h => by simp [noD] at q
theorem Dvs.off (r : ∃ kv, Rd H a (.dK kv)) (n : ∀ b, B' b → B b ∨ b = a) : ∀ (ds : List D) (vs : List V), noD.noDs ds = true → Dvs K H B vs ds → Dvs K H B' vs ds
  | [], _, _, h => by cases h; exact .nil
  | d :: ds, _, q, h => by
    cases h with
    | cons h1 h2 =>
      have q : noD d = true ∧ noD.noDs ds = true := by simpa [noD.noDs] using q
      exact .cons (Dv.off r n d _ q.1 h1) (Dvs.off r n ds _ q.2 h2)
end
theorem Rep.lk {H0 : Hp} {σ : St} {ρ : Env} {H' : Hp} (r : Rep K B H0 H σ ρ) (l : LkH a H H') (h0 : H0 a = none) (no : ¬ OwnA σ ρ a) (nn : H' a ≠ none) : Rep K B H0 H' σ ρ := by
  refine ⟨fun b o e => ?_, fun b hb => ?_, r.len, fun i d e => ?_, fun i d e => ?_, r.inj⟩
  · rw [l.off b fun z => by rw [z, h0] at e; cases e]
    exact r.same b o e
  · by_cases z : b = a
    · rw [z]; exact nn
    · rw [l.off b z]; exact r.ban b hb
  · obtain ⟨v, e1, h⟩ := r.sh i d e
    exact ⟨v, e1, Dv.lk l _ _ h⟩
  · obtain ⟨b, e1, h1, hb, ho⟩ := r.ow i d e
    have z : b ≠ a := fun z => no ⟨i, d, e, by rw [← z]; exact e1⟩
    refine ⟨b, e1, h1, hb, ?_⟩
    cases d <;> first
      | exact ho.elim
      | (obtain ⟨vs, h, l1, q⟩ := ho; exact ⟨vs, by rw [l.off b z]; exact h, l1, Dvs.lk l _ _ q⟩)
      | (obtain ⟨vs, h, l1, l2, n2, o2, q⟩ := ho; exact ⟨vs, by rw [l.off b z]; exact h, l1, l2, n2, o2, Dvs.lk l _ _ q⟩)
end
def fCompK (own : List Nat) (tg : Tg) (i : Nat) (fc fe : Env → M D) : Env → M D := fun ρ => match ρ[i]? with
  | some (.ow (.dct ks ds)) => (match compF (fTurn own tg fc fe (ρ.set i (.sh (.dct ks ds)))) (ks.map .str) with
    | none => none
    | some zs => if noD (.lst zs) then rt (.lst zs) else none)
  | _ => none
section
variable {K : Frag} {cv : Nat → Value} {W : WX}
theorem keysI {ks : List Tx} {vs : List V} {σ : St} {H : Hp} {i : Nat} {a : Addr} {od : Obj} (e1 : σ[i]? = some (some (.ref a))) (h : H a = some (.frz od (.dK ((ks.map fun k => (Sum.inr (tx k) : Key)).zip vs)))) (hl : ks.length ≤ lim) (hv : ks.length = vs.length) (ok : ∀ k ∈ ks, okTx k) :
    ∀ R, rdI false false K cv W (fun _ => rt (ks.map .str)) σ H R → iKeys (tVar i) σ H R := by
  rintro R ⟨B, H0, ρ, r, rep, e, fin⟩
  cases e
  refine ⟨_, e1, a, od, rfl, .inl ⟨_, h, fin (by rw [List.length_map]; exact hl) _ H (Same.refl H) ?_⟩⟩
  have len : ((ks.map fun k => (Sum.inr (tx k) : Key)).zip vs).length = ks.length := by rw [List.length_zip, List.length_map]; omega
  refine ⟨fun j Hc hj s => ⟨s _ _ h, by rw [len]; simpa using hj⟩, fun Hc s => ⟨s _ _ h, by rw [len]; simp⟩, fun j Hc x H' hj s y => ?_⟩
  obtain ⟨rfl, k, v, ek, rfl⟩ := y
  have hj' : j < ks.length := by simpa using hj
  have ek' : k = Sum.inr (tx ks[j]) := by
    rw [List.getElem?_eq_getElem (by rw [len]; exact hj')] at ek
    have z := congrArg Prod.fst (Option.some.inj ek)
    have z : ((ks.map fun k => (Sum.inr (tx k) : Key)).zip vs)[j].1 = k := z
    rw [← z]
    simp
  refine ⟨.str ks[j], by simp [hj'], rfl, ?_⟩
  rw [ek']
  exact .str (ok _ (List.getElem_mem hj'))
theorem lcK_read {own : List Nat} {tg : Tg} {i : Nat} {fc fe : Env → M D} (hix : ∀ i ∈ tg.ix, i ∈ own) : ∀ σ H Q, rd .n K cv W (fCompK own tg i fc fe) σ H Q →
    tLockE (tLc (iKeys (tVar i)) (tgG K tg) (rdT K cv WF fc) (rd .v K cv WF fe) own) σ H Q := by
  rintro σ H Q ⟨B, H0, ρ, r, rep, e, fin⟩
  unfold fCompK at e
  split at e
  · rename_i ks ds ei
    split at e
    · cases e
    · rename_i zs ez
      split at e
      · rename_i hno
        cases e
        obtain ⟨a, e1, h0, hb, vs, h, l1, l2, n2, o2, q⟩ := rep.ow i _ ei
        refine ⟨a, _, h, trivial, fun od => ?_⟩
        have lu := lk_up (od := od) h
        have noown : ¬ OwnA σ (ρ.set i (.sh (.dct ks ds))) a := by
          rintro ⟨j, d, e2, e3⟩
          rcases getset e2 with ⟨_, z⟩ | ⟨ne, e2⟩
          · cases z
          · exact ne (rep.inj j i _ _ a e2 ei e3 e1)
        have repL := (rep.shut1 i ei).lk lu h0 noown (by rw [upd_same]; exact fun z => nomatch z)
        have key := lc_read (m := false) (p := false) (cv := cv) (W := W) (own := own) (tg := tg) (fi := fun _ => rt (ks.map .str)) (fc := fc) (fe := fe) (fun z => nomatch z) hix σ _ (fun v H' => H' a = some (.frz od (.dK ((ks.map fun k => (Sum.inr (tx k) : Key)).zip vs))) ∧ Q v (upd H' a (.dK ((ks.map fun k => (Sum.inr (tx k) : Key)).zip vs)))) ⟨B, H0, _, _, repL, by
            show bd (rt (ks.map D.str)) _ = _
            simp only [rt, bd_ok, ez]
            rfl, ?_⟩
        · exact keysI e1 upd_same l1 l2 o2 _ key
        · intro L H1 ws s n l dv
          have h1a : H1 a = some (.frz od (.dK ((ks.map fun k => (Sum.inr (tx k) : Key)).zip vs))) := s _ _ upd_same
          have La : L ≠ a := fun z => by rw [z, h1a] at n; cases n
          refine ⟨by rw [upd_ne (Ne.symm La)]; exact h1a, ?_⟩
          have ld := lk_dn h1a
          have comm : upd (upd H1 L (.lst ws)) a (.dK ((ks.map fun k => (Sum.inr (tx k) : Key)).zip vs)) = upd (upd H1 a (.dK ((ks.map fun k => (Sum.inr (tx k) : Key)).zip vs))) L (.lst ws) := by
            funext b
            by_cases z : b = a
            · subst z; rw [upd_same, upd_ne (Ne.symm La), upd_same]
            · rw [upd_ne z]
              by_cases y : b = L
              · subst y; rw [upd_same, upd_same]
              · rw [upd_ne y, upd_ne y, upd_ne z]
          rw [comm]
          refine fin L _ ws (fun b o q => ?_) (by rw [upd_ne La]; exact n) l (Dvs.lk ld _ _ (Dvs.off ld.dk (fun b z => ?_) _ _ hno dv))
          · by_cases z : b = a
            · subst z; rw [h] at q; cases q; exact upd_same
            · rw [upd_ne z]; exact s b o (by rw [upd_ne z]; exact q)
          · rcases z with z | ⟨j, d, e2, e3⟩
            · exact .inl (.inl z)
            · by_cases y : j = i
              · subst y; rw [e1] at e3; cases e3; exact .inr rfl
              · exact .inl (.inr ⟨j, d, by rw [List.getElem?_set_ne (Ne.symm y)]; exact e2, e3⟩)
      · cases e
  · cases e
end
end Mn
end
section
set_option Elab.async false
set_option linter.all false
set_option maxRecDepth 100000
set_option maxHeartbeats 4000000
set_option autoImplicit false
/-! D20: lists of arguments, what is walked, comprehensions; every expression. -/
namespace Mn
open PySem PySem.Spec L2
section
variable {sg : Sg} {cv : Nat → Value} {n : Nat} {F : Nat → List D → M D} {cs : Cs} {E0 : XK} {X : Cx}
theorem snd_nil : Snd sg cv n F .nil := by
  refine ⟨fun cs E0 X c e h => ?_, fun cs E0 X c e h => ?_, fun cs E0 X c e h => ?_, fun cs E0 X c m es h => ?_, fun cs E0 X c m tg e _ h => ?_, fun cs E0 X c eo h => ?_⟩
  · exact Bool.noConfusion (show false = true from h)
  · exact Bool.noConfusion (show false = true from h)
  · exact Bool.noConfusion (show false = true from h)
  · cases es with
    | nil => exact ⟨pa_nilD, fun ρ ds e => by cases e; rfl, fun _ _ => rfl⟩
    | cons _ _ => exact Bool.noConfusion (show false = true from h)
  · exact Bool.noConfusion (show false = true from h)
  · cases eo with
    | none => exact po_noneD
    | some _ => exact Bool.noConfusion (show false = true from h)
theorem fcons_len {f : Env → M D} {fa : Env → M (List D)} {k : Nat} (h : ∀ ρ ds, fa ρ = some (.ok ds) → ds.length = k) : ∀ ρ ds, fCons f fa ρ = some (.ok ds) → ds.length = k + 1 := fun ρ ds e => by
  rcases bd_inv e with ⟨d, h1, e⟩ | ⟨c, h1, e⟩
  · rcases bd_inv e with ⟨r, h2, e⟩ | ⟨c, h2, e⟩
    · cases e
      rw [List.length_cons, h ρ r h2]
    · cases e
  · cases e
theorem snd_cons {a as : E} (sa : Snd sg cv n F a) (sr : Snd sg cv n F as) : Snd sg cv n F (.cons a as) := by
  refine ⟨fun cs E0 X c e h => ?_, fun cs E0 X c e h => ?_, fun cs E0 X c e h => ?_, fun cs E0 X c m es h => ?_, fun cs E0 X c m tg e _ h => ?_, fun cs E0 X c eo h => ?_⟩
  · exact Bool.noConfusion (show false = true from h)
  · exact Bool.noConfusion (show false = true from h)
  · exact Bool.noConfusion (show false = true from h)
  · cases es with
    | nil => exact Bool.noConfusion (show false = true from h)
    | cons e es =>
      have h : (ckE sg a (if m then .v else .b) cs e && noStar e && ckA sg as m cs es) = true := h
      rw [Bool.and_eq_true, Bool.and_eq_true] at h
      obtain ⟨⟨h1, h2⟩, h3⟩ := h
      obtain ⟨pa, hl, hz⟩ := sr.pa cs E0 X c m es h3
      refine ⟨?_, fcons_len hl, fun z => nomatch z⟩
      cases m with
      | true => exact pa_consD (mo_v (sa.pe cs E0 X c e h1)) pa (star_one h2)
      | false => exact pa_consB (sa.pb cs E0 X c e h1) pa (star_one h2)
  · exact Bool.noConfusion (show false = true from h)
  · cases eo with
    | none => exact Bool.noConfusion (show false = true from h)
    | some e =>
      have h : (ckE sg a .b cs e && isNil as) = true := h
      rw [Bool.and_eq_true] at h
      cases as <;> first
        | (cases h.2; done)
        | skip
      have z := po_someD (sa.pb cs E0 X c e h.1)
      have q : fPart (evE F a) = fun ρ => bd (evA F (.cons a .nil) ρ) fun l => li (partO l) := by
        funext ρ
        show bd (evE F a ρ) _ = bd (bd (evE F a ρ) fun d => rt [d]) _
        cases evE F a ρ with
        | none => rfl
        | some r =>
          cases r with
          | exc c => rfl
          | ok d => cases d <;> rfl
      rw [← q]
      exact z
theorem snd_no {a : E} (he : ∀ m cs e, ckE sg a m cs e = false) (ha : ∀ m cs es, ckA sg a m cs es = false) (ho : ∀ cs eo, ckO sg a cs eo = false)
    (hi : ∀ cs E0 X, Cok sg cv n F cs E0 X → ∀ m tg e, (pOf a = true → isTupleE tg = true) → ckI sg a cs m e = true → PI X tg e (rdI m (pOf a) X.K cv (wx E0) (evI F a))) : Snd sg cv n F a :=
  ⟨fun cs E0 X c e h => Bool.noConfusion ((he _ _ _).symm.trans h), fun cs E0 X c e h => Bool.noConfusion ((he _ _ _).symm.trans h), fun cs E0 X c e h => Bool.noConfusion ((he _ _ _).symm.trans h), fun cs E0 X c m es h => Bool.noConfusion ((ha _ _ _).symm.trans h), hi, fun cs E0 X c x h => Bool.noConfusion ((ho cs x).symm.trans h)⟩
theorem md_pe {m : Bool} {a : E} (sa : Snd sg cv n F a) (c : Cok sg cv n F cs E0 X) {e : Expr} (h : ckE sg a (if m then .v else .b) cs e = true) : PE X e (rd (md m) X.K cv (wx E0) (evE F a)) := by
  cases m with
  | true => exact mo_v (sa.pe cs E0 X c e h)
  | false => exact sa.pb cs E0 X c e h
theorem md_pa {m : Bool} {f : Env → M D} {fa : Env → M (List D)} {W : WX} {e : Expr} {es : List Expr} (h : PE X e (rd (md m) X.K cv W f)) (ha : PA X es (rdA m X.K cv W fa)) (hs : noStar e = true) : PA X (e :: es) (rdA m X.K cv W (fCons f fa)) := by
  cases m with
  | true => exact pa_consD h ha (star_one hs)
  | false => exact pa_consB h ha (star_one hs)
theorem snd_ival {a : E} (sa : Snd sg cv n F a) : Snd sg cv n F (.ival a) :=
  snd_no (fun _ _ _ => rfl) (fun _ _ _ => rfl) (fun _ _ => rfl) fun cs E0 X c m tg e _ h => pi_ivalD (md_pe sa c h)
theorem pi_cast {X : Cx} {K : Frag} {W : WX} {m p : Bool} {tg e : Expr} {f g : Env → M (List D)} (h : PI X tg e (rdI m p K cv W f)) (q : f = g) : PI X tg e (rdI m p K cv W g) := q ▸ h
theorem snd_irng {as : E} (sa : Snd sg cv n F as) : Snd sg cv n F (.irng as) := by
  refine snd_no (fun _ _ _ => rfl) (fun _ _ _ => rfl) (fun _ _ => rfl) fun cs E0 X c m tg e _ h => ?_
  cases e with
  | Call fn es kws p =>
    cases fn with
    | Name x p2 =>
      cases kws with
      | cons _ _ => exact Bool.noConfusion (show false = true from h)
      | nil =>
        have h : (decide (x = "range") && glB cs x && decide (1 ≤ es.length ∧ es.length ≤ 3) && es.all noStar && ckA sg as false cs es) = true := h
        rw [Bool.and_eq_true, Bool.and_eq_true, Bool.and_eq_true, Bool.and_eq_true, decide_eq_true_eq, decide_eq_true_eq] at h
        obtain ⟨⟨⟨⟨rfl, h2⟩, h3⟩, h4⟩, h5⟩ := h
        obtain ⟨g1, g2⟩ := c.gl h2
        have fr : X.mg "range" = none := c.ws.fr _ (by decide)
        obtain ⟨pa, hl, hz⟩ := sa.pa cs E0 X c false es h5
        match es, h3, h4, pa, hl with
        | [a], _, h4, pa, hl => exact pi_rng1D g1 fr pa (by simpa using h4) hl
        | [a, b], _, h4, pa, hl =>
          have h4 : noStar a = true ∧ noStar b = true := by simpa using h4
          exact pi_rng2D g1 fr pa h4.1 h4.2 hl
        | [a, b, d], _, h4, pa, hl =>
          have h4 : noStar a = true ∧ noStar b = true ∧ noStar d = true := by simpa using h4
          exact pi_rng3D g1 fr pa h4.1 h4.2.1 h4.2.2 hl
        | [], h3, _, _, _ => simp at h3
        | _ :: _ :: _ :: _ :: _, h3, _, _, _ => simp at h3
    | _ => exact Bool.noConfusion (show false = true from h)
  | _ => exact Bool.noConfusion (show false = true from h)
theorem tuple_of {tg : Expr} (h : isTupleE tg = true) : ∃ es k p, tg = .Tuple es k p := by
  cases tg with
  | Tuple es k p => exact ⟨es, k, p, rfl⟩
  | _ => cases h
theorem snd_izip {a b : E} (sa : Snd sg cv n F a) (sb : Snd sg cv n F b) : Snd sg cv n F (.izip a b) := by
  refine snd_no (fun _ _ _ => rfl) (fun _ _ _ => rfl) (fun _ _ => rfl) fun cs E0 X c m tg e ht h => ?_
  obtain ⟨ts, k, tp, rfl⟩ := tuple_of (ht rfl)
  cases e with
  | Call fn es kws p =>
    cases fn with
    | Name x p2 =>
      match es, kws, h with
      | [y, z], [], h =>
        have h : (decide (x = "zip") && glB cs x && noStar y && noStar z && ckE sg a (if m then .v else .b) cs y && ckE sg b (if m then .v else .b) cs z) = true := h
        rw [Bool.and_eq_true, Bool.and_eq_true, Bool.and_eq_true, Bool.and_eq_true, Bool.and_eq_true, decide_eq_true_eq] at h
        obtain ⟨⟨⟨⟨⟨rfl, h2⟩, h3⟩, h4⟩, h5⟩, h6⟩ := h
        obtain ⟨g1, g2⟩ := c.gl h2
        have pa := md_pa (md_pe sa c h5) (md_pa (md_pe sb c h6) pa_nilD h4) h3
        refine pi_cast (pi_zipD g1 (c.ws.fr _ (by decide)) pa h3 h4) ?_
        funext ρ
        show bd (bd (evE F a ρ) fun d => bd (bd (evE F b ρ) fun d => rt [d]) fun ds => rt (d :: ds)) (fun ds => li (zipO ds)) = bd (evE F a ρ) fun x => bd (evE F b ρ) fun y => match items x, items y with
          | some xs, some ys => rt (zipL xs ys)
          | _, _ => none
        cases evE F a ρ with
        | none => rfl
        | some r =>
          cases r with
          | exc c => rfl
          | ok d =>
            cases evE F b ρ with
            | none => rfl
            | some r2 =>
              cases r2 with
              | exc c => rfl
              | ok d2 =>
                show li (zipO [d, d2]) = _
                simp only [zipO, bd_ok]
                cases items d <;> cases items d2 <;> rfl
      | [], kws, h => exact Bool.noConfusion (show false = true from h)
      | [_], kws, h => exact Bool.noConfusion (show false = true from h)
      | [_, _], _ :: _, h => exact Bool.noConfusion (show false = true from h)
      | _ :: _ :: _ :: _, kws, h => exact Bool.noConfusion (show false = true from h)
    | _ => exact Bool.noConfusion (show false = true from h)
  | _ => exact Bool.noConfusion (show false = true from h)
theorem snd_ienum {a : E} (sa : Snd sg cv n F a) : Snd sg cv n F (.ienum a) := by
  refine snd_no (fun _ _ _ => rfl) (fun _ _ _ => rfl) (fun _ _ => rfl) fun cs E0 X c m tg e ht h => ?_
  obtain ⟨ts, k, tp, rfl⟩ := tuple_of (ht rfl)
  cases e with
  | Call fn es kws p =>
    cases fn with
    | Name x p2 =>
      match es, kws, h with
      | [y], [], h =>
        have h : (decide (x = "enumerate") && glB cs x && noStar y && ckE sg a (if m then .v else .b) cs y) = true := h
        rw [Bool.and_eq_true, Bool.and_eq_true, Bool.and_eq_true, decide_eq_true_eq] at h
        obtain ⟨⟨⟨rfl, h2⟩, h3⟩, h5⟩ := h
        obtain ⟨g1, g2⟩ := c.gl h2
        have pa := md_pa (md_pe sa c h5) pa_nilD h3
        refine pi_cast (pi_enumD g1 (c.ws.fr _ (by decide)) pa h3) ?_
        funext ρ
        show bd (bd (evE F a ρ) fun d => rt [d]) (fun ds => li (enumO ds)) = bd (evE F a ρ) fun x => li ((items x).map (enumL 0))
        cases evE F a ρ with
        | none => rfl
        | some r => cases r <;> rfl
      | [], kws, h => exact Bool.noConfusion (show false = true from h)
      | [_], _ :: _, h => exact Bool.noConfusion (show false = true from h)
      | _ :: _ :: _, kws, h => exact Bool.noConfusion (show false = true from h)
    | _ => exact Bool.noConfusion (show false = true from h)
  | _ => exact Bool.noConfusion (show false = true from h)
/-! targets -/
theorem pg1_ok (c : Cok sg cv n F cs E0 X) {i : Nat} {e : Expr} (h : ckG1 cs i e = true) : PG X e (gName i) ∧ ∃ x p, e = .Name x p := by
  cases e with
  | Name x p =>
    have h : (decide (cs.N[i]? = some x) && locB cs x) = true := h
    rw [Bool.and_eq_true, decide_eq_true_eq] at h
    obtain ⟨h1, h2⟩ := h
    unfold locB at h2
    refine ⟨?_, x, p, rfl⟩
    split at h2
    · rename_i e
      exact pg_name c.nodX (by rw [c.N]; exact h1) (.inl (by rw [c.sc]; exact e)) (.inr (by rw [c.sc]; exact e))
    · rename_i e
      exact pg_name c.nodX (by rw [c.N]; exact h1) (.inr (by rw [c.sc]; exact e)) (.inl (by rw [c.fn]; exact h2))
    · cases h2
  | _ => exact Bool.noConfusion (show false = true from h)
theorem pgs_ok (c : Cok sg cv n F cs E0 X) : ∀ {is : List Nat} {es : List Expr}, ckGs cs is es = true → PGs X es (gAll is) ∧ (assignEach es X.env).length = is.length ∧ (assignEach es X.env).findIdx? (·.1) = none
  | [], [], _ => ⟨pgs_nil, rfl, rfl⟩
  | [], _ :: _, h => Bool.noConfusion (show false = true from h)
  | _ :: _, [], h => Bool.noConfusion (show false = true from h)
  | i :: is, e :: es, h => by
    have h : (ckG1 cs i e && ckGs cs is es) = true := h
    rw [Bool.and_eq_true] at h
    obtain ⟨h1, x, p, rfl⟩ := pg1_ok c h.1
    obtain ⟨q1, q2, q3⟩ := pgs_ok c h.2
    have ae : assignEach (.Name x p :: es) X.env = (false, assign (.Name x p) X.env) :: assignEach es X.env := by rfl
    refine ⟨pgs_cons h1 q1 (by rw [ae]; rfl), by rw [ae, List.length_cons, q2]; rfl, ?_⟩
    rw [ae, List.findIdx?_cons]
    simp [q3]
theorem pg_ok (c : Cok sg cv n F cs E0 X) {tg : Tg} {e : Expr} (h : ckG cs tg e = true) : PG X e (tgG X.K tg) := by
  cases tg with
  | one i => exact (pg1_ok c h).1
  | many is =>
    cases e with
    | Tuple es k p =>
      obtain ⟨q1, q2, q3⟩ := pgs_ok c (show ckGs cs is es = true from h)
      exact pg_tup c.calm q1 q2 q3
    | _ => exact Bool.noConfusion (show false = true from h)
theorem pts_yes {W : WX} {K : Frag} : PTs X [] (rdT K cv W fun _ => rt (.bl true)) := ⟨fun pins s σ H Q I q => pts_nil.run pins s σ H Q I (by
  obtain ⟨B, H0, ρ, r, rep, e, fin⟩ := q
  cases e
  obtain ⟨b, hb, q⟩ := fin
  cases hb
  exact q H (Same.refl H))⟩
/-- the pieces of a comprehension -/
structure LcOk (sg : Sg) (cv : Nat → Value) (n : Nat) (F : Nat → List D → M D) (X : Cx) (E0 : XK) (own : List Nat) (tg : Tg) (it d a : E) (elt t iter : Expr) (ifs : List Expr) (scope : Scope) : Prop where
  pi : PI X t iter (rdI false (pOf it) X.K cv (wx E0) (evI F it))
  ok : BlkOk X.N X.env.scope scope (ownP X.N own)
  ow : (ownP X.N own).map (·.2) = own
  pg : ∀ (s : Shared) (H : Hp) (C : Addr) (cl : List (Str × Addr)) (fp : List Addr), PG (X.blk s H scope (compEnvC scope cl C X.env) fp) t (tgG X.K tg)
  pt : ∀ (s : Shared) (H : Hp) (C : Addr) (cl : List (Str × Addr)) (fp : List Addr), PTs (X.blk s H scope (compEnvC scope cl C X.env) fp) ifs (rdT X.K cv WF (evE F d))
  pe : ∀ (s : Shared) (H : Hp) (C : Addr) (cl : List (Str × Addr)) (fp : List Addr), PE (X.blk s H scope (compEnvC scope cl C X.env) fp) elt (rd .v X.K cv WF (evE F a))
  fs : ∀ x, foldedSetIterable iter X.env x = pure x
  hp : pOf it = true → ∃ is, tg = .many is
  ix : ∀ i ∈ tg.ix, i ∈ own
theorem comp_ok {own : List Nat} {tg : Tg} {it d a : E} (si : Snd sg cv n F it) (sd : Snd sg cv n F d) (sa : Snd sg cv n F a) (c : Cok sg cv n F cs E0 X) {m : Mo} {e : Expr} (h : ckE sg (.comp own tg it d a) m cs e = true) :
    ∃ elt t iter ifs scope p, e = .ListComp elt [⟨t, iter, ifs, 0⟩] scope p ∧ LcOk sg cv n F X E0 own tg it d a elt t iter ifs scope := by
  cases e with
  | ListComp elt gs scope p =>
    match gs, h with
    | [], h => exact Bool.noConfusion (show false = true from h)
    | _ :: _ :: _, h => exact Bool.noConfusion (show false = true from h)
    | [g], h =>
      have h : (decide (g.is_async = 0) && blkC cs.N cs.sc scope (ownP cs.N own) && decide ((ownP cs.N own).map (·.2) = own) && ckG (cs.blk scope) tg g.target && decide (∀ i ∈ tg.ix, i ∈ own) && (!pOf it || isTupleE g.target) && notSet g.iter && ckI sg it cs false g.iter &&
        (if g.ifs.isEmpty then isCT d else decide (g.ifs.length = 1) && (g.ifs.all fun x => ckE sg d .t (cs.blk scope) x)) && ckE sg a .v (cs.blk scope) elt) = true := h
      obtain ⟨t, iter, ifs, as⟩ := g
      rw [Bool.and_eq_true, Bool.and_eq_true, Bool.and_eq_true, Bool.and_eq_true, Bool.and_eq_true, Bool.and_eq_true, Bool.and_eq_true, Bool.and_eq_true, Bool.and_eq_true, decide_eq_true_eq, decide_eq_true_eq, decide_eq_true_eq] at h
      obtain ⟨⟨⟨⟨⟨⟨⟨⟨⟨h0, h1⟩, h2⟩, h3⟩, h4⟩, h5⟩, h6⟩, h7⟩, h8⟩, h9⟩ := h
      obtain rfl : as = 0 := h0
      have hp : pOf it = true → isTupleE t = true := fun z => by rw [z] at h5; simpa using h5
      refine ⟨elt, t, iter, ifs, scope, p, rfl, si.pi cs E0 X c false t iter hp h7, ?_, ?_, fun s H C cl fp => pg_ok (c.blk s H scope cl C fp) h3, fun s H C cl fp => ?_, fun s H C cl fp => mo_v (sa.pe _ _ _ (c.blk s H scope cl C fp) elt h9), fold_of h6, fun z => ?_, h4⟩
      · rw [c.N, c.sc]; exact blkOk_by h1
      · rw [c.N]; exact h2
      · cases ifs with
        | nil =>
          have h8 : isCT d = true := h8
          cases d with
          | cst v =>
            cases v with
            | bl b => cases b with
              | true => exact pts_yes
              | false => cases h8
            | _ => cases h8
          | _ => cases h8
        | cons x ifs =>
          cases ifs with
          | nil =>
            have h8 : (decide (([x] : List Expr).length = 1) && ([x].all fun x => ckE sg d .t (cs.blk scope) x)) = true := h8
            rw [Bool.and_eq_true] at h8
            exact pts_one (sd.pt _ _ _ (c.blk s H scope cl C fp) x (by simpa using h8.2))
          | cons y r =>
            have h8 : (decide ((x :: y :: r).length = 1) && ((x :: y :: r).all fun x => ckE sg d .t (cs.blk scope) x)) = true := h8
            rw [Bool.and_eq_true] at h8
            simp at h8
      · obtain ⟨es, k, tp, rfl⟩ := tuple_of (hp z)
        cases tg with
        | one i => exact Bool.noConfusion (show false = true from h3)
        | many is => exact ⟨is, rfl⟩
  | _ => exact Bool.noConfusion (show false = true from h)
theorem snd_comp {own : List Nat} {tg : Tg} {it d a : E} (si : Snd sg cv n F it) (sd : Snd sg cv n F d) (sa : Snd sg cv n F a) : Snd sg cv n F (.comp own tg it d a) := by
  refine .of' (fun _ _ _ => rfl) (fun _ _ _ => rfl) (fun _ _ => rfl) fun cs E0 X c m e h => ?_
  obtain ⟨elt, t, iter, ifs, scope, p, rfl, l⟩ := comp_ok si sd sa c h
  have z := pe_lc (pos := p) c.calm c.nodX l.pi l.ok l.pg l.pt l.pe l.fs
  rw [l.ow] at z
  exact ⟨mo_n (pe_imp z (lc_read l.hp l.ix)), rfl⟩
theorem ifs_ok {cs : Cs} {E0 : XK} {X : Cx} {d : E} {ifs : List Expr} (sd : Snd sg cv n F d) (c : Cok sg cv n F cs E0 X) (h : (if ifs.isEmpty then isCT d else decide (ifs.length = 1) && (ifs.all fun x => ckE sg d .t cs x)) = true) : PTs X ifs (rdT X.K cv (wx E0) (evE F d)) := by
  cases ifs with
  | nil =>
    have h : isCT d = true := h
    cases d with
    | cst v =>
      cases v with
      | bl b => cases b with
        | true => exact pts_yes
        | false => cases h
      | _ => cases h
    | _ => cases h
  | cons x ifs =>
    cases ifs with
    | nil =>
      have h : (decide (([x] : List Expr).length = 1) && ([x].all fun x => ckE sg d .t cs x)) = true := h
      rw [Bool.and_eq_true] at h
      exact pts_one (sd.pt _ _ _ c x (by simpa using h.2))
    | cons y r =>
      have h : (decide ((x :: y :: r).length = 1) && ((x :: y :: r).all fun x => ckE sg d .t cs x)) = true := h
      rw [Bool.and_eq_true] at h
      simp at h
theorem many_of {cs : Cs} {tg : Tg} {t : Expr} {p : Bool} (h3 : ckG cs tg t = true) (hp : p = true → isTupleE t = true) (z : p = true) : ∃ is, tg = .many is := by
  obtain ⟨es, k, tp, rfl⟩ := tuple_of (hp z)
  cases tg with
  | one i => exact Bool.noConfusion (show false = true from h3)
  | many is => exact ⟨is, rfl⟩
theorem snd_comp2 {own own2 : List Nat} {tg tg2 : Tg} {it d it2 d2 a : E} (si : Snd sg cv n F it) (sd : Snd sg cv n F d) (si2 : Snd sg cv n F it2) (sd2 : Snd sg cv n F d2) (sa : Snd sg cv n F a) : Snd sg cv n F (.comp2 own own2 tg it d tg2 it2 d2 a) := by
  refine .of' (fun _ _ _ => rfl) (fun _ _ _ => rfl) (fun _ _ => rfl) fun cs E0 X c m e h => ?_
  cases e with
  | ListComp elt gs scope p =>
    match gs, h with
    | [], h => exact Bool.noConfusion (show false = true from h)
    | [_], h => exact Bool.noConfusion (show false = true from h)
    | _ :: _ :: _ :: _, h => exact Bool.noConfusion (show false = true from h)
    | [g, g2], h =>
      have h : (decide (g.is_async = 0) && blkC cs.N cs.sc scope (ownP cs.N own) && decide ((ownP cs.N own).map (·.2) = own) && ckG (cs.blk scope) tg g.target && decide (∀ i ∈ tg.ix, i ∈ own) && (!pOf it || isTupleE g.target) && notSet g.iter && ckI sg it cs false g.iter &&
        (if g.ifs.isEmpty then isCT d else decide (g.ifs.length = 1) && (g.ifs.all fun x => ckE sg d .t (cs.blk scope) x)) && ckE sg a .v (cs.blk scope) elt &&
        (decide (g2.is_async = 0) && decide (∀ i ∈ own2, i ∈ own) && ckG (cs.blk scope) tg2 g2.target && decide (∀ i ∈ tg2.ix, i ∈ own2) && (!pOf it2 || isTupleE g2.target) && notSet g2.iter && ckI sg it2 (cs.blk scope) true g2.iter &&
        (if g2.ifs.isEmpty then isCT d2 else decide (g2.ifs.length = 1) && (g2.ifs.all fun x => ckE sg d2 .t (cs.blk scope) x)))) = true := h
      obtain ⟨t, iter, ifs, as⟩ := g
      obtain ⟨t2, iter2, ifs2, as2⟩ := g2
      simp only [Bool.and_eq_true] at h
      obtain ⟨⟨⟨⟨⟨⟨⟨⟨⟨⟨h0, h1⟩, h2⟩, h3⟩, h4⟩, h5⟩, h6⟩, h7⟩, h8⟩, h9⟩, ⟨⟨⟨⟨⟨⟨⟨k0, k1⟩, k2⟩, k3⟩, k4⟩, k5⟩, k6⟩, k7⟩⟩ := h
      have h0 := of_decide_eq_true h0
      have h2 := of_decide_eq_true h2
      have h4 := of_decide_eq_true h4
      have k0 := of_decide_eq_true k0
      have k1 := of_decide_eq_true k1
      have k3 := of_decide_eq_true k3
      obtain rfl : as = 0 := h0
      obtain rfl : as2 = 0 := k0
      have hp : pOf it = true → isTupleE t = true := fun z => by rw [z] at h5; simpa using h5
      have hp2 : pOf it2 = true → isTupleE t2 = true := fun z => by rw [z] at k4; simpa using k4
      have ow : (ownP X.N own).map (·.2) = own := by rw [c.N]; exact h2
      have z := pe_lc2 (pos := p) (vs1 := own2) (tg1 := t2) (iter1 := iter2) (ifs1 := ifs2) (ifs := ifs) (elt := elt) (scope := scope) (g := tgG X.K tg) (tt := rdT X.K cv WF (evE F d)) (wi1 := rdI true (pOf it2) X.K cv WF (evI F it2)) (g1 := tgG X.K tg2) (tt1 := rdT X.K cv WF (evE F d2)) (te := rd .v X.K cv WF (evE F a)) c.calm c.nodX (si.pi cs E0 X c false t iter hp h7) (own := ownP X.N own) (by rw [c.N, c.sc]; exact blkOk_by h1) (by rw [ow]; exact k1)
        (fun s H C cl fp => pg_ok (c.blk s H scope cl C fp) h3) (fun s H C cl fp => ifs_ok sd (c.blk s H scope cl C fp) h8)
        (fun s H C cl fp => si2.pi _ _ _ (c.blk s H scope cl C fp) true t2 iter2 hp2 k6) (fun s H C cl fp => pg_ok (c.blk s H scope cl C fp) k2) (fun s H C cl fp => ifs_ok sd2 (c.blk s H scope cl C fp) k7)
        (fun s H C cl fp => mo_v (sa.pe _ _ _ (c.blk s H scope cl C fp) elt h9)) (fold_of h6) (fun env x => fold_of k5 x)
      rw [ow] at z
      exact ⟨mo_n (pe_imp z (lc2_read (many_of h3 hp) h4 (many_of k2 hp2) k3 k1)), rfl⟩
  | _ => exact Bool.noConfusion (show false = true from h)
theorem snd_compK {own : List Nat} {tg : Tg} {i : Nat} {d a : E} (sd : Snd sg cv n F d) (sa : Snd sg cv n F a) : Snd sg cv n F (.compK own tg i d a) := by
  refine .of' (fun _ _ _ => rfl) (fun _ _ _ => rfl) (fun _ _ => rfl) fun cs E0 X c m e h => ?_
  cases e with
  | ListComp elt gs scope p =>
    match gs, h with
    | [], h => exact Bool.noConfusion (show false = true from h)
    | _ :: _ :: _, h => exact Bool.noConfusion (show false = true from h)
    | [g], h =>
      have h : (decide (g.is_async = 0) && blkC cs.N cs.sc scope (ownP cs.N own) && decide ((ownP cs.N own).map (·.2) = own) && ckG (cs.blk scope) tg g.target && decide (∀ i ∈ tg.ix, i ∈ own) && nameI cs i g.iter &&
        (if g.ifs.isEmpty then isCT d else decide (g.ifs.length = 1) && (g.ifs.all fun x => ckE sg d .t (cs.blk scope) x)) && ckE sg a .v (cs.blk scope) elt) = true := h
      obtain ⟨t, iter, ifs, as⟩ := g
      simp only [Bool.and_eq_true] at h
      obtain ⟨⟨⟨⟨⟨⟨⟨h0, h1⟩, h2⟩, h3⟩, h4⟩, h5⟩, h8⟩, h9⟩ := h
      have h0 := of_decide_eq_true h0
      have h2 := of_decide_eq_true h2
      have h4 := of_decide_eq_true h4
      obtain rfl : as = 0 := h0
      have ow : (ownP X.N own).map (·.2) = own := by rw [c.N]; exact h2
      cases iter with
      | Name x px =>
        obtain ⟨n1, n2, n3, n4⟩ := c.name (show nameOk cs i x = true from h5)
        have z := pe_lock (pe_lc (pos := p) (tg := t) (iter := .Name x px) (ifs := ifs) (elt := elt) (scope := scope) (g := tgG X.K tg) (tt := rdT X.K cv WF (evE F d)) (te := rd .v X.K cv WF (evE F a)) c.calm c.nodX (pi_keys (tg := t) (pe_var n1 n2 n3 n4)) (own := ownP X.N own) (by rw [c.N, c.sc]; exact blkOk_by h1)
          (fun s H C cl fp => pg_ok (c.blk s H scope cl C fp) h3) (fun s H C cl fp => ifs_ok sd (c.blk s H scope cl C fp) h8) (fun s H C cl fp => mo_v (sa.pe _ _ _ (c.blk s H scope cl C fp) elt h9)) (fold_of rfl))
        rw [ow] at z
        exact ⟨mo_n (pe_imp z (lcK_read h4)), rfl⟩
      | _ => exact Bool.noConfusion (show false = true from h5)
  | _ => exact Bool.noConfusion (show false = true from h)
theorem snd_all (a : E) : Snd sg cv n F a := by
  induction a with
  | var i => exact snd_var i
  | bor i => exact snd_bor i
  | cst d => exact snd_cst d
  | bin op a b h1 h2 => exact snd_bin h1 h2
  | neg a h => exact snd_neg h
  | not_ a h => exact snd_not h
  | and_ a b h1 h2 => exact snd_and h1 h2
  | or_ a b h1 h2 => exact snd_or h1 h2
  | cmp op a b h1 h2 => exact snd_cmp h1 h2
  | chn p q a b c h1 h2 h3 => exact snd_chn h1 h2 h3
  | ite c a b h1 h2 h3 => exact snd_ite h1 h2 h3
  | call f as h => exact snd_call h
  | blt b as h => exact snd_blt h
  | mth m o as h1 h2 => exact snd_mth h1 h2
  | vw k a h => exact snd_vw h
  | idx a i h1 h2 => exact snd_idx h1 h2
  | isi t a h => exact snd_isi h
  | get o a b h1 h2 h3 => exact snd_get h1 h2 h3
  | slc a lo hi h1 h2 h3 => exact snd_slc h1 h2 h3
  | tup as h => exact snd_tup h
  | lst as h => exact snd_lst h
  | dct => exact snd_dct
  | comp own tg it c e h1 h2 h3 => exact snd_comp h1 h2 h3
  | comp2 own own2 tg it c tg2 it2 c2 e h1 h2 h3 h4 h5 => exact snd_comp2 h1 h2 h3 h4 h5
  | compK own tg i c e h1 h2 => exact snd_compK h1 h2
  | nil => exact snd_nil
  | cons a as h1 h2 => exact snd_cons h1 h2
  | ival e h => exact snd_ival h
  | irng as h => exact snd_irng h
  | izip a b h1 h2 => exact snd_izip h1 h2
  | ienum a h => exact snd_ienum h
end
end Mn
end
section
set_option Elab.async false
set_option linter.all false
set_option maxRecDepth 100000
set_option maxHeartbeats 4000000
set_option autoImplicit false
/-! D21: the checker of statements. -/
namespace Mn
open PySem PySem.Spec L2
def notComp : Expr → Bool
  | .ListComp _ _ _ _ => false
  | .SetComp _ _ _ _ => false
  | .DictComp _ _ _ _ _ => false
  | _ => true
def notTup : Expr → Bool
  | .Tuple _ _ _ => false
  | _ => true
def isLoc (cs : Cs) (x : Str) : Bool := match cs.sc.names.lookup x with
  | some .local => true
  | _ => false
def isFn (cs : Cs) : Bool := match cs.sc.kind with
  | .function => true
  | _ => false
/-- the new list goes straight to the name -/
def swT (cs : Cs) (x : Str) (p : Pos) : Expr → Bool
  | .ListComp _ _ scope q => isFn cs && isLoc cs x && (p.line == q.line) && !(scope.names.any fun (n, k) => n == x && (k == .local || k == .cell))
  | _ => false
/-- .. it does not -/
def swN (cs : Cs) (x : Str) (p : Pos) : Expr → Bool
  | .ListComp _ _ scope q => isFn cs && !(isLoc cs x && (p.line == q.line) && !(scope.names.any fun (n, k) => n == x && (k == .local || k == .cell)))
  | .SetComp _ _ _ _ => false
  | .DictComp _ _ _ _ _ => false
  | _ => true
section
variable (sg : Sg)
def ckIs (cs : Cs) (i : Nat) : List Nat → List Expr → Bool
  | [], [] => true
  | c :: cl, .Call (.Name f _) [.Name n _, .Name y _] [] _ :: es => decide (f = "isinstance") && glB cs f && nameOk cs i n && decide (sg.exs.lookup c = some y) && glB cs y && ckIs cs i cl es
  | _, _ => false
def ckHb (cs : Cs) (i k : Nat) : Hb → Expr → Bool
  | .lit cl, .List es _ => ckIs sg cs i cl es
  | .var, .Name y _ => nameOk cs k y
  | .add a b, .BinOp x .Add y _ => ckHb cs i k a x && ckHb cs i k b y
  | _, _ => false
def ckHs (cs : Cs) (i k : Nat) : List Hb → Hb → List Stmt → Bool
  | [], r, [.Return (some (.Call (.Attribute o m ap) [.Constant (.bool true) _ _] [] cp)) _] => ckHb sg cs i k r o && decide (m = "index") && noSuper o && (ap.endLine == cp.line)
  | h :: hs, r, .Assign [.Name y p] v _ :: st => ckG1 cs k (.Name y p) && ckHb sg cs i k h v && notComp v && ckHs cs i k hs r st
  | _, _, _ => false
/-- the classes that are tested -/
def hbC : Hb → List Nat
  | .lit cl => cl
  | .var => []
  | .add a b => hbC a ++ hbC b
def hsC (hs : List Hb) (r : Hb) : List Nat := hs.flatMap hbC ++ hbC r
end
def isCompE : E → Bool
  | .comp .. => true
  | _ => false
section
variable (sg : Sg)
mutual
def ckL : S → Cs → List Stmt → Bool
  | .skip, _, [] => true
  | .seq s t, cs, st :: r => ck1 s cs st && ckL t cs r
  | _, _, _ => false
def ck1 : S → Cs → Stmt → Bool
  | .skip, _, .Pass _ => true
  | .skip, _, .Expr (.Constant (.str _) _ _) _ => true
  | .asg i e, cs, .Assign [.Name x p] v _ => ckG1 cs i (.Name x p) && ckE sg e .v cs v && (swN cs x p v || (swT cs x p v && isCompE e))
  | .unp is e, cs, .Assign [.Tuple es _ _] v _ => ckGs cs is es && ckE sg e .v cs v && notTup v && notComp v
  | .par i j a b, cs, .Assign [.Tuple [.Name x p, .Name y q] _ _] (.Tuple [u, v] _ _) _ => ckG1 cs i (.Name x p) && ckG1 cs j (.Name y q) && decide (i ≠ j) && noStar u && noStar v && isFn cs && ckE sg a .v cs u && ckE sg b .v cs v &&
      ((isLoc cs x && isLoc cs y && (p.line == q.line) && decide (x ≠ y) && !(foldedForSure 8 u && foldedForSure 8 v) && !(constantsAlone 8 u && constantsAlone 8 v)) || !(isLoc cs x && isLoc cs y) || (isLoc cs x && isLoc cs y && (p.line == q.line) && decide (x ≠ y) && foldedForSure 8 u && foldedForSure 8 v))
  | .app i e, cs, .Expr (.Call (.Attribute (.Name x p) m ap) [v] [] cp) _ => nameOk cs i x && decide (m = "append") && (ap.endLine == cp.line) && noStar v && ckE sg e .v cs v
  | .ext i e, cs, .Expr (.Call (.Attribute (.Name x p) m ap) [v] [] cp) _ => nameOk cs i x && decide (m = "extend") && (ap.endLine == cp.line) && noStar v && ckE sg e .v cs v
  | .pop i, cs, .Expr (.Call (.Attribute (.Name x p) m ap) [] [] cp) _ => nameOk cs i x && decide (m = "pop") && (ap.endLine == cp.line)
  | .put i k v, cs, .Assign [.Subscript (.Name x p) ix _] w _ => nameOk cs i x && ckE sg k .v cs ix && ckE sg v .v cs w && notComp w
  | .exp e, cs, .Expr v _ => ckE sg e .v cs v && notComp v
  | .ret e, cs, .Return (some v) _ => ckE sg e .v cs v
  | .retN, _, .Return none _ => true
  | .ife c t f, cs, .If x a b _ => ckE sg c .t cs x && ckL t cs a && ckL f cs b
  | .whl c b, cs, .While x a [] _ => ckE sg c .t cs x && ckL b cs a
  | .for_ tg it b, cs, .For t x a [] _ => ckG cs tg t && (!pOf it || isTupleE t) && notSet x && ckI sg it cs true x && ckL b cs a
  | .rais c, cs, .Raise (some (.Call (.Name x _) [.Constant (.str _) _ _] [] _)) none _ => decide (sg.exs.lookup c = some x) && glB cs x
  | .brk, _, .Break _ => true
  | .cnt, _, .Continue _ => true
  | .tryX b i k hs r, cs, .Try body [.ExceptHandler (some (.Name x _)) (some n) (b0 :: suite) _] [] [] _ => sg.tr && decide (x = "PortError") && glB cs x && decide (cs.N[i]? = some n) && isLoc cs n && decide (i ≠ k) && decide (k < cs.N.length) && ckL b cs body && ckHs sg cs i k hs r (b0 :: suite)
  | _, _, _ => false
end
end
structure Cks (sg : Sg) (cv : Nat → Value) (n : Nat) (F : Nat → List D → M D) (cs : Cs) (E0 : XK) (X : Cx) : Prop extends Cok sg cv n F cs E0 X where
  own : PassesOwn (model X.prog X.w) X.A X.env X.xe
  stk : X.stack = X.env :: X.outer
  frm : X.env.frame = some X.env.locals
section
variable {sg : Sg} {cv : Nat → Value} {n : Nat} {F : Nat → List D → M D} {cs : Cs} {E0 : XK} {X : Cx}
theorem isFn_of (h : isFn cs = true) : cs.sc.kind = .function := by
  unfold isFn at h
  split at h
  · assumption
  · cases h
theorem isLoc_of {x : Str} (h : isLoc cs x = true) : cs.sc.names.lookup x = some .local := by
  unfold isLoc at h
  split at h
  · assumption
  · cases h
theorem isLoc_not {x : Str} (h : isLoc cs x = false) : (cs.sc.names.lookup x == some .local) = false := by
  unfold isLoc at h
  split at h
  · cases h
  · rename_i z
    cases e : cs.sc.names.lookup x with
    | none => rfl
    | some k =>
      cases k <;> first
        | rfl
        | exact absurd e z
theorem blockKind_of (c : Cok sg cv n F cs E0 X) (h : isFn cs = true) : X.env.blockKind = .function := by
  have hk : X.env.scope.kind = .function := by rw [c.sc]; exact isFn_of h
  unfold Env.blockKind
  rw [hk]
  rfl
theorem swN_ok (c : Cok sg cv n F cs E0 X) {x : Str} {p : Pos} {v : Expr} {l : Nat} (h : swN cs x p v = true) : swapsWith v (some (.Name x p)) l X.env = pure false := by
  cases v with
  | ListComp elt gs scope q =>
    have h : (isFn cs && !(isLoc cs x && (p.line == q.line) && !(scope.names.any fun (n, k) => n == x && (k == .local || k == .cell)))) = true := h
    rw [Bool.and_eq_true] at h
    have hb := blockKind_of c h.1
    have hk : X.env.kindOf x = cs.sc.names.lookup x := by show X.env.scope.names.lookup x = _; rw [c.sc]
    unfold swapsWith
    simp only [hb, hk, Expr.pos]
    have e : ((ScopeKind.function == ScopeKind.function) && (cs.sc.names.lookup x == some .local) && (p.line == q.line) && !(scope.names.any fun (n, k) => n == x && (k == .local || k == .cell))) = false := by
      have h2 := h.2
      rw [Bool.not_eq_true'] at h2
      cases hl : isLoc cs x with
      | false => rw [isLoc_not hl]; simp
      | true =>
        rw [hl] at h2
        rw [isLoc_of hl]
        simpa using h2
    exact congrArg pure e
  | SetComp _ _ _ _ => cases h
  | DictComp _ _ _ _ _ => cases h
  | _ => rfl
theorem swT_ok (c : Cok sg cv n F cs E0 X) {x : Str} {p q : Pos} {elt : Expr} {gs : List Comprehension} {scope : Scope} {l : Nat} (h : swT cs x p (.ListComp elt gs scope q) = true) : swapsWith (.ListComp elt gs scope q) (some (.Name x p)) l X.env = pure true ∧ X.env.scope.names.lookup x = some .local := by
  have h : (isFn cs && isLoc cs x && (p.line == q.line) && !(scope.names.any fun (n, k) => n == x && (k == .local || k == .cell))) = true := h
  rw [Bool.and_eq_true, Bool.and_eq_true, Bool.and_eq_true] at h
  obtain ⟨⟨⟨h1, h2⟩, h3⟩, h4⟩ := h
  have hl : X.env.scope.names.lookup x = some .local := by rw [c.sc]; exact isLoc_of h2
  exact ⟨sw_true (by rw [c.sc]; exact isFn_of h1) hl h3 (by simpa using h4), hl⟩
theorem notComp_sw {v : Expr} {t : Option Expr} {l : Nat} {env : PySem.Env} (h : notComp v = true) : swapsWith v t l env = pure false := by
  cases v <;> first
    | (cases h; done)
    | rfl
theorem notTup_sw {v t : Expr} {env : PySem.Env} (h : notTup v = true) : swappedStores [t] v env = pure none := by
  cases v <;> first
    | (cases h; done)
    | (cases t <;> rfl)
/-- soundness of a statement, of a list of them -/
structure SndS (sg : Sg) (cv : Nat → Value) (n : Nat) (F : Nat → List D → M D) (s : S) : Prop where
  one : ∀ cs E0 X, Cks sg cv n F cs E0 X → ∀ st, ck1 sg s cs st = true → PS X st (rdS X.K cv (wx E0) (evS F s))
  lst : ∀ cs E0 X, Cks sg cv n F cs E0 X → ∀ sts, ckL sg s cs sts = true → PSs X sts (rdS X.K cv (wx E0) (evS F s))
theorem SndS.of {s : S} (hl : ∀ cs sts, ckL sg s cs sts = false) (h : ∀ cs E0 X, Cks sg cv n F cs E0 X → ∀ st, ck1 sg s cs st = true → PS X st (rdS X.K cv (wx E0) (evS F s))) : SndS sg cv n F s :=
  ⟨h, fun cs E0 X c sts z => Bool.noConfusion ((hl cs sts).symm.trans z)⟩
theorem ss_skip : SndS sg cv n F .skip := by
  refine ⟨fun cs E0 X c st h => ?_, fun cs E0 X c sts h => ?_⟩
  · cases st with
    | Pass p => exact ps_imp ps_pass s_skip
    | Expr v p =>
      cases v with
      | Constant k a b =>
        cases k with
        | str x => exact ps_imp ps_doc s_skip
        | _ => exact Bool.noConfusion (show false = true from h)
      | _ => exact Bool.noConfusion (show false = true from h)
    | _ => exact Bool.noConfusion (show false = true from h)
  · cases sts with
    | nil => exact pss_imp pss_nil s_skip
    | cons _ _ => exact Bool.noConfusion (show false = true from h)
theorem ss_seq {s t : S} (h1 : SndS sg cv n F s) (h2 : SndS sg cv n F t) : SndS sg cv n F (.seq s t) := by
  refine ⟨fun cs E0 X c st h => Bool.noConfusion (show false = true from h), fun cs E0 X c sts h => ?_⟩
  cases sts with
  | nil => exact Bool.noConfusion (show false = true from h)
  | cons st r =>
    have h : (ck1 sg s cs st && ckL sg t cs r) = true := h
    rw [Bool.and_eq_true] at h
    exact pss_imp (pss_cons (h1.one cs E0 X c st h.1) (h2.lst cs E0 X c r h.2)) s_seq
theorem mo_md (e : E) : mo e = if fresh e then .n else .v := rfl
theorem g1_inv {i : Nat} {x : Str} {p : Pos} (c : Cok sg cv n F cs E0 X) (h : ckG1 cs i (.Name x p) = true) : X.N[i]? = some x ∧ Loc X.env.scope x ∧ (X.fn x = true ∨ X.env.scope.names.lookup x = some .local) := by
  have h : (decide (cs.N[i]? = some x) && locB cs x) = true := h
  rw [Bool.and_eq_true, decide_eq_true_eq] at h
  obtain ⟨h1, h2⟩ := h
  unfold locB at h2
  refine ⟨by rw [c.N]; exact h1, ?_⟩
  split at h2
  · rename_i e
    exact ⟨.inl (by rw [c.sc]; exact e), .inr (by rw [c.sc]; exact e)⟩
  · rename_i e
    exact ⟨.inr (by rw [c.sc]; exact e), .inl (by rw [c.fn]; exact h2)⟩
  · cases h2
theorem ss_asg {i : Nat} {e : E} : SndS sg cv n F (.asg i e) := by
  refine .of (fun _ _ => rfl) fun cs E0 X c st h => ?_
  cases st with
  | Assign ts v sp =>
    match ts, h with
    | [.Name x p], h =>
      have h : (ckG1 cs i (.Name x p) && ckE sg e .v cs v && (swN cs x p v || (swT cs x p v && isCompE e))) = true := h
      rw [Bool.and_eq_true, Bool.and_eq_true, Bool.or_eq_true] at h
      obtain ⟨⟨h1, h2⟩, h3⟩ := h
      obtain ⟨g1, g2, g3⟩ := g1_inv c.toCok h1
      rcases h3 with h3 | h3
      · exact ps_imp (ps_set c.nodX g1 g2 ((snd_all e).pe cs E0 X c.toCok v h2) (swN_ok c.toCok h3) g3) (s_asgD (mo_md e))
      · rw [Bool.and_eq_true] at h3
        cases e with
        | comp own tg it d a =>
          obtain ⟨elt, t, iter, ifs, scope, p', rfl, l⟩ := comp_ok (snd_all it) (snd_all d) (snd_all a) c.toCok h2
          obtain ⟨w1, w2⟩ := swT_ok (l := sp.line) c.toCok h3.1
          have z := ps_setLc (spos := sp) c.calm c.nodX g1 w2 w1 l.pi l.ok l.pg l.pt l.pe l.fs
          rw [l.ow] at z
          refine ps_imp z fun D σ H q => ?_
          have q := s_asgD (K := X.K) (cv := cv) (W := wx E0) (fe := evE F (.comp own tg it d a)) (i := i) (vs := vars (.comp own tg it d a)) (b := true) (m := .n) rfl D σ H q
          exact lc_read l.hp l.ix σ H _ q
        | _ => cases h3.2
    | [], h => exact Bool.noConfusion (show false = true from h)
    | t :: _ :: _, h => cases t <;> exact Bool.noConfusion (show false = true from h)
    | [.BoolOp ..], h | [.NamedExpr ..], h | [.BinOp ..], h | [.UnaryOp ..], h | [.Lambda ..], h | [.IfExp ..], h | [.Dict ..], h | [.Set ..], h | [.ListComp ..], h | [.SetComp ..], h | [.DictComp ..], h | [.GeneratorExp ..], h | [.Await ..], h | [.Yield ..], h | [.YieldFrom ..], h | [.Compare ..], h | [.Call ..], h | [.FormattedValue ..], h | [.JoinedStr ..], h | [.Constant ..], h | [.Attribute ..], h | [.Subscript ..], h | [.Starred ..], h | [.List ..], h | [.Tuple ..], h | [.Slice ..], h =>
      exact Bool.noConfusion (show false = true from h)
  | _ => exact Bool.noConfusion (show false = true from h)
end
end Mn
end
section
set_option Elab.async false
set_option linter.all false
set_option maxRecDepth 100000
set_option maxHeartbeats 4000000
set_option autoImplicit false
/-! D33: except suites: isinstance of the caught error. -/
namespace Mn
open PySem PySem.Spec L2
section
variable {X : Cx} {a D : Addr} {oe : Obj} {pn : List (Addr × Obj)} {i k : Nat} {n : Str}
/-- isinstance(e, C) -/
theorem pe_isx {C : Addr} {y : Str} {p1 p2 p3 pos : Pos} {b : Bool} (hC : ExcC X.K D) (hz : Zc (.ref D) none oe) (hf : ∃ vs, oe.data = .fields vs) (hi : X.N[i]? = some n) (hv : Vis X.env.scope n) (d1 : (n == ("__debug__" : Str)) = false) (d2 : (n == ("__classdict__" : Str)) = false)
    (hg : Gl X "isinstance") (hm : X.mg "isinstance" = none) (hgy : Gl X y) (hmy : X.mg y = some (.ref C)) (dy : (y == ("__debug__" : Str)) = false) (hk : PySem.W.kitOne X.K (.ref D) (.ref C) = some b) :
    PE (X.suite a ((a, oe) :: pn)) (.Call (.Name "isinstance" p1) [.Name n p2, .Name y p3] [] pos) (fun σ H Q => σ[i]? = some (some (.ref a)) ∧ Q (.bl b) H) := by
  have h1 : PE (X.suite a ((a, oe) :: pn)) (.Name n p2) (tVar i) := pe_var (X := X.suite a ((a, oe) :: pn)) hi hv d1 d2
  have h2 : PE (X.suite a ((a, oe) :: pn)) (.Name y p3) (tC (.ref C)) := pe_glob (X := X.suite a ((a, oe) :: pn)) hgy hmy rfl dy
  refine pe_imp (pe_callB (call_isE hC hz hf) hg hm (by decide +kernel) (pa_cons h1 (pa_cons h2 pa_nil (star_one rfl)) (star_one rfl)) (by decide) (by decide) (star_one rfl) (star_any (es := [.Name y p3]) rfl)) ?_
  rintro σ H Q ⟨e, q⟩
  exact ⟨.ref a, e, .ref C, .ref C, b, rfl, fun u r => r, hk, q⟩
end
section
variable {sg : Sg} {cv : Nat → Value} {nn : Nat} {F : Nat → List D → M D} {cs : Cs} {E0 : XK} {X : Cx} {a : Addr} {oe : Obj} {pn : List (Addr × Obj)} {i k c : Nat} {xc : Str}
/-- the state within the suite -/
def CondH (i k : Nat) (a : Addr) (c : Nat) (cur : Option (List Nat)) (σ : St) (H : Hp) : Prop := σ[i]? = some (some (.ref a)) ∧ match cur with
  | none => True
  | some l => ∃ p, σ[k]? = some (some (.ref p)) ∧ H p = some (.lst (l.map fun j => V.bl (decide (j = c))))
theorem CondH.ext {cur : Option (List Nat)} {σ : St} {H H' : Hp} (h : CondH i k a c cur σ H) (s : Same H H') : CondH i k a c cur σ H' := by
  refine ⟨h.1, ?_⟩
  cases cur with
  | none => trivial
  | some l =>
    obtain ⟨p, h1, h2⟩ := h.2
    exact ⟨p, h1, s _ _ h2⟩
theorem isx_ok (ck : Cok sg cv nn F cs E0 X) (xf : XcF sg cv X.K X.mg) (hx : sg.exs.lookup c = some xc) (hz : Zc (cv c) none oe) (hf : ∃ vs, oe.data = .fields vs) : ∀ (cl : List Nat) (es : List Expr), ckIs sg cs i cl es = true → PA (X.suite a ((a, oe) :: pn)) es (fun σ H Q => σ[i]? = some (some (.ref a)) ∧ Q (cl.map fun j => V.bl (decide (j = c))) H)
  | [], [], _ => pa_imp pa_nil fun σ H Q h => h.2
  | [], _ :: _, h => Bool.noConfusion (show false = true from h)
  | _ :: _, [], h => Bool.noConfusion (show false = true from h)
  | j :: cl, e :: es, h => by
    have inv : ∃ f p1 n p2 y p3 pos, e = .Call (.Name f p1) [.Name n p2, .Name y p3] [] pos ∧ (decide (f = "isinstance") && glB cs f && nameOk cs i n && decide (sg.exs.lookup j = some y) && glB cs y && ckIs sg cs i cl es) = true := by
      unfold ckIs at h
      split at h
      · rename_i z; cases z
      · rename_i z1 z2
        cases z1
        cases z2
        exact ⟨_, _, _, _, _, _, _, rfl, h⟩
      · cases h
    clear h
    obtain ⟨f, p1, n, p2, y, p3, pos, rfl, h⟩ := inv
    rw [Bool.and_eq_true, Bool.and_eq_true, Bool.and_eq_true, Bool.and_eq_true, Bool.and_eq_true, decide_eq_true_eq, decide_eq_true_eq] at h
    obtain ⟨⟨⟨⟨⟨rfl, h2⟩, h3⟩, h4⟩, h5⟩, h6⟩ := h
    obtain ⟨g1, g2⟩ := ck.gl h2
    obtain ⟨g3, g4⟩ := ck.gl h5
    obtain ⟨n1, n2, n3, n4⟩ := ck.name h3
    obtain ⟨C, e1, e2, e3⟩ := xf.c c xc hx
    obtain ⟨C2, f1, f2, f3⟩ := xf.c j y h4
    have hk := xf.kit c j xc y hx h4
    rw [e1, f1] at hk
    rw [e1] at hz
    have ih := isx_ok ck xf hx (by rw [e1]; exact hz) hf cl es h6
    have hp := pe_isx (a := a) (pn := pn) (p1 := p1) (p2 := p2) (p3 := p3) (pos := pos) e3 hz hf n1 n2 n3 n4 g1 (ck.ws.fr "isinstance" (by decide)) g3 f2 g4 hk
    refine pa_imp (pa_cons hp ih (star_one rfl)) ?_
    rintro σ H Q ⟨q1, q2⟩
    exact ⟨q1, q1, q2⟩
theorem hb_ok (ck : Cok sg cv nn F cs E0 X) (xf : XcF sg cv X.K X.mg) (hx : sg.exs.lookup c = some xc) (hz : Zc (cv c) none oe) (hf : ∃ vs, oe.data = .fields vs) (cur : Option (List Nat)) : ∀ (h : Hb) (l : List Nat) (e : Expr), hbV cur h = some l → l.length ≤ 1000 → ckHb sg cs i k h e = true → PE (X.suite a ((a, oe) :: pn)) e (fun σ H Q => CondH i k a c cur σ H ∧ ∀ p H', Same H H' → H' p = some (.lst (l.map fun j => V.bl (decide (j = c)))) → Q (.ref p) H')
  | .lit cl, l, e, hv, hl, h => by
    cases e with
    | List es pos =>
      cases hv
      refine pe_imp (pe_lst (isx_ok ck xf hx hz hf cl es h)) ?_
      rintro σ H Q ⟨q1, q2⟩
      refine ⟨q1.1, by rw [List.length_map]; exact Nat.le_trans hl (by decide), fun p hp => q2 p _ (same_upd hp) upd_same⟩
    | _ => exact Bool.noConfusion (show false = true from h)
  | .var, l, e, hv, hl, h => by
    cases e with
    | Name y pos =>
      obtain ⟨n1, n2, n3, n4⟩ := ck.name h
      cases hv
      refine pe_imp (pe_var (X := X.suite a ((a, oe) :: pn)) n1 n2 n3 n4) ?_
      rintro σ H Q ⟨⟨q1, p, q3, q4⟩, q2⟩
      exact ⟨.ref p, q3, q2 p H (Same.refl _) q4⟩
    | _ => exact Bool.noConfusion (show false = true from h)
  | .add x y, l, e, hv, hl, h => by
    cases e with
    | BinOp u op v pos =>
      cases op with
      | Add =>
        have h : (ckHb sg cs i k x u && ckHb sg cs i k y v) = true := h
        rw [Bool.and_eq_true] at h
        cases ex : hbV cur x with
        | none => simp only [hbV, ex] at hv; cases hv
        | some lx =>
          cases ey : hbV cur y with
          | none => simp only [hbV, ex, ey] at hv; cases hv
          | some ly =>
            simp only [hbV, ex, ey] at hv
            cases hv
            rw [List.length_append] at hl
            have i1 := hb_ok ck xf hx hz hf cur x lx u ex (by omega) h.1
            have i2 := hb_ok ck xf hx hz hf cur y ly v ey (by omega) h.2
            refine pe_imp (pe_op op_cat i1 i2) ?_
            rintro σ H Q ⟨q1, q2⟩
            refine ⟨q1, fun p H1 s1 e1 => ⟨q1.ext s1, fun p2 H2 s2 e2 => ⟨p, p2, _, _, rfl, rfl, s2 _ _ e1, e2, by rw [List.length_map, List.length_map]; exact Nat.le_trans hl (by decide), fun p3 h3 => ?_⟩⟩⟩
            refine q2 p3 _ ((s1.trans s2).trans (same_upd h3)) ?_
            rw [upd_same, List.map_append]
      | _ => exact Bool.noConfusion (show false = true from h)
    | _ => exact Bool.noConfusion (show false = true from h)
theorem findN_get {c : Nat} : ∀ {l : List Nat} {n j : Nat}, findN c l n = some j → n ≤ j ∧ l[j - n]? = some c ∧ ∀ m, m < j - n → ∃ x, l[m]? = some x ∧ x ≠ c
  | [], _, _, h => nomatch h
  | x :: l, n, j, h => by
    unfold findN at h
    split at h
    · rename_i e
      cases h
      refine ⟨Nat.le_refl _, by rw [Nat.sub_self]; simp [e], fun m hm => by omega⟩
    · rename_i ne
      obtain ⟨h1, h2, h3⟩ := findN_get h
      have e : j - n = (j - (n + 1)) + 1 := by omega
      refine ⟨by omega, by rw [e]; simpa using h2, fun m hm => ?_⟩
      cases m with
      | zero => exact ⟨x, by simp, ne⟩
      | succ m =>
        obtain ⟨y, h4, h5⟩ := h3 m (by omega)
        exact ⟨y, by simpa using h4, h5⟩
/-- the suite -/
theorem hs_ok (ck : Cok sg cv nn F cs E0 X) (hik : i ≠ k) (xf : XcF sg cv X.K X.mg) (hx : sg.exs.lookup c = some xc) (hz : Zc (cv c) none oe) (hf : ∃ vs, oe.data = .fields vs) (r : Hb) : ∀ (hs : List Hb) (cur : Option (List Nat)) (st : List Stmt), ckHs sg cs i k hs r st = true → PSs (X.suite a ((a, oe) :: pn)) st (fun D σ H => CondH i k a c cur σ H ∧ k < σ.length ∧ ∃ cur' l j, hsV cur hs = some cur' ∧ hbV cur' r = some l ∧ l.length ≤ 1000 ∧ findN c l 0 = some j ∧ ∀ H', Same H H' → D.rt (.int (j : Nat)) H')
  | [], cur, st, h => by
    have inv : ∃ o m ap b1 b2 cp rp, st = [.Return (some (.Call (.Attribute o m ap) [.Constant (.bool true) b1 b2] [] cp)) rp] ∧ (ckHb sg cs i k r o && decide (m = "index") && noSuper o && (ap.endLine == cp.line)) = true := by
      unfold ckHs at h
      split at h <;> first
        | exact ⟨_, _, _, _, _, _, _, rfl, h⟩
        | (exfalso; simp_all; done)
    clear h
    obtain ⟨o, m, ap, b1, b2, cp, rp, rfl, h⟩ := inv
    rw [Bool.and_eq_true, Bool.and_eq_true, Bool.and_eq_true, decide_eq_true_eq] at h
    obtain ⟨⟨⟨h1, rfl⟩, h3⟩, h4⟩ := h
    refine ⟨fun pins s σ H D I ⟨q1, _, cur', l, j, e1, e2, e3, e4, q2⟩ => ?_⟩
    cases e1
    have hb := hb_ok (a := a) (pn := pn) ck xf hx hz hf cur r l o e2 e3 h1
    have pe := pe_bm (X := X.suite a ((a, oe) :: pn)) (apos := ap) (cpos := cp) PySem.F.plainAttrs_list PySem.F.slot_list_index PySem.F.type_list_index mt_index hb (pa_cons (pe_bl (X := X.suite a ((a, oe) :: pn)) (b := true) (j := b1) (pos := b2)) pa_nil (star_one rfl)) (base_of h3) (few_of (by rfl) (show 1 < 29 by decide)) h4 (star_one rfl) (star_any (es := []) rfl)
    refine (pss_cons (ps_ret (pos := rp) pe) pss_nil).run pins s σ H D I ?_
    obtain ⟨_, g1, g2⟩ := findN_get e4
    rw [Nat.sub_zero] at g1 g2
    refine ⟨q1, fun p H1 s1 e5 => ⟨?_, ⟨p, _, .bl true, j, .bl true, rfl, rfl, .inl (.inl e5), rfl, ?_, ?_, rfl, ?_, q2 H1 s1⟩⟩⟩
    · exact .inl ⟨rfl, _, .inl (.inl e5)⟩
    · rw [List.all_eq_true]
      intro v hv
      obtain ⟨x, _, rfl⟩ := List.mem_map.mp hv
      rfl
    · rw [List.getElem?_map, g1]
      simp
    · intro m z hm ez
      obtain ⟨x, h5, h6⟩ := g2 m hm
      rw [List.getElem?_map, h5] at ez
      simp only [Option.map_some, Option.some.injEq] at ez
      rw [← ez, decide_eq_false h6]
      rfl
  | g :: hs, cur, st, h => by
    have inv : ∃ y p v sp st', st = .Assign [.Name y p] v sp :: st' ∧ (ckG1 cs k (.Name y p) && ckHb sg cs i k g v && notComp v && ckHs sg cs i k hs r st') = true := by
      unfold ckHs at h
      split at h <;> first
        | (rename_i z1; cases z1; exact ⟨_, _, _, _, _, rfl, h⟩)
        | (exfalso; simp_all; done)
        | (simp only [List.cons.injEq] at *; exact ⟨_, _, _, _, _, rfl, by simp_all⟩)
    clear h
    obtain ⟨y, p, v, sp, st', rfl, h⟩ := inv
    rw [Bool.and_eq_true, Bool.and_eq_true, Bool.and_eq_true] at h
    obtain ⟨⟨⟨h1, h2⟩, h3⟩, h4⟩ := h
    refine ⟨fun pins s σ H D I ⟨q1, qk, cur', l, j, e1, e2, e3, e4, q2⟩ => ?_⟩
    cases ev : hbV cur g with
    | none => simp only [hsV, ev] at e1; cases e1
    | some lg =>
      simp only [hsV, ev] at e1
      have hlg : lg.length ≤ 1000 := by
        split at e1
        · assumption
        · cases e1
      rw [if_pos hlg] at e1
      have pe := hb_ok (a := a) (pn := pn) ck xf hx hz hf cur g lg v ev hlg h2
      have ih := hs_ok ck hik xf hx hz hf r hs (some lg) st' h4
      have pg : PG (X.suite a ((a, oe) :: pn)) (.Name y p) (gName k) := by
        obtain ⟨g1, g2, g3⟩ := g1_inv ck h1
        exact pg_name (X := X.suite a ((a, oe) :: pn)) ck.nodX g1 g2 g3
      refine (pss_cons (ps_asg (pos := sp) pe pg (show swapsWith v (some (.Name y p)) sp.line X.env = pure false from notComp_sw h3) (by cases v <;> first | rfl | (cases h2; done))) ih).run pins s σ H D I ?_
      refine ⟨q1, fun p2 H1 s1 e5 => ⟨⟨?_, p2, ?_, e5⟩, by simpa using qk, cur', l, j, e1, e2, e3, e4, fun H2 s2 => q2 H2 (s1.trans s2)⟩⟩
      · rw [List.getElem?_set_ne (Ne.symm hik)]; exact q1.1
      · rw [List.getElem?_set_self qk]
end
end Mn
end
section
set_option Elab.async false
set_option linter.all false
set_option maxRecDepth 100000
set_option maxHeartbeats 4000000
set_option autoImplicit false
/-! D27: x[k] = v. -/
namespace Mn
open PySem PySem.Spec L2
section
variable {prog : Program} {w : World} {A : Around} {E : Value → Shared → Prop} {s : Shared}
theorem setL_at {l : Addr} {items : Array Value} {ne : Nat} {k : Int} {t : Tok} {v : Value} {Q : Unit → Shared → Prop} (ho : s.heap.get? l = some { cls := .type "list", data := .seq items ne }) (h0 : 0 ≤ k) (hj : k < items.size) (hfit : k < 2 ^ 63)
    (hQ : ∀ j : Nat, (j : Int) = k → Q () { s with heap := s.heap.update l (Obj.mapSeq (·.setIfInBounds j v)) }) : wpAny (model prog w) A (setItem (.ref l) (.int k t) v) Q E s := by
  have hT : s.TypeIs (.ref l) "list" := ⟨_, ho, rfl⟩
  unfold setItem
  try with_reducible refine wpAny_holding ?_
  first
    | (refine wpAny_bind (wpAny_pure ?_))
    | skip
  refine wpAny_bind (wpAny_sequenceKey hT (by decide) ?_)
  refine wpAny_bind (wpAny_callSpecial?_slot (name := Str.ofString "__setitem__") hT slot_list_setitem
    (wpAny_call_entry slot_list_setitem hT entry_list_setitem ?_ (args_list_setitem _ _ _)))
  show wpAny _ _ (Builtin.List.listSubscript? (.int k t) >>= _) _ _ _
  refine wpAny_bind (wpAny_listSubscript_int (fitsIndex_of h0 hfit) ?_)
  clear hfit
  obtain ⟨j, rfl⟩ := Int.eq_ofNat_of_zero_le h0
  have hj : j < items.size := by omega
  have hx' : items[j]? = some items[j] := Array.getElem?_eq_getElem hj
  show wpAny _ _ ((seqItemAt l j >>= fun z => pure (z.map (j, ·))) >>= _) _ _ s
  refine wpAny_bind (wpAny_bind (wpAny_seqItemAt ho rfl (wpAny_pure ?_)))
  rw [hx']
  show wpAny _ _ (setSeqItemAt l j v >>= _) _ _ _
  refine wpAny_bind (wpAny_setSeqItemAt ho rfl ?_)
  first
    | exact wpAny_bind (wpAny_pure (wpAny_pure ⟨.none, rfl, wpAny_pure (hQ j rfl)⟩))
    | exact wpAny_pure ⟨.none, rfl, wpAny_pure (hQ j rfl)⟩
end
/-- x[y] = v, of a list or a dict -/
def sPut (td ty tv : TE) : TS := fun D σ H => tv σ H fun v H1 => td σ H1 fun x H2 => ty σ H2 fun y H3 => ∃ a, x = .ref a ∧
  ((∃ H4, DPut H3 a y v H4 ∧ D.nx σ H4) ∨ ∃ (vs : List V) (j : Nat), H3 a = some (.lst vs) ∧ y = .int (j : Int) ∧ j < vs.length ∧ D.nx σ (upd H3 a (.lst (vs.set j v))))
section
variable {X : Cx} {o i value : Expr} {pos pos' : Pos} {td ty tv : TE}
theorem ps_put (hu : X.A.units + 1 < cLine) (ho : PE X o td) (hi : PE X i ty) (hv : PE X value tv) (hs : swapsWith value (some (.Subscript o i pos')) pos.line X.env = pure false) :
    PS X (.Assign [.Subscript o i pos'] value pos) (sPut td ty tv) := by
  refine ⟨fun pins s σ H D I h => ?_⟩
  refine wpAny_Assign_Subscript (thn (hv.run pins s σ H _ I h) fun r s1 ⟨v, H1, I1, rv, q1⟩ => thn (ho.run pins s1 σ H1 _ I1 q1) fun u s2 ⟨x, H2, I2, rx, q2⟩ => thn (hi.run pins s2 σ H2 _ I2 q2) fun iv s3 ⟨y, H3, I3, ry, a, ex, q3⟩ => ?_) hs
  subst ex
  obtain rfl : u = Value.ref a := rx
  rcases q3 with ⟨H4, g, q3⟩ | ⟨vs, j, hH, ey, hj, q3⟩
  · exact d_setItem hu I3 g ry rv fun s4 I4 => ⟨σ, H4, I4, q3⟩
  · subst ey
    obtain ⟨t, rfl⟩ := ry
    obtain ⟨z, its, n, rr, hl, e⟩ := I3.lstM hH
    refine setL_at e (Int.natCast_nonneg j) (by rw [List.size_toArray]; omega) (by have := sizeLine_eq; omega) fun j' ej => ?_
    have ej : j' = j := by omega
    subst ej
    refine ⟨σ, _, I3.lset (its' := its.set j' r) (t' := s3.toks) hH e (by simp) (Vals.set rv j' rr) (by rw [List.length_set]; exact z), q3⟩
end
section
variable {X : Cx} {cv : Nat → Value} {W : WX} {K : Frag} {f g : Env → M D}
def fPut (i : Nat) (vs : List Nat) (fk fv : Env → M D) : Env → Option Out := fun ρ => go (frz vs ρ) (fv (frz vs ρ)) fun d => match ownAt (frz vs ρ) i with
    | some (.lst xs) => go (frz vs ρ) (fk (frz vs ρ)) fun x => (match x with
      | .int j => (match ixN xs.length j with
        | some n => if 0 ≤ j then some (.nx ((frz vs ρ).set i (.ow (.lst (xs.set n d))))) else none
        | none => none)
      | _ => none)
    | some (.dct ks ws) => go (frz vs ρ) (fk (frz vs ρ)) fun x => (match x with
      | .str y => if ks.length < lim then some (.nx ((frz vs ρ).set i (.ow (.dct (putD y d ks ws).1 (putD y d ks ws).2)))) else none
      | _ => none)
    | _ => none
theorem s_putD {i : Nat} {vs : List Nat} : ∀ D σ H, rdS K cv W (fPut i vs f g) D σ H → sPut (tVar i) (rd .v K cv W f) (rd .v K cv W g) D σ H := by
  rintro D σ H ⟨B, H0, ρ, o, r, e, fin⟩
  have r1 := r.frz vs
  unfold fPut at e
  refine go_rd r1 e fin fun d h => ?_
  intro v H1 s dv
  have r2 := r1.ext s
  cases eo : ownAt (frz vs ρ) i with
  | none => rw [eo] at h; cases h
  | some c =>
    rw [eo] at h
    cases c with
    | lst xs =>
      have ei := own_inv eo
      obtain ⟨a, es, h0, hb, us, hu, hl, hd⟩ := r2.ow i _ ei
      refine ⟨_, es, ?_⟩
      refine go_rd r2 h fin fun x h => ?_
      intro y H2 s2 dy
      cases x with
      | int j =>
        cases dy
        have h : (match ixN xs.length j with
          | some n => if 0 ≤ j then some (Out.nx ((frz vs ρ).set i (.ow (.lst (xs.set n d))))) else none
          | none => none) = some o := h
        cases en : ixN xs.length j with
        | none => rw [en] at h; cases h
        | some n =>
          rw [en] at h
          by_cases hj0 : 0 ≤ j
          · have h : (if 0 ≤ j then some (Out.nx ((frz vs ρ).set i (.ow (.lst (xs.set n d))))) else none) = some o := h
            rw [if_pos hj0] at h
            cases h
            have hn : (n : Int) = j ∧ n < xs.length := by
              unfold ixN at en
              rw [if_pos hj0] at en
              split at en
              · cases en; omega
              · cases en
            have hlen := hd.length
            refine ⟨a, rfl, .inr ⟨us, n, s2 _ _ hu, by rw [hn.1], by omega, fin _ _ (rep_wr (r2.ext s2) ei es ⟨us.set n v, upd_same, by rw [List.length_set]; exact hl, ?_⟩)⟩⟩
            have kp : ∀ b o', ¬ Bn B σ (frz vs ρ) b → H2 b = some o' → upd H2 a (.lst (us.set n v)) b = some o' := fun b o' nb q => by
              rw [upd_ne (fun z : b = a => nb (.inr ⟨i, _, ei, by rw [z]; exact es⟩))]; exact q
            exact Dvs.keep (fun _ q _ => q) kp _ _ (Dvs.set (dv.ext s2) n (hd.ext s2))
          · have h : (if 0 ≤ j then some (Out.nx ((frz vs ρ).set i (.ow (.lst (xs.set n d))))) else none) = some o := h
            rw [if_neg hj0] at h
            cases h
      | _ => cases h
    | dct ks ws =>
      have ei := own_inv eo
      obtain ⟨a, es, h0, hb, us, hu, hl, hlen, hnd, hok, hd⟩ := r2.ow i _ ei
      refine ⟨_, es, ?_⟩
      refine go_rd r2 h fin fun x h => ?_
      intro y H2 s2 dy
      cases x with
      | str z =>
        cases dy with
        | str okz =>
          have h : (if ks.length < lim then some (Out.nx ((frz vs ρ).set i (.ow (.dct (putD z d ks ws).1 (putD z d ks ws).2)))) else none) = some o := h
          split at h
          · rename_i hlt
            cases h
            have hk : H2 a = some (.dK (kvs ks us)) := s2 _ _ hu
            have pk := putK_kvs (k := z) (v := v) hlen hnd
            have hz : (kvs ks us).length < sizeLine := by
              unfold kvs
              rw [List.length_zip, List.length_map, hlen, Nat.min_self, ← hlen]
              exact hlt
            have ek : (putD z d ks ws).1 = (putD z v ks us).1 := put_keys (by rw [hlen, hd.length]) hlen
            refine ⟨a, rfl, .inl ⟨_, DPut.k (k := Sum.inr (tx z)) hk hz, ?_⟩⟩
            rw [pk]
            refine fin _ _ (rep_wr (r2.ext s2) ei es ⟨(putD z v ks us).2, ?_, ?_, ?_, ?_, ?_, ?_⟩)
            · rw [upd_same, ek]
            · exact Nat.le_trans put_le hlt
            · rw [ek]; exact put_len hlen
            · rw [ek]; exact put_nodup hlen hnd
            · exact fun q hq => (put_mem hq).elim (fun w => w ▸ okz) (hok q)
            · have kp : ∀ b o', ¬ Bn B σ (frz vs ρ) b → H2 b = some o' → upd H2 a (.dK (kvs (putD z v ks us).1 (putD z v ks us).2)) b = some o' := fun b o' nb q => by
                rw [upd_ne (fun z : b = a => nb (.inr ⟨i, _, ei, by rw [z]; exact es⟩))]; exact q
              exact Dvs.keep (fun _ q _ => q) kp _ _ (put_dvs (dv.ext s2) (hd.ext s2))
          · cases h
      | _ => cases h
    | _ => cases h
end
end Mn
end
section
set_option Elab.async false
set_option linter.all false
set_option maxRecDepth 100000
set_option maxHeartbeats 4000000
set_option autoImplicit false
/-! D22: every statement of the checker is sound. -/
namespace Mn
open PySem PySem.Spec L2
section
variable {sg : Sg} {cv : Nat → Value} {n : Nat} {F : Nat → List D → M D} {cs : Cs} {E0 : XK} {X : Cx}
theorem ss_unp {is : List Nat} {e : E} : SndS sg cv n F (.unp is e) := by
  refine .of (fun _ _ => rfl) fun cs E0 X c st h => ?_
  cases st with
  | Assign ts v sp =>
    match ts, h with
    | [.Tuple es k p], h =>
      have h : (ckGs cs is es && ckE sg e .v cs v && notTup v && notComp v) = true := h
      rw [Bool.and_eq_true, Bool.and_eq_true, Bool.and_eq_true] at h
      obtain ⟨⟨⟨h1, h2⟩, h3⟩, h4⟩ := h
      have pg : PG X (.Tuple es k p) (tgG X.K (.many is)) := pg_ok c.toCok (tg := .many is) (e := .Tuple es k p) h1
      exact ps_imp (ps_asg (mo_v ((snd_all e).pe cs E0 X c.toCok v h2)) pg (show swapsWith v (some (.Tuple es k p)) sp.line X.env = pure false from notComp_sw h4) (notTup_sw h3)) s_unpD
    | [], h => exact Bool.noConfusion (show false = true from h)
    | t :: _ :: _, h => cases t <;> exact Bool.noConfusion (show false = true from h)
    | [.BoolOp ..], h | [.NamedExpr ..], h | [.BinOp ..], h | [.UnaryOp ..], h | [.Lambda ..], h | [.IfExp ..], h | [.Dict ..], h | [.Set ..], h | [.ListComp ..], h | [.SetComp ..], h | [.DictComp ..], h | [.GeneratorExp ..], h | [.Await ..], h | [.Yield ..], h | [.YieldFrom ..], h | [.Compare ..], h | [.Call ..], h | [.FormattedValue ..], h | [.JoinedStr ..], h | [.Constant ..], h | [.Attribute ..], h | [.Subscript ..], h | [.Starred ..], h | [.List ..], h | [.Name ..], h | [.Slice ..], h =>
      exact Bool.noConfusion (show false = true from h)
  | _ => exact Bool.noConfusion (show false = true from h)
theorem ss_exp {e : E} : SndS sg cv n F (.exp e) := by
  refine .of (fun _ _ => rfl) fun cs E0 X c st h => ?_
  cases st with
  | Expr v p =>
    have h : (ckE sg e .v cs v && notComp v) = true := h
    rw [Bool.and_eq_true] at h
    exact ps_imp (ps_expr (mo_v ((snd_all e).pe cs E0 X c.toCok v h.1)) (notComp_sw h.2)) s_expD
  | _ => exact Bool.noConfusion (show false = true from h)
theorem ss_ret {e : E} : SndS sg cv n F (.ret e) := by
  refine .of (fun _ _ => rfl) fun cs E0 X c st h => ?_
  cases st with
  | Return v p =>
    cases v with
    | none => exact Bool.noConfusion (show false = true from h)
    | some v => exact ps_imp (ps_ret (mo_v ((snd_all e).pe cs E0 X c.toCok v h))) s_retD
  | _ => exact Bool.noConfusion (show false = true from h)
theorem ss_retN : SndS sg cv n F .retN := by
  refine .of (fun _ _ => rfl) fun cs E0 X c st h => ?_
  cases st with
  | Return v p =>
    cases v with
    | none => exact ps_imp ps_retN s_retN
    | some v => exact Bool.noConfusion (show false = true from h)
  | _ => exact Bool.noConfusion (show false = true from h)
theorem ss_ife {d : E} {s t : S} (hs : SndS sg cv n F s) (ht : SndS sg cv n F t) : SndS sg cv n F (.ife d s t) := by
  refine .of (fun _ _ => rfl) fun cs E0 X c st h => ?_
  cases st with
  | If x a b p =>
    have h : (ckE sg d .t cs x && ckL sg s cs a && ckL sg t cs b) = true := h
    rw [Bool.and_eq_true, Bool.and_eq_true] at h
    exact ps_imp (ps_if ((snd_all d).pt cs E0 X c.toCok x h.1.1) (hs.lst cs E0 X c a h.1.2) (ht.lst cs E0 X c b h.2)) s_ifD
  | _ => exact Bool.noConfusion (show false = true from h)
theorem evS_whl (F : Nat → List D → M D) (c : E) (b : S) : evS F (.whl c b) = whlF (cWhl (vars c) (evE F c)) (evS F b) loops := by
  funext ρ
  rw [evS]
theorem ss_whl {d : E} {s : S} (hs : SndS sg cv n F s) : SndS sg cv n F (.whl d s) := by
  refine .of (fun _ _ => rfl) fun cs E0 X c st h => ?_
  cases st with
  | While x a o p =>
    cases o with
    | cons _ _ => exact Bool.noConfusion (show false = true from h)
    | nil =>
      have h : (ckE sg d .t cs x && ckL sg s cs a) = true := h
      rw [Bool.and_eq_true] at h
      rw [evS_whl]
      exact ps_imp (ps_while c.own ((snd_all d).pt cs E0 X c.toCok x h.1) (hs.lst cs E0 X c a h.2)) (s_whlD (vs := vars d) (n := loops))
  | _ => exact Bool.noConfusion (show false = true from h)
theorem ss_for {tg : Tg} {it : E} {s : S} (hs : SndS sg cv n F s) : SndS sg cv n F (.for_ tg it s) := by
  refine .of (fun _ _ => rfl) fun cs E0 X c st h => ?_
  cases st with
  | For t x a o p =>
    cases o with
    | cons _ _ => exact Bool.noConfusion (show false = true from h)
    | nil =>
      have h : (ckG cs tg t && (!pOf it || isTupleE t) && notSet x && ckI sg it cs true x && ckL sg s cs a) = true := h
      rw [Bool.and_eq_true, Bool.and_eq_true, Bool.and_eq_true, Bool.and_eq_true] at h
      obtain ⟨⟨⟨⟨h1, h2⟩, h3⟩, h4⟩, h5⟩ := h
      have hp : pOf it = true → isTupleE t = true := fun z => by rw [z] at h2; simpa using h2
      refine ps_imp (ps_for c.own c.calm ((snd_all it).pi cs E0 X c.toCok true t x hp h4) (pg_ok c.toCok h1) (hs.lst cs E0 X c a h5) (fold_of h3)) (s_forD fun z => ?_)
      obtain ⟨es, k, tp, rfl⟩ := tuple_of (hp z)
      cases tg with
      | one i => exact Bool.noConfusion (show false = true from h1)
      | many is => exact ⟨is, rfl⟩
  | _ => exact Bool.noConfusion (show false = true from h)
theorem ss_brk : SndS sg cv n F .brk := by
  refine .of (fun _ _ => rfl) fun cs E0 X c st h => ?_
  cases st with
  | Break p => exact ps_imp ps_break s_brk
  | _ => exact Bool.noConfusion (show false = true from h)
theorem ss_cnt : SndS sg cv n F .cnt := by
  refine .of (fun _ _ => rfl) fun cs E0 X c st h => ?_
  cases st with
  | Continue p => exact ps_imp ps_continue s_cnt
  | _ => exact Bool.noConfusion (show false = true from h)
/-- x.m(..) as a statement -/
theorem star_not {e : Expr} (h : noStar e = true) : (match e with | .Starred .. => true | _ => false) = false := by
  cases e <;> first
    | (cases h; done)
    | rfl
theorem sw_stores {env : PySem.Env} {x y : Str} {p q pt p2 : Pos} {kt k2 : Nat} {u v : Expr} (hb : env.blockKind = .function) (h1 : noStar u = true) (h2 : noStar v = true) {r : Option (List Str)}
    (h : (if (env.kindOf x == some .local) && (env.kindOf y == some .local && (q.line == p.line)) && decide (x ≠ y) then (if foldedForSure 8 u && foldedForSure 8 v then some none else if constantsAlone 8 u && constantsAlone 8 v then none else some (some [x, y])) else some none) = some r) :
    swappedStores [.Tuple [.Name x p, .Name y q] kt pt] (.Tuple [u, v] k2 p2) env = pure r := by
  have hst : ([u, v].any fun | .Starred .. => true | _ => false) = false := by
    rw [List.any_eq_false]
    intro e he
    have hs : noStar e = true := by
      rcases List.mem_cons.mp he with z | z
      · rw [z]; exact h1
      · rw [List.mem_singleton.mp z]; exact h2
    cases e <;> first
      | (cases hs; done)
      | exact fun z => nomatch z
  unfold swappedStores
  simp only [hb, hst]
  generalize hN : List.filterMap _ _ = names
  have hn : names = (if (env.kindOf x == some NameKind.local) = true then [x] else []) ++ (if (env.kindOf y == some NameKind.local && q.line == p.line) = true then [y] else []) := by
    rw [← hN]
    have g : ∀ (e : Expr) (r : List Expr) (g : Expr → Option Str), List.filterMap g (e :: r) = (match g e with | some b => b :: List.filterMap g r | none => List.filterMap g r) := fun e r g => by rw [List.filterMap_cons]; cases g e <;> rfl
    rw [g, g, List.filterMap_nil]
    have pp : (p.line == p.line) = true := by simp
    show (match (if (env.kindOf x == some NameKind.local && p.line == p.line) = true then some x else none) with
      | some b => b :: (match (if (env.kindOf y == some NameKind.local && q.line == p.line) = true then some y else none) with | some b => [b] | none => [])
      | none => (match (if (env.kindOf y == some NameKind.local && q.line == p.line) = true then some y else none) with | some b => [b] | none => [])) = _
    rw [pp, Bool.and_true]
    by_cases a : (env.kindOf x == some NameKind.local) = true
    · by_cases b : (env.kindOf y == some NameKind.local && q.line == p.line) = true
      · rw [if_pos a, if_pos a, if_pos b, if_pos b]; rfl
      · rw [if_pos a, if_pos a, if_neg b, if_neg b]; rfl
    · by_cases b : (env.kindOf y == some NameKind.local && q.line == p.line) = true
      · rw [if_neg a, if_neg a, if_pos b, if_pos b]; rfl
      · rw [if_neg a, if_neg a, if_neg b, if_neg b]; rfl
  clear hN
  have ha : [u, v].all (foldedForSure 8) = (foldedForSure 8 u && foldedForSure 8 v) := by simp
  have hc : [u, v].all (constantsAlone 8) = (constantsAlone 8 u && constantsAlone 8 v) := by simp
  simp only [ha, hc]
  cases hA : (env.kindOf x == some NameKind.local) with
  | false =>
    rw [hA] at h hn
    have h : some none = some r := h
    cases h
    have : names.length ≤ 1 := by
      rw [hn]
      cases (env.kindOf y == some NameKind.local && q.line == p.line) <;> simp
    have e : (names.length != 2) = true := by
      rw [bne_iff_ne]; omega
    simp [e]
  | true =>
    cases hB : (env.kindOf y == some NameKind.local && q.line == p.line) with
    | false =>
      rw [hA, hB] at h hn
      have h : some none = some r := h
      cases h
      rw [hn]
      simp
    | true =>
      rw [hA, hB] at h hn
      have hn : names = [x, y] := hn
      subst hn
      by_cases hxy : x = y
      · subst hxy
        have e : decide (x ≠ x) = false := by simp
        rw [e] at h
        have h : some none = some r := h
        cases h
        simp [List.eraseDups, List.eraseDupsBy, List.eraseDupsBy.loop]
      · have e : decide (x ≠ y) = true := by simp [hxy]
        rw [e] at h
        have h : (if (foldedForSure 8 u && foldedForSure 8 v) = true then some none else if (constantsAlone 8 u && constantsAlone 8 v) = true then none else some (some [x, y])) = some r := h
        have e3 : (y == x) = false := by simp [Ne.symm hxy]
        cases hf : (foldedForSure 8 u && foldedForSure 8 v) with
        | true => rw [hf] at h; cases h; simp [List.eraseDups, List.eraseDupsBy, List.eraseDupsBy.loop, e3]
        | false =>
          cases hc : (constantsAlone 8 u && constantsAlone 8 v) with
          | true => rw [hf, hc] at h; cases h
          | false =>
            rw [hf, hc] at h
            cases h
            simp [List.eraseDups, List.eraseDupsBy, List.eraseDupsBy.loop, e3]
            intro z
            exfalso
            rcases z with z | z
            · cases u <;> first
                | (cases h1; done)
                | cases z
            · cases v <;> first
                | (cases h2; done)
                | cases z
theorem meth_inv {s : S} {st : Stmt} (hs : (∃ i e, s = .app i e) ∨ (∃ i e, s = .ext i e) ∨ ∃ i, s = .pop i) (h : ck1 sg s cs st = true) : ∃ x p m ap es cp sp, st = .Expr (.Call (.Attribute (.Name x p) m ap) es [] cp) sp := by
  rcases hs with ⟨i, e, rfl⟩ | ⟨i, e, rfl⟩ | ⟨i, rfl⟩ <;> (
    cases st with
    | Expr v sp =>
      cases v with
      | Call f es kws cp =>
        cases f with
        | Attribute o m ap =>
          cases o with
          | Name x p =>
            cases kws with
            | nil => exact ⟨x, p, m, ap, es, cp, sp, rfl⟩
            | cons _ _ =>
              match es, h with
              | [], h => exact Bool.noConfusion (show false = true from h)
              | [_], h => exact Bool.noConfusion (show false = true from h)
              | _ :: _ :: _, h => exact Bool.noConfusion (show false = true from h)
          | _ => exact Bool.noConfusion (show false = true from h)
        | _ => exact Bool.noConfusion (show false = true from h)
      | _ => exact Bool.noConfusion (show false = true from h)
    | _ => exact Bool.noConfusion (show false = true from h))
theorem pe_nameV (c : Cok sg cv n F cs E0 X) {i : Nat} {x : Str} {p : Pos} (h : nameOk cs i x = true) : PE X (.Name x p) (tVar i) := by
  obtain ⟨h1, h2, h3, h4⟩ := c.name h
  exact pe_var h1 h2 h3 h4
theorem ss_app {i : Nat} {e : E} : SndS sg cv n F (.app i e) := by
  refine .of (fun _ _ => rfl) fun cs E0 X c st h => ?_
  obtain ⟨x, p, m, ap, es, cp, sp, rfl⟩ := meth_inv (.inl ⟨i, e, rfl⟩) h
  match es, h with
  | [], h => exact Bool.noConfusion (show false = true from h)
  | _ :: _ :: _, h => exact Bool.noConfusion (show false = true from h)
  | [v], h =>
    have h : (nameOk cs i x && decide (m = "append") && (ap.endLine == cp.line) && noStar v && ckE sg e .v cs v) = true := h
    rw [Bool.and_eq_true, Bool.and_eq_true, Bool.and_eq_true, Bool.and_eq_true, decide_eq_true_eq] at h
    obtain ⟨⟨⟨⟨h1, rfl⟩, h3⟩, h4⟩, h5⟩ := h
    exact ps_imp (ps_expr (pe_bm PySem.F.plainAttrs_list PySem.F.slot_list_append PySem.F.type_list_append mt_append (pe_nameV c.toCok h1) (pa_cons (mo_v ((snd_all e).pe cs E0 X c.toCok v h5)) pa_nil (star_one h4)) (base_of rfl) (few_of (by simpa using h4) (show 1 < 29 by decide)) h3 (star_one h4) (star_any (es := []) rfl))) s_appD
theorem ss_ext {i : Nat} {e : E} : SndS sg cv n F (.ext i e) := by
  refine .of (fun _ _ => rfl) fun cs E0 X c st h => ?_
  obtain ⟨x, p, m, ap, es, cp, sp, rfl⟩ := meth_inv (.inr (.inl ⟨i, e, rfl⟩)) h
  match es, h with
  | [], h => exact Bool.noConfusion (show false = true from h)
  | _ :: _ :: _, h => exact Bool.noConfusion (show false = true from h)
  | [v], h =>
    have h : (nameOk cs i x && decide (m = "extend") && (ap.endLine == cp.line) && noStar v && ckE sg e .v cs v) = true := h
    rw [Bool.and_eq_true, Bool.and_eq_true, Bool.and_eq_true, Bool.and_eq_true, decide_eq_true_eq] at h
    obtain ⟨⟨⟨⟨h1, rfl⟩, h3⟩, h4⟩, h5⟩ := h
    exact ps_imp (ps_expr (pe_bm PySem.F.plainAttrs_list PySem.F.slot_list_extend PySem.F.type_list_extend mt_extend (pe_nameV c.toCok h1) (pa_cons (mo_v ((snd_all e).pe cs E0 X c.toCok v h5)) pa_nil (star_one h4)) (base_of rfl) (few_of (by simpa using h4) (show 1 < 29 by decide)) h3 (star_one h4) (star_any (es := []) rfl))) s_extD
theorem ss_pop {i : Nat} : SndS sg cv n F (.pop i) := by
  refine .of (fun _ _ => rfl) fun cs E0 X c st h => ?_
  obtain ⟨x, p, m, ap, es, cp, sp, rfl⟩ := meth_inv (.inr (.inr ⟨i, rfl⟩)) h
  cases es with
  | cons _ _ => exact Bool.noConfusion (show false = true from h)
  | nil =>
    have h : (nameOk cs i x && decide (m = "pop") && (ap.endLine == cp.line)) = true := h
    rw [Bool.and_eq_true, Bool.and_eq_true, decide_eq_true_eq] at h
    obtain ⟨⟨h1, rfl⟩, h3⟩ := h
    exact ps_imp (ps_expr (pe_bm0 PySem.F.plainAttrs_list PySem.F.slot_list_pop PySem.F.type_list_pop mt_pop (pe_nameV c.toCok h1) (base_of rfl) h3)) s_popD
theorem ss_rais {k : Nat} : SndS sg cv n F (.rais k) := by
  refine .of (fun _ _ => rfl) fun cs E0 X c st h => ?_
  have inv : ∃ x p m a b cp sp, st = .Raise (some (.Call (.Name x p) [.Constant (.str m) a b] [] cp)) none sp := by
    cases st with
    | Raise e z sp =>
      cases e with
      | none => exact Bool.noConfusion (show false = true from h)
      | some e =>
        cases e with
        | Call f es kws cp =>
          cases f with
          | Name x p =>
            cases es with
            | nil => exact Bool.noConfusion (show false = true from h)
            | cons e es =>
              cases e with
              | Constant k a b =>
                cases k with
                | str m =>
                  cases es with
                  | cons _ _ => exact Bool.noConfusion (show false = true from h)
                  | nil =>
                    cases kws with
                    | cons _ _ => exact Bool.noConfusion (show false = true from h)
                    | nil =>
                      cases z with
                      | some _ => exact Bool.noConfusion (show false = true from h)
                      | none => exact ⟨x, p, m, a, b, cp, sp, rfl⟩
                | _ => exact Bool.noConfusion (show false = true from h)
              | _ => exact Bool.noConfusion (show false = true from h)
          | _ => exact Bool.noConfusion (show false = true from h)
        | _ => exact Bool.noConfusion (show false = true from h)
    | _ => exact Bool.noConfusion (show false = true from h)
  obtain ⟨x, p, m, a, b, cp, sp, rfl⟩ := inv
  have h : (decide (sg.exs.lookup k = some x) && glB cs x) = true := h
  rw [Bool.and_eq_true, decide_eq_true_eq] at h
  obtain ⟨g1, g2⟩ := c.toCok.gl h.2
  obtain ⟨C, bmB, Bn, newId, initId, q1, q2, q3, q4, q5, q6, q7⟩ := c.ws.ex k x h.1
  refine ps_imp (ps_raise c.calm c.tk (pmk_own q1 q2 q3 q4 (raises_own q5 q6) g1 g2)) fun D σ H q => ?_
  have z := s_raise D σ H q
  rw [q7] at z
  exact z
/-- two names at once -/
theorem ss_par {i j : Nat} {a b : E} : SndS sg cv n F (.par i j a b) := by
  refine .of (fun _ _ => rfl) fun cs E0 X c st h => ?_
  have inv : ∃ x p y q kt pt u v k2 p2 sp, st = .Assign [.Tuple [.Name x p, .Name y q] kt pt] (.Tuple [u, v] k2 p2) sp := by
    cases st with
    | Assign ts w sp =>
      cases ts with
      | nil => exact Bool.noConfusion (show false = true from h)
      | cons t ts =>
        cases t with
        | Tuple ns kt pt =>
          cases ns with
          | nil => exact Bool.noConfusion (show false = true from h)
          | cons n1 ns =>
            cases n1 with
            | Name x p =>
              cases ns with
              | nil => exact Bool.noConfusion (show false = true from h)
              | cons n2 ns =>
                cases n2 with
                | Name y q =>
                  cases ns with
                  | cons _ _ => exact Bool.noConfusion (show false = true from h)
                  | nil =>
                    cases ts with
                    | cons _ _ => exact Bool.noConfusion (show false = true from h)
                    | nil =>
                      cases w with
                      | Tuple vs k2 p2 =>
                        match vs, h with
                        | [], h => exact Bool.noConfusion (show false = true from h)
                        | [_], h => exact Bool.noConfusion (show false = true from h)
                        | [u, v], h => exact ⟨x, p, y, q, kt, pt, u, v, k2, p2, sp, rfl⟩
                        | _ :: _ :: _ :: _, h => exact Bool.noConfusion (show false = true from h)
                      | _ => exact Bool.noConfusion (show false = true from h)
                | _ => exact Bool.noConfusion (show false = true from h)
            | _ => exact Bool.noConfusion (show false = true from h)
        | _ => exact Bool.noConfusion (show false = true from h)
    | _ => exact Bool.noConfusion (show false = true from h)
  obtain ⟨x, p, y, q, kt, pt, u, v, k2, p2, sp, rfl⟩ := inv
  have h : (ckG1 cs i (.Name x p) && ckG1 cs j (.Name y q) && decide (i ≠ j) && noStar u && noStar v && isFn cs && ckE sg a .v cs u && ckE sg b .v cs v &&
      ((isLoc cs x && isLoc cs y && (p.line == q.line) && decide (x ≠ y) && !(foldedForSure 8 u && foldedForSure 8 v) && !(constantsAlone 8 u && constantsAlone 8 v)) || !(isLoc cs x && isLoc cs y) || (isLoc cs x && isLoc cs y && (p.line == q.line) && decide (x ≠ y) && foldedForSure 8 u && foldedForSure 8 v))) = true := h
  rw [Bool.and_eq_true, Bool.and_eq_true, Bool.and_eq_true, Bool.and_eq_true, Bool.and_eq_true, Bool.and_eq_true, Bool.and_eq_true, Bool.and_eq_true, decide_eq_true_eq] at h
  obtain ⟨⟨⟨⟨⟨⟨⟨⟨h1, h2⟩, hij⟩, h4⟩, h5⟩, hfn⟩, h6⟩, h7⟩, h8⟩ := h
  obtain ⟨g1, _, _⟩ := g1_inv c.toCok h1
  obtain ⟨g4, _, _⟩ := g1_inv c.toCok h2
  have hpa := (snd_all a).pe cs E0 X c.toCok u h6
  have hpb := (snd_all b).pe cs E0 X c.toCok v h7
  have pa : PA X [u, v] (tCons (rd (mo a) X.K cv (wx E0) (evE F a)) (tCons (rd (mo b) X.K cv (wx E0) (evE F b)) tNil)) := pa_cons hpa (pa_cons hpb pa_nil (star_one h5)) (star_one h4)
  have rdr := s_parD (K := X.K) (cv := cv) (W := wx E0) (f := evE F a) (g := evE F b) (i := i) (j := j) (vs := vars a ++ vars b) (mo_md a) (mo_md b)
  have hb := blockKind_of c.toCok hfn
  have kx : X.env.kindOf x = cs.sc.names.lookup x := by show X.env.scope.names.lookup x = _; rw [c.sc]
  have ky : X.env.kindOf y = cs.sc.names.lookup y := by show X.env.scope.names.lookup y = _; rw [c.sc]
  -- the tuple is built
  have built : swappedStores [.Tuple [.Name x p, .Name y q] kt pt] (.Tuple [u, v] k2 p2) X.env = pure none → PS X (.Assign [.Tuple [.Name x p, .Name y q] kt pt] (.Tuple [u, v] k2 p2) sp) (rdS X.K cv (wx E0) (evS F (.par i j a b))) := fun hw => by
    have pg : PG X (.Tuple [.Name x p, .Name y q] kt pt) (tgG X.K (.many [i, j])) := pg_ok c.toCok (tg := .many [i, j]) (e := .Tuple [.Name x p, .Name y q] kt pt) (by
      show (ckG1 cs i (.Name x p) && (ckG1 cs j (.Name y q) && true)) = true
      rw [h1, h2]; rfl)
    refine ps_imp (ps_asg (pe_tupF (k := k2) pa) pg rfl hw) fun D σ H z => ?_
    unfold tAsg
    refine cons2_mono (fun vs H1 q => ?_) (rdr D σ H z)
    obtain ⟨v', w', rfl, q⟩ := q
    exact ⟨by show 2 ≤ sizeLine; decide, fun a its ha => ⟨a, [v', w'], rfl, .inl (.inr ⟨_, upd_same⟩), rfl, gAll_of rfl (q _ (same_upd ha))⟩⟩
  rw [Bool.or_eq_true, Bool.or_eq_true] at h8
  rcases h8 with (h8 | h8) | h8
  · rw [Bool.and_eq_true, Bool.and_eq_true, Bool.and_eq_true, Bool.and_eq_true, Bool.and_eq_true, decide_eq_true_eq] at h8
    obtain ⟨⟨⟨⟨⟨l1, l2⟩, l3⟩, l4⟩, l5⟩, l6⟩ := h8
    have lx : (X.env.kindOf x == some .local) = true := by rw [kx, isLoc_of l1]; rfl
    have ly : (X.env.kindOf y == some .local) = true := by rw [ky, isLoc_of l2]; rfl
    have l3' : (q.line == p.line) = true := by
      have z : p.line = q.line := by simpa using l3
      simp [z]
    have hw : swappedStores [.Tuple [.Name x p, .Name y q] kt pt] (.Tuple [u, v] k2 p2) X.env = pure (some [x, y]) := sw_stores hb h4 h5 (by
      rw [lx, ly, l3', decide_eq_true l4]
      rw [Bool.not_eq_true'] at l5 l6
      rw [l5, l6]
      rfl)
    refine ps_imp (ps_par (pos := sp) c.calm c.nodX g1 g4 hij (by rw [c.sc]; exact isLoc_of l1) (by rw [c.sc]; exact isLoc_of l2) pa hw) fun D σ H z => ?_
    refine cons2_mono (fun vs H1 q => ?_) (rdr D σ H z)
    obtain ⟨v', w', rfl, q⟩ := q
    exact ⟨v', w', rfl, q _ (Same.refl _)⟩
  · refine built (sw_stores hb h4 h5 ?_)
    have z : ((X.env.kindOf x == some .local) && (X.env.kindOf y == some .local && (q.line == p.line)) && decide (x ≠ y)) = false := by
      rw [kx, ky]
      rw [Bool.not_eq_true'] at h8
      cases e1 : isLoc cs x with
      | false => rw [isLoc_not e1]; rfl
      | true =>
        rw [e1] at h8
        have e2 : isLoc cs y = false := by simpa using h8
        rw [isLoc_not e2]; simp
    rw [z]
    rfl
  · rw [Bool.and_eq_true, Bool.and_eq_true, Bool.and_eq_true, Bool.and_eq_true, Bool.and_eq_true, decide_eq_true_eq] at h8
    obtain ⟨⟨⟨⟨⟨l1, l2⟩, l3⟩, l4⟩, l5⟩, l6⟩ := h8
    refine built (sw_stores hb h4 h5 ?_)
    have lx : (X.env.kindOf x == some .local) = true := by rw [kx, isLoc_of l1]; rfl
    have ly : (X.env.kindOf y == some .local) = true := by rw [ky, isLoc_of l2]; rfl
    have l3' : (q.line == p.line) = true := by
      have z : p.line = q.line := by simpa using l3
      simp [z]
    rw [lx, ly, l3', decide_eq_true l4, l5, l6]
    rfl
theorem ss_put {i : Nat} {k v : E} : SndS sg cv n F (.put i k v) := by
  refine .of (fun _ _ => rfl) fun cs E0 X c st h => ?_
  have inv : ∃ x p ix q w sp, st = .Assign [.Subscript (.Name x p) ix q] w sp := by
    cases st with
    | Assign ts w sp =>
      cases ts with
      | nil => exact Bool.noConfusion (show false = true from h)
      | cons t ts =>
        cases t with
        | Subscript o ix q =>
          cases o with
          | Name x p =>
            cases ts with
            | nil => exact ⟨x, p, ix, q, w, sp, rfl⟩
            | cons _ _ => exact Bool.noConfusion (show false = true from h)
          | _ => exact Bool.noConfusion (show false = true from h)
        | _ => exact Bool.noConfusion (show false = true from h)
    | _ => exact Bool.noConfusion (show false = true from h)
  obtain ⟨x, p, ix, q, w, sp, rfl⟩ := inv
  have h : (nameOk cs i x && ckE sg k .v cs ix && ckE sg v .v cs w && notComp w) = true := h
  rw [Bool.and_eq_true, Bool.and_eq_true, Bool.and_eq_true] at h
  obtain ⟨⟨⟨h1, h2⟩, h3⟩, h4⟩ := h
  refine ps_imp (ps_put c.toCok.hu (pe_nameV c.toCok h1) (mo_v ((snd_all k).pe cs E0 X c.toCok ix h2)) (mo_v ((snd_all v).pe cs E0 X c.toCok w h3)) (notComp_sw h4)) fun D σ H z => s_putD (i := i) (vs := vars v ++ vars k) D σ H ?_
  obtain ⟨B, H0, ρ, o, r, e, fin⟩ := z
  refine ⟨B, H0, ρ, o, r, ?_, fin⟩
  rw [evS] at e
  exact e
theorem takes_len {X : Cx} {W W' : WX} (t : Takes X W) (h : ∀ c d σ H, σ.length = X.N.length → W' c d σ H → W c d σ H) : Takes X W' := fun u s' ⟨a, B, sI, pins, σ, H, cls, d, e, I, nb, up, sky, na, os, ag, w⟩ =>
  t u s' ⟨a, B, sI, pins, σ, H, cls, d, e, I, nb, up, sky, na, os, ag, h _ _ _ _ I.len w⟩
theorem hbV_mem {cur : Option (List Nat)} : ∀ {h : Hb} {l : List Nat}, hbV cur h = some l → ∀ x ∈ l, x ∈ hbC h ∨ ∃ m, cur = some m ∧ x ∈ m
  | .lit cl, l, e, x, hx => by cases e; exact .inl hx
  | .var, l, e, x, hx => .inr ⟨l, e, hx⟩
  | .add a b, l, e, x, hx => by
    cases ea : hbV cur a with
    | none => simp only [hbV, ea] at e; cases e
    | some la =>
      cases eb : hbV cur b with
      | none => simp only [hbV, ea, eb] at e; cases e
      | some lb =>
        simp only [hbV, ea, eb] at e
        cases e
        rcases List.mem_append.mp hx with hx | hx
        · exact (hbV_mem ea x hx).imp (fun z => List.mem_append.mpr (.inl z)) id
        · exact (hbV_mem eb x hx).imp (fun z => List.mem_append.mpr (.inr z)) id
theorem hsV_mem : ∀ {hs : List Hb} {cur cur' : Option (List Nat)}, hsV cur hs = some cur' → ∀ m, cur' = some m → ∀ x ∈ m, x ∈ hs.flatMap hbC ∨ ∃ m0, cur = some m0 ∧ x ∈ m0
  | [], cur, cur', e, m, em, x, hx => by cases e; exact .inr ⟨m, em, hx⟩
  | h :: hs, cur, cur', e, m, em, x, hx => by
    cases eh : hbV cur h with
    | none => simp only [hsV, eh] at e; cases e
    | some l =>
      simp only [hsV, eh] at e
      split at e
      · rcases hsV_mem e m em x hx with z | ⟨m0, e0, z⟩
        · exact .inl (by rw [List.flatMap_cons]; exact List.mem_append.mpr (.inr z))
        · cases e0
          rcases hbV_mem eh x z with q | q
          · exact .inl (by rw [List.flatMap_cons]; exact List.mem_append.mpr (.inl q))
          · exact .inr q
      · cases e
theorem hdV_inv {hs : List Hb} {r : Hb} {c j : Nat} (h : hdV hs r c = some j) : ∃ cur' l, hsV none hs = some cur' ∧ hbV cur' r = some l ∧ l.length ≤ 1000 ∧ findN c l 0 = some j ∧ c ∈ hsC hs r := by
  unfold hdV at h
  cases e1 : hsV none hs with
  | none => rw [e1] at h; cases h
  | some cur' =>
    rw [e1] at h
    cases e2 : hbV cur' r with
    | none => simp only [e2] at h; cases h
    | some l =>
      simp only [e2] at h
      split at h
      · rename_i hl
        refine ⟨cur', l, rfl, e2, hl, h, ?_⟩
        have hm : c ∈ l := List.mem_of_getElem? (findN_get h).2.1
        unfold hsC
        rcases hbV_mem e2 c hm with z | ⟨m, em, z⟩
        · exact List.mem_append.mpr (.inr z)
        · rcases hsV_mem e1 m em c z with q | ⟨_, q, _⟩
          · exact List.mem_append.mpr (.inl q)
          · cases q
      · cases h
theorem ckIs_c {i : Nat} : ∀ {cl : List Nat} {es : List Expr}, ckIs sg cs i cl es = true → ∀ c ∈ cl, ∃ x, sg.exs.lookup c = some x
  | [], _, _, c, hc => nomatch hc
  | j :: cl, [], h, c, hc => Bool.noConfusion (show false = true from h)
  | j :: cl, e :: es, h, c, hc => by
    unfold ckIs at h
    split at h
    · rename_i z; cases z
    · rename_i z1 z2
      cases z1
      cases z2
      simp only [Bool.and_eq_true, decide_eq_true_eq] at h
      rcases List.mem_cons.mp hc with q | q
      · rw [q]; exact ⟨_, h.1.1.2⟩
      · exact ckIs_c h.2 c q
    · cases h
theorem ckHb_c {i k : Nat} : ∀ {h : Hb} {e : Expr}, ckHb sg cs i k h e = true → ∀ c ∈ hbC h, ∃ x, sg.exs.lookup c = some x
  | .lit cl, e, h, c, hc => by
    cases e with
    | List es pos => exact ckIs_c h c hc
    | _ => exact Bool.noConfusion (show false = true from h)
  | .var, e, h, c, hc => nomatch hc
  | .add a b, e, h, c, hc => by
    cases e with
    | BinOp u op v pos =>
      cases op with
      | Add =>
        have h : (ckHb sg cs i k a u && ckHb sg cs i k b v) = true := h
        rw [Bool.and_eq_true] at h
        rcases List.mem_append.mp hc with z | z
        · exact ckHb_c h.1 c z
        · exact ckHb_c h.2 c z
      | _ => exact Bool.noConfusion (show false = true from h)
    | _ => exact Bool.noConfusion (show false = true from h)
theorem ckHs_c {i k : Nat} {r : Hb} : ∀ {hs : List Hb} {st : List Stmt}, ckHs sg cs i k hs r st = true → ∀ c ∈ hsC hs r, ∃ x, sg.exs.lookup c = some x
  | [], st, h, c, hc => by
    have hc : c ∈ hbC r := hc
    unfold ckHs at h
    split at h <;> first
      | (simp only [Bool.and_eq_true] at h; exact ckHb_c h.1.1.1 c hc)
      | (exfalso; simp_all; done)
  | g :: hs, st, h, c, hc => by
    have inv : ∃ y p v sp st', st = .Assign [.Name y p] v sp :: st' ∧ (ckG1 cs k (.Name y p) && ckHb sg cs i k g v && notComp v && ckHs sg cs i k hs r st') = true := by
      unfold ckHs at h
      split at h <;> first
        | (rename_i z1; cases z1; exact ⟨_, _, _, _, _, rfl, h⟩)
        | (exfalso; simp_all; done)
        | (simp only [List.cons.injEq] at *; exact ⟨_, _, _, _, _, rfl, by simp_all⟩)
    clear h
    obtain ⟨y, p, v, sp, st', rfl, h⟩ := inv
    rw [Bool.and_eq_true, Bool.and_eq_true, Bool.and_eq_true] at h
    have hc : c ∈ (hbC g ++ hs.flatMap hbC) ++ hbC r := hc
    rw [List.append_assoc] at hc
    rcases List.mem_append.mp hc with z | z
    · exact ckHb_c h.1.1.2 c z
    · exact ckHs_c h.2 c z
theorem ss_try {b : S} {i k : Nat} {hs : List Hb} {r : Hb} (hb : SndS sg cv n F b) : SndS sg cv n F (.tryX b i k hs r) := by
  refine .of (fun _ _ => rfl) fun cs E0 X c st h => ?_
  have inv : ∃ body x np nm b0 suite hp pos, st = .Try body [.ExceptHandler (some (.Name x np)) (some nm) (b0 :: suite) hp] [] [] pos ∧ (sg.tr && decide (x = "PortError") && glB cs x && decide (cs.N[i]? = some nm) && isLoc cs nm && decide (i ≠ k) && decide (k < cs.N.length) && ckL sg b cs body && ckHs sg cs i k hs r (b0 :: suite)) = true := by
    unfold ck1 at h
    split at h <;> first
      | (cases ‹S.tryX b i k hs r = S.tryX _ _ _ _ _›; exact ⟨_, _, _, _, _, _, _, _, rfl, h⟩)
      | (cases h; done)
      | (rename_i q _; cases q; done)
      | (rename_i q; cases q; done)
      | (exfalso; simp_all; done)
  clear h
  obtain ⟨body, x, np, nm, b0, suite, hp, pos, rfl, h⟩ := inv
  rw [Bool.and_eq_true, Bool.and_eq_true, Bool.and_eq_true, Bool.and_eq_true, Bool.and_eq_true, Bool.and_eq_true, Bool.and_eq_true, Bool.and_eq_true, decide_eq_true_eq, decide_eq_true_eq, decide_eq_true_eq, decide_eq_true_eq] at h
  obtain ⟨⟨⟨⟨⟨⟨⟨⟨htr, rfl⟩, hg⟩, hi⟩, hl⟩, hik⟩, hk⟩, hbody⟩, hsu⟩ := h
  obtain ⟨g1, g2⟩ := c.toCok.gl hg
  have xf := c.ws.xf htr
  obtain ⟨C, hC, hex⟩ := xf.port
  have hiX : X.N[i]? = some nm := by rw [c.N]; exact hi
  have hln : X.env.kindOf nm = some .local := by
    show X.env.scope.names.lookup nm = _
    rw [c.sc]; exact isLoc_of hl
  refine ps_imp (ps_try_as (c := .ref C) (tb := fun W D σ H => ∃ E1 : XK, (∀ cls d σ H, σ.length = X.N.length → E1 cls d H → W cls d σ H) ∧ rdS X.K cv (wx E1) (evS F b) D σ H)
    (ts := fun a cls d D σ H => ∃ c0 xc, cls = cv c0 ∧ d = none ∧ sg.exs.lookup c0 = some xc ∧ CondH i k a c0 none σ H ∧ k < σ.length ∧ ∃ cur' l j, hsV none hs = some cur' ∧ hbV cur' r = some l ∧ l.length ≤ 1000 ∧ findN c0 l 0 = some j ∧ ∀ H', Same H H' → D.rt (.int (j : Nat)) H')
    c.stk c.frm c.nodX hiX hln ⟨g1, g2, .inl hC⟩ c.tk ?hb ?hsu) ?_
  case hb =>
    intro W pn xe tk' own'
    refine ⟨fun pins s σ H D I ⟨E1, h1, h2⟩ => ?_⟩
    have ck : Cks sg cv n F cs E1 (X.tr pn xe) := ⟨⟨c.ws, c.N, c.sc, c.fn, c.nod, c.calm, c.room, takes_len tk' h1⟩, own', c.stk, c.frm⟩
    exact (hb.lst cs E1 _ ck body hbody).run pins s σ H D I h2
  case hsu =>
    intro a oe cls d pn hz hf
    refine ⟨fun pins s σ H D I ⟨c0, xc, e1, e2, e3, q1, qk, rest⟩ => ?_⟩
    subst e1 e2
    exact (hs_ok c.toCok hik xf e3 hz hf r hs none (b0 :: suite) hsu).run pins s σ H D I ⟨q1, qk, rest⟩
  rintro D σ H ⟨B, H0, ρ, o, rep, e, fin⟩
  rw [evS] at e
  cases eb : evS F b ρ with
  | none => rw [eb] at e; cases e
  | some o' =>
    rw [eb] at e
    refine ⟨fun cls d H' => ∃ c0 j, cls = cv c0 ∧ d = none ∧ hdV hs r c0 = some j ∧ ∀ H'', Same H' H'' → D.rt (.int (j : Nat)) H'', ?_, B, H0, ρ, o', rep, eb, ?_⟩
    · rintro cls d σ' H' hl ⟨c0, j, rfl, rfl, hj, hr⟩
      obtain ⟨cur', l, q1, q2, q3, q4, q5⟩ := hdV_inv hj
      obtain ⟨xc, hxc⟩ := ckHs_c hsu c0 q5
      have hiN : i < σ'.length := by
        rw [hl]
        rcases Nat.lt_or_ge i X.N.length with z | z
        · exact z
        · rw [List.getElem?_eq_none z] at hiX; cases hiX
      refine ⟨true, hex c0 xc hxc, fun _ a ha => ⟨c0, xc, rfl, rfl, hxc, ⟨List.getElem?_set_self hiN, trivial⟩, ?_, cur', l, j, q1, q2, q3, q4, hr⟩, fun z => nomatch z⟩
      rw [List.length_set, hl, c.N]; exact hk
    · cases o' with
      | exc c0 ρ' =>
        have e : (hdV hs r c0).map (fun (j : Nat) => Out.ret (.int (j : Int))) = some o := e
        cases hj : hdV hs r c0 with
        | none => rw [hj] at e; cases e
        | some j =>
          rw [hj] at e
          cases e
          exact fun σ' H' rep' => ⟨c0, j, rfl, rfl, hj, fun H'' s => fin _ H'' (rep'.same.trans s) (.int _)⟩
      | nx ρ' => cases e; exact fin
      | brk ρ' => cases e; exact fin
      | cnt ρ' => cases e; exact fin
      | ret d => cases e; exact fin
theorem ss_all (s : S) : SndS sg cv n F s := by
  induction s with
  | skip => exact ss_skip
  | seq s t h1 h2 => exact ss_seq h1 h2
  | asg i e => exact ss_asg
  | unp is e => exact ss_unp
  | par i j a b => exact ss_par
  | app i e => exact ss_app
  | ext i e => exact ss_ext
  | pop i => exact ss_pop
  | put i k v => exact ss_put
  | exp e => exact ss_exp
  | ret e => exact ss_ret
  | retN => exact ss_retN
  | ife c t f h1 h2 => exact ss_ife h1 h2
  | whl c b h => exact ss_whl h
  | for_ tg it b h => exact ss_for h
  | rais c => exact ss_rais
  | brk => exact ss_brk
  | cnt => exact ss_cnt
  | tryX b i k hs r h => exact ss_try h
end
end Mn
end
section
set_option Elab.async false
set_option linter.all false
set_option maxRecDepth 100000
set_option maxHeartbeats 4000000
set_option autoImplicit false
/-! D23: a table of defs keeps its promises. -/
namespace Mn
open PySem PySem.Spec L2
structure DefT where
  g : Nat
  x : Str
  params : Arguments
  body : List Stmt
  scope : Scope
  N : List Str
  np : Nat
  s : S
def DefT.fnd (d : DefT) : FnD := ⟨d.np, d.N.length, d.s⟩
def scOk (N P : List Str) (sc : Scope) : Bool :=
  (match sc.kind with | .function => true | _ => false) && !sc.isCoroutine && !sc.isGenerator && decide N.Nodup && decide (N.take P.length = P) && P.all (fun x => match sc.names.lookup x with | some .local => true | some .cell => true | _ => false) && sc.names.all (fun y => match y.2 with | .free => false | _ => true)
theorem scope_ok {N P : List Str} {sc : Scope} (h : scOk N P sc = true) : FnScope N P sc := by
  unfold scOk at h
  simp only [Bool.and_eq_true, Bool.not_eq_true', decide_eq_true_eq, List.all_eq_true] at h
  obtain ⟨⟨⟨⟨⟨⟨h1, h2⟩, h3⟩, h4⟩, h5⟩, h6⟩, h7⟩ := h
  refine ⟨?_, h2, h3, h4, h5, fun x hx => ?_, fun y hy e => ?_⟩
  · split at h1
    · assumption
    · cases h1
  · have z := h6 x hx
    split at z
    · exact .inl (by assumption)
    · exact .inr (by assumption)
    · cases z
  · have z := h7 y hy
    rw [e] at z
    cases z
def DefT.ps (d : DefT) : List Str := d.N.take d.np
def chkT (sg : Sg) (d : DefT) : Bool := scOk d.N d.ps d.scope && decide (d.np ≤ d.N.length) && ckL sg d.s ⟨d.N, d.scope, fun _ => true⟩ d.body
section
variable {sg : Sg} {cv : Nat → Value} {P : Program} {w : World} {K : Frag} {mg : Str → Option Value} {base : Heap}
theorem start_rep {B : Addr → Prop} {H : Hp} {vs : List V} {ds : List D} {N : List Str} (t : Tr H B) (h : Dvs K H B vs ds) : Rep K B H H (L2.start N vs) (Mn.start N.length ds) := by
  have no : ∀ a, ¬ OwnA (L2.start N vs) (Mn.start N.length ds) a := fun a ⟨i, d, e, _⟩ => by
    unfold Mn.start at e
    have m := List.mem_of_getElem? e
    rcases List.mem_append.mp m with m | m
    · obtain ⟨x, _, z⟩ := List.mem_map.mp m; cases z
    · have := List.eq_of_mem_replicate m; cases this
  have sub : ∀ b, Bn B (L2.start N vs) (Mn.start N.length ds) b → B b := fun b z => z.elim id fun z => absurd z (no b)
  have hl := h.length
  refine ⟨Same.refl _, t, by simp [L2.start, Mn.start, hl], fun i d e => ?_, fun i d e => ?_, fun i j d e a h1 _ _ _ => ?_⟩
  · unfold Mn.start at e
    by_cases hi : i < ds.length
    · rw [List.getElem?_append_left (by simpa using hi), List.getElem?_map] at e
      cases q : ds[i]? with
      | none => rw [q] at e; cases e
      | some d' =>
        rw [q] at e
        cases e
        obtain ⟨v, e1, dv⟩ := h.get q
        refine ⟨v, ?_, dv.anti sub⟩
        unfold L2.start
        rw [List.getElem?_append_left (by simp; omega), List.getElem?_map, e1]
        rfl
    · rw [List.getElem?_append_right (by simpa using hi)] at e
      have := List.eq_of_mem_replicate (List.mem_of_getElem? e)
      cases this
  · unfold Mn.start at e
    have m := List.mem_of_getElem? e
    rcases List.mem_append.mp m with m | m
    · obtain ⟨x, _, z⟩ := List.mem_map.mp m; cases z
    · have := List.eq_of_mem_replicate m; cases this
  · unfold Mn.start at h1
    have m := List.mem_of_getElem? h1
    rcases List.mem_append.mp m with m | m
    · obtain ⟨x, _, z⟩ := List.mem_map.mp m; cases z
    · have := List.eq_of_mem_replicate m; cases this
theorem fn_zero {f : Nat} {a : Addr} {fd : FuncData} {ps : List Str} {k : Nat} {T : List FnD} (h : ps.length = k) : FnOk P w K mg base (L2.CX P w) 0 a fd ps (spF K cv (callN T 0) k f) :=
  ⟨fun vs H Q E ⟨z, _⟩ => z.trans h.symm, fun A outer s H args us vs Q E _ _ _ _ ⟨_, B, ds, r, _, _, z, _⟩ => nomatch z⟩
theorem fn_succ {T : List FnD} {n f : Nat} {d : DefT} {a : Addr} {fd : FuncData} (ws : Ws sg cv P w K mg base n (callN T n)) (F : FunD K d.x d.x d.params d.body d.scope [] [] a fd) (hT : T[f]? = some d.fnd) (hc : chkT sg d = true) :
    FnOk P w K mg base (L2.CX P w) (n + 1) a fd d.ps (spF K cv (callN T (n + 1)) d.np f) := by
  unfold chkT at hc
  rw [Bool.and_eq_true, Bool.and_eq_true, decide_eq_true_eq] at hc
  obtain ⟨⟨h1, h2⟩, h3⟩ := hc
  have S := scope_ok h1
  have hpl : d.ps.length = d.np := by unfold DefT.ps; rw [List.length_take]; omega
  refine F.ok S (fun vs H Q E ⟨z, _⟩ => z.trans hpl.symm) fun cdv A outer s H vs Q E hr ⟨hlen, B, ds, r, tr, dv, ev, post⟩ => ?_
  have c : Cks sg cv n (callN T n) ⟨d.N, d.scope, fun _ => true⟩ E (cxOf (L2.CX P w) P w K mg base d.N d.x d.scope a cdv A outer s H E) :=
    ⟨⟨ws, rfl, rfl, rfl, S.nd, rfl, hr, takes_of rfl rfl rfl rfl⟩, passes_of rfl, rfl, rfl⟩
  refine ⟨_, (ss_all d.s).lst _ E _ c d.body h3, ?_⟩
  have ev : (match T[f]? with
    | none => none
    | some fd => if ds.length = fd.np then endOf (evS (callN T n) fd.body (Mn.start fd.nn ds)) else none) = some r := ev
  rw [hT] at ev
  have ev : (if ds.length = d.np then endOf (evS (callN T n) d.s (Mn.start d.N.length ds)) else none) = some r := ev
  have hdl : ds.length = d.np := dv.length.symm.trans hlen
  rw [if_pos hdl] at ev
  cases eo : evS (callN T n) d.s (Mn.start d.N.length ds) with
  | none => rw [eo] at ev; cases ev
  | some o =>
    rw [eo] at ev
    refine ⟨B, H, _, o, start_rep tr dv, eo, ?_⟩
    cases o with
    | nx ρ => cases ev; exact fun σ H' r => post .non H' r.same .non
    | brk ρ => cases ev
    | cnt ρ => cases ev
    | ret d => cases ev; exact fun v H' s q => post v H' s q
    | exc c ρ => cases ev; exact fun σ H' r => post H' r.same
/-- what the head tells of the program -/
structure Facts (sg : Sg) (cv : Nat → Value) (ds : List DefT) (K : Frag) (mg : Str → Option Value) : Prop where
  gl : ∀ x d, sg.gl.lookup x = some d → ∃ v u, mg x = some u ∧ RelV v u ∧ ∀ H B, Dv K H B v d
  fr : ∀ x ∈ freeN, mg x = none
  ex : ∀ (c : Nat) (x : Str), sg.exs.lookup c = some x → ∃ (C : Addr) (bmB : List Value) (Bn newId initId : String), ExcBaseFacts Bn newId initId bmB ∧ PySem.W.excIn K C bmB newId = true ∧ mg x = some (.ref C) ∧ PySem.W.keepIn K (.ref C) = true ∧
    PySem.W.subIn K (.ref C) (.type "BaseException") = some true ∧ PySem.W.typeIn K (.ref C) = some (.type "type") ∧ cv c = .ref C
  xf : sg.tr = true → XcF sg cv K mg
  df : ∀ (f : Nat) (d : DefT), ds[f]? = some d → ∃ (a : Addr) (fd : FuncData), FunD K d.x d.x d.params d.body d.scope [] [] a fd ∧ mg d.x = some (.ref a) ∧ Binds K fd d.ps []
theorem lookup_mem {α β : Type} [BEq α] [LawfulBEq α] {x : α} {d : β} : ∀ {l : List (α × β)}, l.lookup x = some d → (x, d) ∈ l
  | (y, e) :: l, h => by
    rw [List.lookup_cons] at h
    cases hb : x == y with
    | true =>
      rw [hb] at h
      cases h
      have : x = y := by simpa using hb
      rw [this]; exact List.mem_cons_self
    | false => rw [hb] at h; exact List.mem_cons_of_mem _ (lookup_mem h)
theorem all_ok {ds : List DefT} {T : List FnD} (fc : Facts sg cv ds K mg) (hf : sg.fns = ds.map fun d => (d.g, d.x, d.np)) (hT : (ds.map fun d => T[d.g]?) = ds.map fun d => some d.fnd) (hc : ds.all (chkT sg) = true) : ∀ n, Ws sg cv P w K mg base n (callN T n) := by
  have get : ∀ f x k, sg.fns.lookup f = some (x, k) → ∃ (i : Nat) (d : DefT), ds[i]? = some d ∧ d.g = f ∧ d.x = x ∧ d.np = k ∧ T[f]? = some d.fnd := fun f x k e => by
    have m := lookup_mem e
    rw [hf] at m
    obtain ⟨d, hd, e⟩ := List.mem_map.mp m
    cases e
    obtain ⟨i, hi⟩ := List.mem_iff_getElem?.mp hd
    refine ⟨i, d, hi, rfl, rfl, rfl, ?_⟩
    have q := congrArg (·[i]?) hT
    simp only [List.getElem?_map, hi, Option.map_some, Option.some.injEq] at q
    exact q
  intro n
  induction n with
  | zero =>
    refine ⟨fc.gl, fun f x k e => ?_, fc.fr, fc.ex, fc.xf⟩
    obtain ⟨i, d, ed, e1, e2, e3, hT⟩ := get f x k e
    subst e1 e2 e3
    obtain ⟨a, fd, q1, q2, q3⟩ := fc.df i d ed
    have z := List.all_eq_true.mp hc d (List.mem_of_getElem? ed)
    unfold chkT at z
    rw [Bool.and_eq_true, Bool.and_eq_true, decide_eq_true_eq] at z
    have hpl : d.ps.length = d.np := by unfold DefT.ps; rw [List.length_take]; omega
    exact ⟨a, fd, d.ps, hpl, q2, q1.kp, q3, fn_zero hpl⟩
  | succ n ih =>
    refine ⟨fc.gl, fun f x k e => ?_, fc.fr, fc.ex, fc.xf⟩
    obtain ⟨i, d, ed, e1, e2, e3, hT⟩ := get f x k e
    subst e1 e2 e3
    obtain ⟨a, fd, q1, q2, q3⟩ := fc.df i d ed
    have z := List.all_eq_true.mp hc d (List.mem_of_getElem? ed)
    have z' := z
    unfold chkT at z'
    rw [Bool.and_eq_true, Bool.and_eq_true, decide_eq_true_eq] at z'
    have hpl : d.ps.length = d.np := by unfold DefT.ps; rw [List.length_take]; omega
    exact ⟨a, fd, d.ps, hpl, q2, q1.kp, q3, fn_succ ih q1 hT z⟩
/-! the head's facts -/
def glFa : Str × D → List He.Fa
  | (x, .int i) => [.int x i]
  | (x, .str s) => [.str x (tx s)]
  | _ => []
def glOk : Str × D → Bool
  | (_, .int _) => true
  | (_, .str s) => stB s
  | _ => false
def faOf (sg : Sg) (ds : List DefT) : List He.Fa := (ds.map fun d => He.Fa.glo d.x) ++ freeN.map .free ++ sg.gl.flatMap glFa ++ (sg.exs.map (·.2)).map .exc ++ (sg.exs.map (·.2)).map .glo
def fnOf (ds : List DefT) : List He.DefD := ds.map fun d => ⟨(d.x, none), d.x, d.x, d.params, d.body, d.scope, [], []⟩
def cvOf (sg : Sg) (K : Frag) (c : Nat) : Value := .ref (He.ga K ((sg.exs.lookup c).getD ""))
/-- what isinstance and except ask of the classes -/
def excCB (K : Frag) (D : Addr) : Bool := He.eqO (PySem.W.findIn K (.ref D) "__getattribute__") (some (some (.builtin "BaseException.__getattribute__"))) && He.eqO (PySem.W.findIn K (.ref D) "__getattr__") (some none) && decide (PySem.W.subIn K (.ref D) (.type "BaseException") = some true) && PySem.W.hasDictIn K D &&
  He.eqO (PySem.W.findIn K (.ref D) "__class__") (some (some (.builtin "object.__class__"))) && He.eqO (PySem.W.specialIn K (.builtin "object.__class__") "__get__") (some (some (.builtin "getset_descriptor.__get__"))) && decide (PySem.W.takesIn K (.builtin "object.__class__") = some true) && decide (PySem.W.mroIn K D (.type "object") = some true)
theorem excC_of {K : Frag} {D : Addr} (h : excCB K D = true) : ExcC K D := by
  unfold excCB at h
  simp only [Bool.and_eq_true, decide_eq_true_eq] at h
  obtain ⟨⟨⟨⟨⟨⟨⟨h1, h2⟩, h3⟩, h4⟩, h5⟩, h6⟩, h7⟩, h8⟩ := h
  exact ⟨He.eqO_ok h1, He.eqO_ok h2, h3, h4, He.eqO_ok h5, He.eqO_ok h6, h7, h8⟩
def xcB (sg : Sg) (K : Frag) : Bool := (sg.exs.all fun p => (He.Fa.glo p.2).ok K && excCB K (He.ga K p.2) && (sg.exs.all fun q => decide (PySem.W.kitOne K (.ref (He.ga K p.2)) (.ref (He.ga K q.2)) = some (decide (q.1 = p.1)))) && decide (PySem.W.exmOne K (.ref (He.ga K p.2)) (.ref (He.ga K "PortError")) = some true)) && (He.Fa.glo "PortError").ok K
theorem xcF_of {h : Heap} (X : K.In h) (G : h.Ns mainGlobals mg) (q : xcB sg K = true) : XcF sg (cvOf sg K) K mg := by
  unfold xcB at q
  rw [Bool.and_eq_true, List.all_eq_true] at q
  have key : ∀ c x, sg.exs.lookup c = some x → cvOf sg K c = .ref (He.ga K x) ∧ (c, x) ∈ sg.exs := fun c x e => ⟨by unfold cvOf; rw [e]; rfl, lookup_mem e⟩
  refine ⟨fun c x e => ?_, fun c d x y e1 e2 => ?_, He.ga K "PortError", He.glo_ok X G q.2, fun c x e => ?_⟩
  · obtain ⟨k1, k2⟩ := key c x e
    have z := q.1 _ k2
    simp only [Bool.and_eq_true] at z
    exact ⟨_, k1, He.glo_ok X G z.1.1.1, excC_of z.1.1.2⟩
  · obtain ⟨k1, k2⟩ := key c x e1
    obtain ⟨k3, k4⟩ := key d y e2
    have z := q.1 _ k2
    simp only [Bool.and_eq_true, List.all_eq_true, decide_eq_true_eq] at z
    have w := z.1.2 _ k4
    rw [k1, k3]
    exact w
  · obtain ⟨k1, k2⟩ := key c x e
    have z := q.1 _ k2
    simp only [Bool.and_eq_true, decide_eq_true_eq] at z
    rw [k1]
    exact z.2
theorem facts_of {ds : List DefT} {h : Heap} (X : K.In h) (G : h.Ns mainGlobals mg) (c : He.SaysD (faOf sg ds) (fnOf ds) K) (hg : sg.gl.all glOk = true) (hx : sg.tr = true → xcB sg K = true)
    (hb : ∀ (f : Nat) (d : DefT), ds[f]? = some d → ∀ (kV doc pm : Value) (an : Option Addr) (cdv ct : Value) (us : List Value), us.length = d.ps.length → bindArgs (PySem.W.fnOf d.x d.x d.params d.body d.scope .none kV doc pm an cdv ct) ⟨us, []⟩ = pure (d.ps.zip us)) :
    Facts sg (cvOf sg K) ds K mg := by
  have fact : ∀ f ∈ faOf sg ds, f.ok K = true := fun f hf => by
    obtain ⟨i, hi⟩ := List.mem_iff_getElem?.mp hf
    exact c.fact i hi
  have glo : ∀ d ∈ ds, (He.Fa.glo d.x).ok K = true := fun d hd => fact _ (by
    unfold faOf
    exact List.mem_append_left _ (List.mem_append_left _ (List.mem_append_left _ (List.mem_append_left _ (List.mem_map.mpr ⟨d, hd, rfl⟩)))))
  refine ⟨fun x d e => ?_, fun x hx => ?_, fun k x e => ?_, fun z => xcF_of X G (hx z), fun f d e => ?_⟩
  · have hm := lookup_mem e
    have ok := List.all_eq_true.mp hg _ hm
    have fm : ∀ f ∈ glFa (x, d), f.ok K = true := fun f hf => fact f (by
      unfold faOf
      exact List.mem_append_left _ (List.mem_append_left _ (List.mem_append_right _ (List.mem_flatMap.mpr ⟨_, hm, hf⟩))))
    cases d with
    | int i =>
      obtain ⟨t, q⟩ := He.int_ok X G (fm (.int x i) (List.mem_singleton.mpr rfl))
      exact ⟨.int i, _, q, ⟨t, rfl⟩, fun _ _ => .int i⟩
    | str s =>
      obtain ⟨t, q⟩ := He.str_ok X G (fm (.str x (tx s)) (List.mem_singleton.mpr rfl))
      exact ⟨.str (tx s), _, q, ⟨t, rfl⟩, fun _ _ => .str (st_ok ok)⟩
    | _ => cases ok
  · refine He.free_ok X G (fact (.free x) ?_)
    unfold faOf
    exact List.mem_append_left _ (List.mem_append_left _ (List.mem_append_left _ (List.mem_append_right _ (List.mem_map.mpr ⟨x, hx, rfl⟩))))
  · have hm : x ∈ sg.exs.map (·.2) := List.mem_map.mpr ⟨_, lookup_mem e, rfl⟩
    have q1 := He.exc_ok (fact (.exc x) (by
      unfold faOf
      exact List.mem_append_left _ (List.mem_append_right _ (List.mem_map.mpr ⟨x, hm, rfl⟩))))
    have q2 := He.glo_ok X G (fact (.glo x) (by
      unfold faOf
      exact List.mem_append_right _ (List.mem_map.mpr ⟨x, hm, rfl⟩)))
    exact ⟨He.ga K x, _, _, _, _, PySem.F.excBase_ValueError, q1.1, q2, q1.2.1, q1.2.2.1, q1.2.2.2, by unfold cvOf; rw [e]; rfl⟩
  · obtain ⟨fd, F⟩ := c.def_ f (d := ⟨(d.x, none), d.x, d.x, d.params, d.body, d.scope, [], []⟩) (by unfold fnOf; rw [List.getElem?_map, e]; rfl)
    have F : FunD K d.x d.x d.params d.body d.scope [] [] (He.ga K d.x) fd := F
    exact ⟨_, fd, F, He.glo_ok X G (glo d (List.mem_of_getElem? e)), F.bindsN (hb f d e)⟩
end
/-! the hook that looks at the classes too -/
abbrev AlX : Type := He.AlD × Bool
def obsX (n : Nat) (sg : Sg) (fa : List He.Fa) (fn : List He.DefD) (g : Addr → Option Obj) : AlX := (He.obsDG n fa fn g, xcB sg (He.frG g (He.asD g n)))
def hookX (n : Nat) (sg : Sg) (fa : List He.Fa) (fn : List He.DefD) : PySem.W.Hook where
  α := AlX
  obs := fun s => obsX n sg fa fn s.heap.get?
  val := fun _ => (He.valD fn, true)
  says := fun _ h => ∃ K : PySem.W.Frag, K.In h ∧ He.SaysD fa fn K ∧ xcB sg K = true
  of := fun _ _ e => ⟨_, He.frG_in, congrArg (fun z : AlX => z.1) e, congrArg (fun z : AlX => z.2) e⟩
  keeps := fun _ _ _ ⟨K, hK, c⟩ k => ⟨K, PySem.W.Frag.In.keeps hK k, c⟩
theorem obsX_eq {n : Nat} {sg : Sg} {fa : List He.Fa} {fn : List He.DefD} {g : Addr → Option Obj} {s : Shared} (h : ∀ a, g a = s.heap.get? a) : obsX n sg fa fn g = (hookX n sg fa fn).obs s := by
  have e : g = s.heap.get? := funext h
  rw [e] <;> rfl
end Mn
end
section
set_option Elab.async false
set_option linter.all false
set_option maxRecDepth 100000
set_option maxHeartbeats 4000000
set_option autoImplicit false
/-! D25: from a table and a plain law to the law's walk. -/
namespace Mn
open PySem PySem.Spec L2
theorem fn_close {P : Program} {w : World} {K : Frag} {mg : Str → Option Value} {base : Heap} {k : Nat} {f : Addr} {fd : FuncData} {ps : List Str} {sp : Sp} (F : FnOk P w K mg base (L2.CX P w) k f fd ps sp) :
    FnOk P w K mg base CX0 k f fd ps (fun vs H Q _ => sp vs H Q E0) :=
  ⟨fun vs H Q E h => F.len vs H Q _ h, fun A outer s H args us vs Q E hr he hb hv hs => codeAny_mono (F.run A outer s H args us vs Q E0 hr he hb hv hs) fun r s' h => by
    cases r with
    | error e =>
      obtain ⟨_, _, _, _, _, _, _, _, _, _, _, _, z⟩ := (show L2.CX P w outer H s E0 e s' from h)
      exact z.elim
    | ok fl => cases fl <;> exact h⟩
/-- the law's def, of the table -/
theorem law_fn {sg : Sg} {ds : List DefT} {T : List FnD} {P : Program} {w : World} {K : Frag} {mg : Str → Option Value} {h : Heap} {fa : Addr} {n m f : Nat} {d : DefT} {p : Str} (X : K.In h) (G : h.Ns mainGlobals mg) (c : He.SaysD (faOf sg ds) (fnOf ds) K) (hg : sg.gl.all glOk = true) (hx : sg.tr = true → xcB sg K = true)
    (hb : ∀ (f : Nat) (d : DefT), ds[f]? = some d → ∀ (kV doc pm : Value) (an : Option Addr) (cdv ct : Value) (us : List Value), us.length = d.ps.length → bindArgs (PySem.W.fnOf d.x d.x d.params d.body d.scope .none kV doc pm an cdv ct) ⟨us, []⟩ = pure (d.ps.zip us))
    (hf : sg.fns = ds.map fun d => (d.g, d.x, d.np)) (hT : (ds.map fun d => T[d.g]?) = ds.map fun d => some d.fnd) (hc : ds.all (chkT sg) = true) (hd : ds[f]? = some d) (hps : d.ps = [p]) (hm : mg d.x = some (.ref fa)) (hm64 : m ≤ 64)
    (law : ∀ ns : List Int, ns.length ≤ m → callN T (n + 1) d.g [.scr ns] = rt (.bl true)) :
    ∃ (fd : FuncData) (sp : Sp), (∀ (s : Shared) (u : Value), BindsTo s fd ⟨[u], []⟩ [(p, u)]) ∧ (∀ (H : Hp) (a : Addr) (ns : List Int), ns.length ≤ m → Only H → SqL K H a (ns.map V.int) → sp [.ref a] H (fun v _ => v = .bl true) fun _ _ _ => False) ∧
      ∀ base : Heap, K.In base → base.Ns mainGlobals mg → FnOk P w K mg base CX0 (n + 1) fa fd [p] sp := by
  have fc := facts_of X G c hg hx hb
  obtain ⟨a, fd, F, hma, _⟩ := fc.df f d hd
  rw [hm] at hma
  cases hma
  have z := List.all_eq_true.mp hc d (List.mem_of_getElem? hd)
  have hnp : d.np = 1 := by
    have z' := z
    unfold chkT at z'
    rw [Bool.and_eq_true, Bool.and_eq_true, decide_eq_true_eq] at z'
    have hl := congrArg List.length hps
    unfold DefT.ps at hl
    rw [List.length_take] at hl
    have : [p].length = 1 := rfl
    omega
  have b := FunD.bindsA (ps := d.ps) F (hb f d hd)
  refine ⟨fd, fun vs H Q _ => spF K (cvOf sg K) (callN T (n + 1)) d.np d.g vs H Q E0, fun s u => ?_, fun H a ns hl _ hS => ?_, fun base _ _ => ?_⟩
  · have q := b s [u] (by rw [hps]; rfl)
    rw [hps] at q
    exact q
  · refine ⟨by rw [hnp]; rfl, fun _ => False, [.scr ns], .ok (.bl true), fun _ z => z.elim, .cons (.scr ?_ (by omega)) .nil, law ns hl, fun v H' _ q => ?_⟩
    · rcases hS with q | q
      · exact .inl ⟨fun z => z, q⟩
      · exact .inr q
    · cases q; rfl
  · have ok := fn_succ (P := P) (w := w) (base := base) (all_ok fc hf hT hc n) F (by have q := congrArg (·[f]?) hT; simp only [List.getElem?_map, hd, Option.map_some, Option.some.injEq] at q; exact q) z
    rw [hps] at ok
    exact fn_close ok
end Mn
end
section
set_option linter.all false
set_option maxRecDepth 100000
set_option maxHeartbeats 2000000
/-! Gx: tables of defs: renaming, ranks. Plain Lean. -/
namespace Mn
def renE (σ : Nat → Nat) : E → E
  | .var i => .var i
  | .bor i => .bor i
  | .cst d => .cst d
  | .bin op a b => .bin op (renE σ a) (renE σ b)
  | .neg a => .neg (renE σ a)
  | .not_ a => .not_ (renE σ a)
  | .and_ a b => .and_ (renE σ a) (renE σ b)
  | .or_ a b => .or_ (renE σ a) (renE σ b)
  | .cmp op a b => .cmp op (renE σ a) (renE σ b)
  | .chn p q a b c => .chn p q (renE σ a) (renE σ b) (renE σ c)
  | .ite c a b => .ite (renE σ c) (renE σ a) (renE σ b)
  | .call f as => .call (σ f) (renE σ as)
  | .blt b as => .blt b (renE σ as)
  | .mth m o as => .mth m (renE σ o) (renE σ as)
  | .vw k a => .vw k (renE σ a)
  | .idx a i => .idx (renE σ a) (renE σ i)
  | .isi t a => .isi t (renE σ a)
  | .get o a b => .get (renE σ o) (renE σ a) (renE σ b)
  | .slc a lo hi => .slc (renE σ a) (renE σ lo) (renE σ hi)
  | .tup as => .tup (renE σ as)
  | .lst as => .lst (renE σ as)
  | .dct => .dct
  | .comp own tg it c e => .comp own tg (renE σ it) (renE σ c) (renE σ e)
  | .comp2 own own2 tg it c tg2 it2 c2 e => .comp2 own own2 tg (renE σ it) (renE σ c) tg2 (renE σ it2) (renE σ c2) (renE σ e)
  | .compK own tg i c e => .compK own tg i (renE σ c) (renE σ e)
  | .nil => .nil
  | .cons a as => .cons (renE σ a) (renE σ as)
  | .ival e => .ival (renE σ e)
  | .irng as => .irng (renE σ as)
  | .izip a b => .izip (renE σ a) (renE σ b)
  | .ienum a => .ienum (renE σ a)
def renS (σ : Nat → Nat) : S → S
  | .skip => .skip
  | .seq s t => .seq (renS σ s) (renS σ t)
  | .asg i e => .asg i (renE σ e)
  | .unp is e => .unp is (renE σ e)
  | .par i j a b => .par i j (renE σ a) (renE σ b)
  | .app i e => .app i (renE σ e)
  | .ext i e => .ext i (renE σ e)
  | .pop i => .pop i
  | .put i k v => .put i (renE σ k) (renE σ v)
  | .exp e => .exp (renE σ e)
  | .ret e => .ret (renE σ e)
  | .retN => .retN
  | .ife c t f => .ife (renE σ c) (renS σ t) (renS σ f)
  | .whl c b => .whl (renE σ c) (renS σ b)
  | .for_ tg it b => .for_ tg (renE σ it) (renS σ b)
  | .rais c => .rais c
  | .brk => .brk
  | .cnt => .cnt
  | .tryX b i k hs r => .tryX (renS σ b) i k hs r
def cE : E → List Nat
  | .bin _ a b => cE a ++ cE b
  | .neg a => cE a
  | .not_ a => cE a
  | .and_ a b => cE a ++ cE b
  | .or_ a b => cE a ++ cE b
  | .cmp _ a b => cE a ++ cE b
  | .chn _ _ a b c => cE a ++ cE b ++ cE c
  | .ite c a b => cE c ++ cE a ++ cE b
  | .call f as => f :: cE as
  | .blt _ as => cE as
  | .mth _ o as => cE o ++ cE as
  | .vw _ a => cE a
  | .idx a i => cE a ++ cE i
  | .isi _ a => cE a
  | .get o a b => cE o ++ cE a ++ cE b
  | .slc a lo hi => cE a ++ cE lo ++ cE hi
  | .tup as => cE as
  | .lst as => cE as
  | .comp _ _ it c e => cE it ++ cE c ++ cE e
  | .comp2 _ _ _ it c _ it2 c2 e => cE it ++ cE c ++ cE it2 ++ cE c2 ++ cE e
  | .compK _ _ _ c e => cE c ++ cE e
  | .cons a as => cE a ++ cE as
  | .ival e => cE e
  | .irng as => cE as
  | .izip a b => cE a ++ cE b
  | .ienum a => cE a
  | _ => []
def cS : S → List Nat
  | .seq s t => cS s ++ cS t
  | .asg _ e => cE e
  | .unp _ e => cE e
  | .par _ _ a b => cE a ++ cE b
  | .app _ e => cE e
  | .ext _ e => cE e
  | .put _ k v => cE k ++ cE v
  | .exp e => cE e
  | .ret e => cE e
  | .ife c t f => cE c ++ cS t ++ cS f
  | .whl c b => cE c ++ cS b
  | .for_ _ it b => cE it ++ cS b
  | .tryX b _ _ _ _ => cS b
  | _ => []
@[simp] theorem vars_ren (σ : Nat → Nat) (e : E) : vars (renE σ e) = vars e := by
  induction e <;> simp_all [renE, vars]
@[simp] theorem fresh_ren (σ : Nat → Nat) (e : E) : fresh (renE σ e) = fresh e := by
  cases e with
  | bin op a b => cases op <;> rfl
  | blt b as => cases b <;> rfl
  | vw b as => cases b <;> rfl
  | _ => rfl
section
variable {F F' : Nat → List D → M D} {σ : Nat → Nat}
theorem ev_ren (e : E) (h : ∀ f ∈ cE e, ∀ ds, F f ds = F' (σ f) ds) : (∀ ρ, evE F e ρ = evE F' (renE σ e) ρ) ∧ (∀ ρ, evA F e ρ = evA F' (renE σ e) ρ) ∧ (∀ ρ, evI F e ρ = evI F' (renE σ e) ρ) := by
  induction e with
  | call f as ih =>
    have i := ih fun g hg => h g (List.mem_cons_of_mem _ hg)
    have hf := h f List.mem_cons_self
    refine ⟨fun ρ => ?_, fun ρ => ?_, fun ρ => ?_⟩
    · simp only [renE, evE, i.2.1, hf]
    · simp only [renE, evA]
    · simp only [renE, evI]
  | _ =>
    simp only [cE, List.mem_append] at h
    simp_all [renE, evE, evA, evI]
theorem eS_ren (s : S) (h : ∀ f ∈ cS s, ∀ ds, F f ds = F' (σ f) ds) : ∀ ρ, evS F s ρ = evS F' (renS σ s) ρ := by
  induction s with
  | seq s t i1 i2 =>
    simp only [cS, List.mem_append] at h
    have j1 := i1 fun f hf => h f (.inl hf)
    have j2 := i2 fun f hf => h f (.inr hf)
    intro ρ
    simp only [renS, evS, j1]
    split <;> simp_all
  | ife c t f i1 i2 =>
    simp only [cS, List.mem_append] at h
    have j0 := (ev_ren (F := F) (F' := F') (σ := σ) c fun f hf => h f (.inl (.inl hf))).1
    have j1 := i1 fun f hf => h f (.inl (.inr hf))
    have j2 := i2 fun f hf => h f (.inr hf)
    intro ρ
    simp only [renS, evS, j0, vars_ren, j1, j2]
  | whl c b i1 =>
    simp only [cS, List.mem_append] at h
    have j0 := (ev_ren (F := F) (F' := F') (σ := σ) c fun f hf => h f (.inl hf)).1
    have j1 := i1 fun f hf => h f (.inr hf)
    intro ρ
    have e0 : evE F c = evE F' (renE σ c) := funext j0
    have e1 : evS F b = evS F' (renS σ b) := funext j1
    simp only [renS, evS, e0, e1, vars_ren]
  | for_ tg it b i1 =>
    simp only [cS, List.mem_append] at h
    have j0 := (ev_ren (F := F) (F' := F') (σ := σ) it fun f hf => h f (.inl hf)).2.2
    have j1 := i1 fun f hf => h f (.inr hf)
    intro ρ
    have e1 : evS F b = evS F' (renS σ b) := funext j1
    simp only [renS, evS, j0, e1, vars_ren]
  | par i j a b =>
    simp only [cS, List.mem_append] at h
    have j0 := (ev_ren (F := F) (F' := F') (σ := σ) a fun f hf => h f (.inl hf)).1
    have j1 := (ev_ren (F := F) (F' := F') (σ := σ) b fun f hf => h f (.inr hf)).1
    intro ρ
    simp only [renS, evS, j0, j1, vars_ren, fresh_ren]
  | put i k v =>
    simp only [cS, List.mem_append] at h
    have j0 := (ev_ren (F := F) (F' := F') (σ := σ) k fun f hf => h f (.inl hf)).1
    have j1 := (ev_ren (F := F) (F' := F') (σ := σ) v fun f hf => h f (.inr hf)).1
    intro ρ
    simp only [renS, evS, j0, j1, vars_ren, fresh_ren]
  | tryX b i k hs r i1 =>
    have j1 := i1 fun f hf => h f hf
    intro ρ
    simp only [renS, evS, j1]
  | asg i e => intro ρ; simp only [renS, evS, (ev_ren (F := F) (F' := F') (σ := σ) e h).1, vars_ren, fresh_ren]
  | unp i e => intro ρ; simp only [renS, evS, (ev_ren (F := F) (F' := F') (σ := σ) e h).1, vars_ren, fresh_ren]
  | app i e => intro ρ; simp only [renS, evS, (ev_ren (F := F) (F' := F') (σ := σ) e h).1, vars_ren, fresh_ren]
  | ext i e => intro ρ; simp only [renS, evS, (ev_ren (F := F) (F' := F') (σ := σ) e h).1, vars_ren, fresh_ren]
  | exp e => intro ρ; simp only [renS, evS, (ev_ren (F := F) (F' := F') (σ := σ) e h).1, vars_ren, fresh_ren]
  | ret e => intro ρ; simp only [renS, evS, (ev_ren (F := F) (F' := F') (σ := σ) e h).1, vars_ren, fresh_ren]
  | _ => intro ρ; simp only [renS, evS]
end
theorem renE_id (e : E) : renE id e = e := by
  induction e <;> simp_all [renE]
theorem renS_id (s : S) : renS id s = s := by
  induction s <;> simp_all [renS, renE_id]
theorem eS_congr {F F' : Nat → List D → M D} (s : S) (h : ∀ f ∈ cS s, ∀ ds, F f ds = F' f ds) (ρ : Env) : evS F s ρ = evS F' s ρ := by
  have := eS_ren (σ := id) s h ρ
  rwa [renS_id] at this
/-! a law's table within the great one -/
def sigF (sig : List Nat) (f : Nat) : Nat := sig.getD f 0
def fitT (T G : List FnD) (sig : List Nat) : Prop := (T.map fun d => some (FnD.mk d.np d.nn (renS (sigF sig) d.body))) = sig.map fun i => G[i]?
def shutT (T : List FnD) : Bool := T.all fun d => (cS d.body).all fun f => decide (f < T.length)
theorem call_ren {T G : List FnD} {sig : List Nat} (h : fitT T G sig) (hs : shutT T = true) : ∀ (n f : Nat) (ds : List D), f < T.length → callN T n f ds = callN G n (sigF sig f) ds
  | 0, _, _, _ => rfl
  | n + 1, f, ds, hf => by
    have hl : T.length = sig.length := by have := congrArg List.length h; simpa using this
    have e := congrArg (·[f]?) h
    simp only [List.getElem?_map] at e
    obtain ⟨d, hd⟩ : ∃ d, T[f]? = some d := ⟨T[f], by simp [hf]⟩
    obtain ⟨i, hi⟩ : ∃ i, sig[f]? = some i := ⟨sig[f]'(by omega), by simp [hl ▸ hf]⟩
    have es : sigF sig f = i := by unfold sigF; rw [List.getD_eq_getElem?_getD, hi]; rfl
    rw [hd, hi] at e
    simp only [Option.map_some, Option.some.injEq] at e
    have hc := List.all_eq_true.mp (List.all_eq_true.mp hs d (List.mem_of_getElem? hd))
    have q := eS_ren (F := callN T n) (F' := callN G n) (σ := sigF sig) d.body (fun g hg ds => call_ren h hs n g ds (of_decide_eq_true (hc g hg)))
    simp only [callN]
    rw [hd, es, ← e]
    simp only [q]
/-! ranks -/
def rkOk (G : List FnD) (rk : List Nat) : Bool := (List.range G.length).all fun i => match G[i]? with
  | none => true
  | some d => (cS d.body).all fun f => decide (rk.getD f 99 < rk.getD i 0)
theorem rk_stab {G : List FnD} {rk : List Nat} (h : rkOk G rk = true) : ∀ (n f : Nat) (ds : List D), rk.getD f 99 < n → callN G (n + 1) f ds = callN G n f ds
  | 0, _, _, z => by omega
  | n + 1, f, ds, z => by
    rw [callN, callN]
    cases e : G[f]? with
    | none => rfl
    | some d =>
      have hf : f < G.length := by
        have := List.getElem?_eq_some_iff.mp e
        exact this.1
      have q := List.all_eq_true.mp h f (List.mem_range.mpr hf)
      rw [e] at q
      have q := List.all_eq_true.mp q
      have r : ∀ ρ, evS (callN G (n + 1)) d.body ρ = evS (callN G n) d.body ρ := eS_congr d.body fun g hg ds => by
        have h1 := of_decide_eq_true (q g hg)
        have h2 : rk.getD f 0 ≤ rk.getD f 99 := by
          rw [List.getD_eq_getElem?_getD, List.getD_eq_getElem?_getD]
          cases rk[f]? <;> simp
        exact rk_stab h n g ds (by omega)
      simp only [r]
theorem fx_of {G : List FnD} {rk : List Nat} (h : rkOk G rk = true) {n f : Nat} {d : FnD} (ds : List D) (hd : G[f]? = some d) (hr : rk.getD f 99 < n) (hl : ds.length = d.np) : callN G n f ds = endOf (evS (callN G n) d.body (start d.nn ds)) := by
  rw [← rk_stab h n f ds hr]
  show (match G[f]? with
    | none => none
    | some fd => if ds.length = fd.np then endOf (evS (callN G n) fd.body (start fd.nn ds)) else none) = _
  rw [hd]
  simp only [hl, if_true]
end Mn
end
section
set_option linter.all false
set_option maxRecDepth 100000
set_option maxHeartbeats 1000000
/-! Ev: the evaluator by simp. Plain Lean. -/
namespace Mn
open Mn
def rSh : Option Cl → M D
  | some (.sh d) => rt d
  | _ => none
def rBo : Option Cl → M D
  | some (.sh d) => rt d
  | some (.ow d) => rt d
  | _ => none
def andK : D → M D → M D
  | .bl true, m => m
  | .bl false, _ => rt (.bl false)
  | _, _ => none
def orK : D → M D → M D
  | .bl false, m => m
  | .bl true, _ => rt (.bl true)
  | _, _ => none
def notK : D → M D
  | .bl b => rt (.bl (!b))
  | _ => none
def negK : D → M D
  | .int i => rt (.int (-i))
  | _ => none
def iteK : D → M D → M D → M D
  | .bl true, m, _ => m
  | .bl false, _, m => m
  | _, _, _ => none
def chnK : Option Bool → M D → M D
  | some true, m => m
  | some false, _ => rt (.bl false)
  | none, _ => none
def bK (o : Option Bool) : M D := li (o.map .bl)
def ifK : D → Option Out → Option Out → Option Out
  | .bl true, m, _ => m
  | .bl false, _, m => m
  | _, _, _ => none
def seqK (o : Option Out) (k : Env → Option Out) : Option Out := match o with
  | some (.nx ρ) => k ρ
  | o => o
@[simp] theorem rSh_sh (d : D) : rSh (some (.sh d)) = some (.ok d) := rfl
@[simp] theorem rBo_sh (d : D) : rBo (some (.sh d)) = some (.ok d) := rfl
@[simp] theorem rBo_ow (d : D) : rBo (some (.ow d)) = some (.ok d) := rfl
@[simp] theorem andK_t (m : M D) : andK (.bl true) m = m := rfl
@[simp] theorem andK_f (m : M D) : andK (.bl false) m = some (.ok (.bl false)) := rfl
@[simp] theorem andK_b (b c : Bool) : andK (.bl b) (some (.ok (.bl c))) = some (.ok (.bl (b && c))) := by cases b <;> rfl
@[simp] theorem orK_t (m : M D) : orK (.bl true) m = some (.ok (.bl true)) := rfl
@[simp] theorem orK_f (m : M D) : orK (.bl false) m = m := rfl
@[simp] theorem orK_b (b c : Bool) : orK (.bl b) (some (.ok (.bl c))) = some (.ok (.bl (b || c))) := by cases b <;> rfl
@[simp] theorem notK_b (b : Bool) : notK (.bl b) = some (.ok (.bl (!b))) := rfl
@[simp] theorem negK_i (i : Int) : negK (.int i) = some (.ok (.int (-i))) := rfl
@[simp] theorem iteK_t (m k : M D) : iteK (.bl true) m k = m := rfl
@[simp] theorem iteK_f (m k : M D) : iteK (.bl false) m k = k := rfl
@[simp] theorem chnK_t (m : M D) : chnK (some true) m = m := rfl
@[simp] theorem chnK_f (m : M D) : chnK (some false) m = some (.ok (.bl false)) := rfl
@[simp] theorem chnK_b (b c : Bool) : chnK (some b) (some (.ok (.bl c))) = some (.ok (.bl (b && c))) := by cases b <;> rfl
@[simp] theorem bK_s (b : Bool) : bK (some b) = some (.ok (.bl b)) := rfl
@[simp] theorem ifK_t (m k : Option Out) : ifK (.bl true) m k = m := rfl
@[simp] theorem ifK_f (m k : Option Out) : ifK (.bl false) m k = k := rfl
@[simp] theorem seqK_n (ρ : Env) (k : Env → Option Out) : seqK (some (.nx ρ)) k = k ρ := rfl
@[simp] theorem seqK_r (d : D) (k : Env → Option Out) : seqK (some (.ret d)) k = some (.ret d) := rfl
@[simp] theorem seqK_e (c : Nat) (ρ : Env) (k : Env → Option Out) : seqK (some (.exc c ρ)) k = some (.exc c ρ) := rfl
section
variable (F : Nat → List D → M D) (ρ : Env)
@[simp] theorem v_var (i : Nat) : evE F (.var i) ρ = rSh ρ[i]? := by rw [evE]; rfl
@[simp] theorem v_bor (i : Nat) : evE F (.bor i) ρ = rBo ρ[i]? := by rw [evE]; rfl
@[simp] theorem v_cst (d : D) : evE F (.cst d) ρ = some (.ok d) := by rw [evE]
@[simp] theorem v_bin (op : Bop) (a b : E) : evE F (.bin op a b) ρ = bd (evE F a ρ) fun x => bd (evE F b ρ) fun y => li (binO op x y) := by rw [evE]
@[simp] theorem v_neg (a : E) : evE F (.neg a) ρ = bd (evE F a ρ) negK := by rw [evE]; rfl
@[simp] theorem v_not (a : E) : evE F (.not_ a) ρ = bd (evE F a ρ) notK := by rw [evE]; rfl
@[simp] theorem v_and (a b : E) : evE F (.and_ a b) ρ = bd (evE F a ρ) fun x => andK x (evE F b ρ) := by
  rw [evE]
  congr 1
  funext x
  cases x with
  | bl b => cases b <;> rfl
  | _ => rfl
@[simp] theorem v_or (a b : E) : evE F (.or_ a b) ρ = bd (evE F a ρ) fun x => orK x (evE F b ρ) := by
  rw [evE]
  congr 1
  funext x
  cases x with
  | bl b => cases b <;> rfl
  | _ => rfl
@[simp] theorem v_cmp (op : Cop) (a b : E) : evE F (.cmp op a b) ρ = bd (evE F a ρ) fun x => bd (evE F b ρ) fun y => bK (cmpO op x y) := by rw [evE]; rfl
@[simp] theorem v_chn (p q : Cop) (a b c : E) : evE F (.chn p q a b c) ρ = bd (evE F a ρ) fun x => bd (evE F b ρ) fun y => chnK (cmpO p x y) (bd (evE F c ρ) fun z => bK (cmpO q y z)) := by
  rw [evE]
  congr 1
  funext x
  congr 1
  funext y
  cases cmpO p x y with
  | none => rfl
  | some b => cases b <;> rfl
@[simp] theorem v_ite (c a b : E) : evE F (.ite c a b) ρ = bd (evE F c ρ) fun x => iteK x (evE F a ρ) (evE F b ρ) := by
  rw [evE]
  congr 1
  funext x
  cases x with
  | bl b => cases b <;> rfl
  | _ => rfl
@[simp] theorem v_call (f : Nat) (as : E) : evE F (.call f as) ρ = bd (evA F as ρ) fun ds => F f ds := by rw [evE]
@[simp] theorem v_blt (b : Blt) (as : E) : evE F (.blt b as) ρ = bd (evA F as ρ) fun ds => li (bltO b ds) := by rw [evE]
@[simp] theorem v_mth (m : Mth) (o as : E) : evE F (.mth m o as) ρ = bd (evE F o ρ) fun x => if rcv m x then bd (evA F as ρ) fun ds => li (mthO m x ds) else none := by rw [evE]
@[simp] theorem v_vw (k : Vw) (a : E) : evE F (.vw k a) ρ = bd (evE F a ρ) fun x => li (vwO k x) := by rw [evE]
@[simp] theorem v_idx (a i : E) : evE F (.idx a i) ρ = bd (evE F a ρ) fun x => bd (evE F i ρ) fun y => li (idxO x y) := by rw [evE]
@[simp] theorem v_slc (a lo hi : E) : evE F (.slc a lo hi) ρ = bd (evE F a ρ) fun x => bd (bd (evA F lo ρ) fun l => li (partO l)) fun l => bd (bd (evA F hi ρ) fun h => li (partO h)) fun h => li (slcO x l h) := by rw [evE]
@[simp] theorem v_isi (t : Ty) (a : E) : evE F (.isi t a) ρ = bd (evE F a ρ) fun x => bK (isiO t x) := by rw [evE]; rfl
@[simp] theorem v_get (o a b : E) : evE F (.get o a b) ρ = bd (evE F o ρ) fun x => if rcv .get x then bd (bd (evE F a ρ) fun d => bd (bd (evE F b ρ) fun e => rt [e]) fun ds => rt (d :: ds)) fun ds => li (mthO .get x ds) else none := by rw [evE]
@[simp] theorem v_tup (as : E) : evE F (.tup as) ρ = bd (evA F as ρ) fun ds => if ds.length ≤ lim then rt (.tup ds) else none := by rw [evE]
@[simp] theorem v_lst (as : E) : evE F (.lst as) ρ = bd (evA F as ρ) fun ds => if ds.length ≤ lim then rt (.lst ds) else none := by rw [evE]
@[simp] theorem v_dct : evE F .dct ρ = some (.ok (.dct [] [])) := by rw [evE]
def turnK (own : List Nat) (tg : Tg) (fc fe : Env → M D) (ρ : Env) (x : D) : Option (List D) := match bindTg tg x (wipeE ρ own) with
  | none => none
  | some ρ' => match nx (fc ρ') with
    | some (.bl true) => (nx (fe ρ')).map fun y => [y]
    | some (.bl false) => some []
    | _ => none
@[simp] theorem v_comp (own : List Nat) (tg : Tg) (it c e : E) : evE F (.comp own tg it c e) ρ = bd (evI F it ρ) fun xs => li ((compF (turnK own tg (evE F c) (evE F e) ρ) xs).map .lst) := by rw [evE]; rfl
def compKK (own : List Nat) (tg : Tg) (i : Nat) (fc fe : Env → M D) (ρ : Env) : Option Cl → M D
  | some (.ow (.dct ks ds)) => (match compF (turnK own tg fc fe (ρ.set i (.sh (.dct ks ds)))) (ks.map .str) with
    | none => none
    | some zs => if noD (.lst zs) then rt (.lst zs) else none)
  | _ => none
theorem v_compK (own : List Nat) (tg : Tg) (i : Nat) (c e : E) : evE F (.compK own tg i c e) ρ = compKK own tg i (evE F c) (evE F e) ρ (ρ[i]?) := by rw [evE]; rfl
@[simp] theorem v_nil : evA F .nil ρ = some (.ok []) := by rw [evA]
@[simp] theorem v_cons (a as : E) : evA F (.cons a as) ρ = bd (evE F a ρ) fun d => bd (evA F as ρ) fun ds => some (.ok (d :: ds)) := by rw [evA]
@[simp] theorem v_ival (e : E) : evI F (.ival e) ρ = bd (evE F e ρ) fun d => li (items d) := by rw [evI]
@[simp] theorem v_irng (as : E) : evI F (.irng as) ρ = bd (evA F as ρ) fun ds => li (rangeO ds) := by rw [evI]
def zipK (x y : D) : M (List D) := match items x, items y with
  | some xs, some ys => rt (zipL xs ys)
  | _, _ => none
@[simp] theorem v_izip (a b : E) : evI F (.izip a b) ρ = bd (evE F a ρ) fun x => bd (evE F b ρ) fun y => zipK x y := by rw [evI]; rfl
@[simp] theorem v_ienum (a : E) : evI F (.ienum a) ρ = bd (evE F a ρ) fun x => li ((items x).map (enumL 0)) := by rw [evI]
/-! statements -/
@[simp] theorem s_skip' : evS F .skip ρ = some (.nx ρ) := by rw [evS]
@[simp] theorem s_seq' (s t : S) : evS F (.seq s t) ρ = seqK (evS F s ρ) (evS F t) := by rw [evS]; rfl
@[simp] theorem s_asg' (i : Nat) (e : E) : evS F (.asg i e) ρ = go (frz (vars e) ρ) (evE F e (frz (vars e) ρ)) fun d => some (.nx ((frz (vars e) ρ).set i (mkCl (fresh e) d))) := by rw [evS]
def unpK (is : List Nat) (ρ : Env) : D → Option Out
  | .tup xs => if xs.length = is.length then some (.nx (setAll is xs ρ)) else none
  | _ => none
@[simp] theorem s_unp' (is : List Nat) (e : E) : evS F (.unp is e) ρ = go (frz (vars e) ρ) (evE F e (frz (vars e) ρ)) (unpK is (frz (vars e) ρ)) := by rw [evS]; rfl
@[simp] theorem s_par' (i j : Nat) (a b : E) : evS F (.par i j a b) ρ = go (frz (vars a ++ vars b) ρ) (evE F a (frz (vars a ++ vars b) ρ)) fun x => go (frz (vars a ++ vars b) ρ) (evE F b (frz (vars a ++ vars b) ρ)) fun y => some (.nx (((frz (vars a ++ vars b) ρ).set i (mkCl (fresh a) x)).set j (mkCl (fresh b) y))) := by rw [evS]
@[simp] theorem s_exp' (e : E) : evS F (.exp e) ρ = go (frz (vars e) ρ) (evE F e (frz (vars e) ρ)) fun _ => some (.nx (frz (vars e) ρ)) := by rw [evS]
@[simp] theorem s_ret' (e : E) : evS F (.ret e) ρ = go (frzAll ρ) (evE F e (frzAll ρ)) fun d => some (.ret d) := by rw [evS]
@[simp] theorem s_retN' : evS F .retN ρ = some (.ret .non) := by rw [evS]
@[simp] theorem s_ife' (c : E) (t f : S) : evS F (.ife c t f) ρ = go (frz (vars c) ρ) (evE F c (frz (vars c) ρ)) fun d => ifK d (evS F t (frz (vars c) ρ)) (evS F f (frz (vars c) ρ)) := by
  rw [evS]
  congr 1
  funext x
  cases x with
  | bl b => cases b <;> rfl
  | _ => rfl
@[simp] theorem s_rais' (c : Nat) : evS F (.rais c) ρ = some (.exc c ρ) := by rw [evS]
@[simp] theorem s_brk' : evS F .brk ρ = some (.brk ρ) := by rw [evS]
@[simp] theorem s_cnt' : evS F .cnt ρ = some (.cnt ρ) := by rw [evS]
@[simp] theorem s_try' (b : S) (i k : Nat) (hs : List Hb) (r : Hb) : evS F (.tryX b i k hs r) ρ = tryK hs r (evS F b ρ) := by rw [evS]
def forB (tg : Tg) (f : Env → Option Out) (x : D) (ρ : Env) : Option Out := match bindTg tg x ρ with
  | some ρ' => f ρ'
  | none => none
@[simp] theorem s_for' (tg : Tg) (it : E) (b : S) : evS F (.for_ tg it b) ρ = go (frz (vars it) ρ) (evI F it (frz (vars it) ρ)) fun xs => forF (forB tg (evS F b)) xs (frz (vars it) ρ) := by rw [evS]; rfl
@[simp] theorem s_whl' (c : E) (b : S) : evS F (.whl c b) ρ = whlF (cWhl (vars c) (evE F c)) (evS F b) loops ρ := by rw [evS]
def appK (i : Nat) (ρ : Env) (x : M D) : Option D → Option Out
  | some (.lst xs) => go ρ x fun d => if xs.length < lim then some (.nx (ρ.set i (.ow (.lst (xs ++ [d]))))) else none
  | _ => none
@[simp] theorem s_app' (i : Nat) (e : E) : evS F (.app i e) ρ = appK i (frz (vars e) ρ) (evE F e (frz (vars e) ρ)) (ownAt (frz (vars e) ρ) i) := by rw [evS]; rfl
@[simp] theorem appK_l (i : Nat) (ρ : Env) (x : M D) (xs : List D) : appK i ρ x (some (.lst xs)) = go ρ x fun d => if xs.length < lim then some (.nx (ρ.set i (.ow (.lst (xs ++ [d]))))) else none := rfl
def extK2 (i : Nat) (ρ : Env) (xs : List D) : D → Option Out
  | .lst ys => if xs.length + ys.length ≤ lim then some (.nx (ρ.set i (.ow (.lst (xs ++ ys))))) else none
  | _ => none
def extK (i : Nat) (ρ : Env) (x : M D) : Option D → Option Out
  | some (.lst xs) => go ρ x (extK2 i ρ xs)
  | _ => none
@[simp] theorem s_ext' (i : Nat) (e : E) : evS F (.ext i e) ρ = extK i (frz (vars e) ρ) (evE F e (frz (vars e) ρ)) (ownAt (frz (vars e) ρ) i) := by rw [evS]; rfl
@[simp] theorem extK_l (i : Nat) (ρ : Env) (x : M D) (xs : List D) : extK i ρ x (some (.lst xs)) = go ρ x (extK2 i ρ xs) := rfl
@[simp] theorem extK2_l (i : Nat) (ρ : Env) (xs ys : List D) : extK2 i ρ xs (.lst ys) = if xs.length + ys.length ≤ lim then some (.nx (ρ.set i (.ow (.lst (xs ++ ys))))) else none := rfl
def popK (i : Nat) (ρ : Env) : Option D → Option Out
  | some (.lst xs) => if xs = [] then none else some (.nx (ρ.set i (.ow (.lst xs.dropLast))))
  | _ => none
@[simp] theorem s_pop' (i : Nat) : evS F (.pop i) ρ = popK i ρ (ownAt ρ i) := by rw [evS]; rfl
@[simp] theorem popK_l (i : Nat) (ρ : Env) (xs : List D) : popK i ρ (some (.lst xs)) = if xs = [] then none else some (.nx (ρ.set i (.ow (.lst xs.dropLast)))) := rfl
end
def ownC : Option Cl → Option D
  | some (.ow d) => some d
  | _ => none
@[simp] theorem own_at (ρ : Env) (i : Nat) : ownAt ρ i = ownC ρ[i]? := rfl
@[simp] theorem ownC_o (d : D) : ownC (some (.ow d)) = some d := rfl
def frzK (is : List Nat) (i : Nat) (ρ : Env) : Option Cl → Env
  | some (.ow d) => frz is (ρ.set i (.sh d))
  | _ => frz is ρ
@[simp] theorem frz_n (ρ : Env) : frz [] ρ = ρ := rfl
@[simp] theorem frz_c (i : Nat) (is : List Nat) (ρ : Env) : frz (i :: is) ρ = frzK is i ρ ρ[i]? := by rw [frz]; rfl
@[simp] theorem frzK_o (is : List Nat) (i : Nat) (ρ : Env) (d : D) : frzK is i ρ (some (.ow d)) = frz is (ρ.set i (.sh d)) := rfl
@[simp] theorem frzK_s (is : List Nat) (i : Nat) (ρ : Env) (d : D) : frzK is i ρ (some (.sh d)) = frz is ρ := rfl
@[simp] theorem frzK_n (is : List Nat) (i : Nat) (ρ : Env) : frzK is i ρ (some .no) = frz is ρ := rfl
@[simp] theorem frzAll_n : frzAll [] = [] := rfl
@[simp] theorem frzAll_s (d : D) (ρ : Env) : frzAll (.sh d :: ρ) = .sh d :: frzAll ρ := rfl
@[simp] theorem frzAll_o (d : D) (ρ : Env) : frzAll (.ow d :: ρ) = .sh d :: frzAll ρ := rfl
@[simp] theorem frzAll_no (ρ : Env) : frzAll (.no :: ρ) = .no :: frzAll ρ := rfl
@[simp] theorem unpK_t (is : List Nat) (ρ : Env) (xs : List D) : unpK is ρ (.tup xs) = if xs.length = is.length then some (.nx (setAll is xs ρ)) else none := rfl
@[simp] theorem mkCl_f (d : D) : mkCl false d = .sh d := rfl
@[simp] theorem mkCl_l (xs : List D) : mkCl true (.lst xs) = .ow (.lst xs) := rfl
@[simp] theorem mkCl_d (k : List Tx) (v : List D) : mkCl true (.dct k v) = .ow (.dct k v) := rfl
@[simp] theorem mkCl_s (s : Tx) : mkCl true (.str s) = .sh (.str s) := rfl
@[simp] theorem mkCl_t (s : List D) : mkCl true (.tup s) = .sh (.tup s) := rfl
@[simp] theorem mkCl_i (i : Int) : mkCl true (.int i) = .sh (.int i) := rfl
@[simp] theorem setAll_n (ρ : Env) (ds : List D) : setAll [] ds ρ = ρ := by cases ds <;> rfl
@[simp] theorem setAll_c (i : Nat) (is : List Nat) (d : D) (ds : List D) (ρ : Env) : setAll (i :: is) (d :: ds) ρ = setAll is ds (ρ.set i (.sh d)) := rfl
@[simp] theorem bind_one (i : Nat) (d : D) (ρ : Env) : bindTg (.one i) d ρ = some (ρ.set i (.sh d)) := rfl
@[simp] theorem bind_many (is : List Nat) (xs : List D) (ρ : Env) : bindTg (.many is) (.tup xs) ρ = if xs.length = is.length then some (setAll is xs ρ) else none := rfl
@[simp] theorem end_r (d : D) : endOf (some (.ret d)) = some (.ok d) := rfl
@[simp] theorem end_n (ρ : Env) : endOf (some (.nx ρ)) = some (.ok .non) := rfl
@[simp] theorem end_e (c : Nat) (ρ : Env) : endOf (some (.exc c ρ)) = some (.exc c) := rfl
/-! the names that a piece keeps -/
@[simp] theorem vars_var (i : Nat) : vars (.var i) = [i] := rfl
@[simp] theorem vars_bor (i : Nat) : vars (.bor i) = [] := rfl
@[simp] theorem vars_cst (i : D) : vars (.cst i) = [] := rfl
@[simp] theorem vars_bin (o : Bop) (a b : E) : vars (.bin o a b) = vars a ++ vars b := rfl
@[simp] theorem vars_neg (a : E) : vars (.neg a) = vars a := rfl
@[simp] theorem vars_not (a : E) : vars (.not_ a) = vars a := rfl
@[simp] theorem vars_and (a b : E) : vars (.and_ a b) = vars a ++ vars b := rfl
@[simp] theorem vars_or (a b : E) : vars (.or_ a b) = vars a ++ vars b := rfl
@[simp] theorem vars_cmp (o : Cop) (a b : E) : vars (.cmp o a b) = vars a ++ vars b := rfl
@[simp] theorem vars_chn (p q : Cop) (a b c : E) : vars (.chn p q a b c) = vars a ++ vars b ++ vars c := rfl
@[simp] theorem vars_vw (k : Vw) (a : E) : vars (.vw k a) = vars a := rfl
@[simp] theorem vars_ite (a b c : E) : vars (.ite a b c) = vars a ++ vars b ++ vars c := rfl
@[simp] theorem vars_call (f : Nat) (a : E) : vars (.call f a) = vars a := rfl
@[simp] theorem vars_blt (f : Blt) (a : E) : vars (.blt f a) = vars a := rfl
@[simp] theorem vars_mth (f : Mth) (a b : E) : vars (.mth f a b) = vars a ++ vars b := rfl
@[simp] theorem vars_idx (a b : E) : vars (.idx a b) = vars a ++ vars b := rfl
@[simp] theorem vars_slc (a b c : E) : vars (.slc a b c) = vars a ++ vars b ++ vars c := rfl
@[simp] theorem vars_isi (t : Ty) (a : E) : vars (.isi t a) = vars a := rfl
@[simp] theorem vars_get (a b c : E) : vars (.get a b c) = vars a ++ vars b ++ vars c := rfl
@[simp] theorem vars_tup (a : E) : vars (.tup a) = vars a := rfl
@[simp] theorem vars_lst (a : E) : vars (.lst a) = vars a := rfl
@[simp] theorem vars_dct : vars .dct = [] := rfl
@[simp] theorem vars_comp (o : List Nat) (t : Tg) (a b c : E) : vars (.comp o t a b c) = vars a ++ vars b ++ vars c := rfl
@[simp] theorem vars_nil : vars .nil = [] := rfl
@[simp] theorem vars_cons (a b : E) : vars (.cons a b) = vars a ++ vars b := rfl
@[simp] theorem vars_ival (a : E) : vars (.ival a) = vars a := rfl
@[simp] theorem vars_irng (a : E) : vars (.irng a) = vars a := rfl
@[simp] theorem vars_izip (a b : E) : vars (.izip a b) = vars a ++ vars b := rfl
@[simp] theorem vars_ienum (a : E) : vars (.ienum a) = vars a := rfl
@[simp] theorem fr_lst (a : E) : fresh (.lst a) = true := rfl
@[simp] theorem fr_dct : fresh .dct = true := rfl
@[simp] theorem vars_compK (o : List Nat) (t : Tg) (i : Nat) (b c : E) : vars (.compK o t i b c) = vars b ++ vars c := rfl
@[simp] theorem fr_compK (o : List Nat) (t : Tg) (i : Nat) (b c : E) : fresh (.compK o t i b c) = true := rfl
@[simp] theorem b_listS (x : Tx) : bltO .list [.str x] = some (.lst (x.map fun c => .str [c])) := rfl
@[simp] theorem fr_comp (o : List Nat) (t : Tg) (a b c : E) : fresh (.comp o t a b c) = true := rfl
@[simp] theorem fr_slc (a b c : E) : fresh (.slc a b c) = true := rfl
@[simp] theorem fr_add (a b : E) : fresh (.bin .add a b) = true := rfl
@[simp] theorem fr_mul (a b : E) : fresh (.bin .mul a b) = true := rfl
@[simp] theorem fr_sub (a b : E) : fresh (.bin .sub a b) = false := rfl
@[simp] theorem fr_fdiv (a b : E) : fresh (.bin .fdiv a b) = false := rfl
@[simp] theorem fr_mod (a b : E) : fresh (.bin .mod a b) = false := rfl
@[simp] theorem fr_list (a : E) : fresh (.blt .list a) = true := rfl
@[simp] theorem fr_sorted (a : E) : fresh (.blt .sorted a) = true := rfl
@[simp] theorem fr_dict (a : E) : fresh (.blt .dict a) = true := rfl
@[simp] theorem fr_tuple (a : E) : fresh (.blt .tuple a) = false := rfl
@[simp] theorem fr_len (a : E) : fresh (.blt .len a) = false := rfl
@[simp] theorem fr_var (i : Nat) : fresh (.var i) = false := rfl
@[simp] theorem fr_cst (i : D) : fresh (.cst i) = false := rfl
@[simp] theorem fr_idx (a b : E) : fresh (.idx a b) = false := rfl
@[simp] theorem fr_ite (a b c : E) : fresh (.ite a b c) = false := rfl
@[simp] theorem fr_call (f : Nat) (a : E) : fresh (.call f a) = false := rfl
@[simp] theorem fr_mth (f : Mth) (a b : E) : fresh (.mth f a b) = false := rfl
@[simp] theorem fr_tup (a : E) : fresh (.tup a) = false := rfl
@[simp] theorem fr_and (a b : E) : fresh (.and_ a b) = false := rfl
@[simp] theorem fr_or (a b : E) : fresh (.or_ a b) = false := rfl
@[simp] theorem fr_cmp (o : Cop) (a b : E) : fresh (.cmp o a b) = false := rfl
theorem ifK_no {b : Bool} {m k : Option Out} (h : b = false) : ifK (.bl b) m k = k := by rw [h]; rfl
theorem ifK_yes {b : Bool} {m k : Option Out} (h : b = true) : ifK (.bl b) m k = m := by rw [h]; rfl
/-! operators -/
theorem beq_dec {α : Type} [BEq α] [LawfulBEq α] [DecidableEq α] (x y : α) : (x == y) = decide (x = y) := by
  by_cases h : x = y
  · rw [h]; simp
  · simp [h]
@[simp] theorem o_add (i j : Int) : binO .add (.int i) (.int j) = some (.int (i + j)) := rfl
@[simp] theorem o_sub (i j : Int) : binO .sub (.int i) (.int j) = some (.int (i - j)) := rfl
@[simp] theorem o_mul (i j : Int) : binO .mul (.int i) (.int j) = if i.natAbs < 2 ^ 63 || j.natAbs < 2 ^ 63 then some (.int (i * j)) else none := rfl
@[simp] theorem o_fdiv (i j : Int) : binO .fdiv (.int i) (.int j) = if 0 < j && j < 2 ^ 63 then some (.int (i / j)) else none := rfl
@[simp] theorem o_mod (i j : Int) : binO .mod (.int i) (.int j) = if 0 < j then some (.int (i % j)) else none := rfl
@[simp] theorem o_pow (i j : Int) : binO .pow (.int i) (.int j) = if i.natAbs < 2 ^ 63 && 0 ≤ j && j ≤ 1000 then some (.int (i ^ j.toNat)) else none := rfl
@[simp] theorem o_adds (x y : Tx) : binO .add (.str x) (.str y) = if x.length + y.length ≤ lim then some (.str (x ++ y)) else none := rfl
@[simp] theorem o_muls (x : Tx) (j : Int) : binO .mul (.str x) (.int j) = if 0 ≤ j && j ≤ 1000 && x.length ≤ 1000 then some (.str (repL x j.toNat)) else none := rfl
@[simp] theorem c_eqi (i j : Int) : cmpO .eq (.int i) (.int j) = some (decide (i = j)) := by
  show (if true && true then some (i == j) else none) = _
  simp [beq_dec]
@[simp] theorem c_nei (i j : Int) : cmpO .ne (.int i) (.int j) = some (!decide (i = j)) := by
  show ((if true && true then some (i == j) else none) : Option Bool).map (!·) = _
  simp [beq_dec]
@[simp] theorem c_eqs (x y : Tx) : cmpO .eq (.str x) (.str y) = some (decide (x = y)) := by
  show (if true && true then some (x == y) else none) = _
  simp [beq_dec]
@[simp] theorem c_nes (x y : Tx) : cmpO .ne (.str x) (.str y) = some (!decide (x = y)) := by
  show ((if true && true then some (x == y) else none) : Option Bool).map (!·) = _
  simp [beq_dec]
@[simp] theorem c_eqb (x y : Bool) : cmpO .eq (.bl x) (.bl y) = some (decide (x = y)) := by cases x <;> cases y <;> rfl
@[simp] theorem c_neb (x y : Bool) : cmpO .ne (.bl x) (.bl y) = some (!decide (x = y)) := by cases x <;> cases y <;> rfl
@[simp] theorem c_lti (i j : Int) : cmpO .lt (.int i) (.int j) = some (decide (i < j)) := rfl
@[simp] theorem c_lei (i j : Int) : cmpO .le (.int i) (.int j) = some (decide (i ≤ j)) := rfl
@[simp] theorem c_gti (i j : Int) : cmpO .gt (.int i) (.int j) = some (decide (j < i)) := rfl
@[simp] theorem c_gei (i j : Int) : cmpO .ge (.int i) (.int j) = some (decide (j ≤ i)) := rfl
@[simp] theorem c_lts (x y : Tx) : cmpO .lt (.str x) (.str y) = some (ltTx x y) := rfl
@[simp] theorem c_ins (c : Nat) (t : Tx) : cmpO .isIn (.str [c]) (.str t) = some (decide (c ∈ t)) := rfl
@[simp] theorem c_notins (c : Nat) (t : Tx) : cmpO .notIn (.str [c]) (.str t) = some (!decide (c ∈ t)) := rfl
@[simp] theorem c_isb (a b : Bool) : cmpO .is (.bl a) (.bl b) = some (decide (a = b)) := rfl
@[simp] theorem i_strs (s : Tx) : isiO .str (.str s) = some true := rfl
@[simp] theorem i_stri (s : Int) : isiO .str (.int s) = some false := rfl
@[simp] theorem i_strl (s : List D) : isiO .str (.lst s) = some false := rfl
@[simp] theorem i_tupt (s : List D) : isiO .tuple (.tup s) = some true := rfl
@[simp] theorem i_inti (s : Int) : isiO .int (.int s) = some true := rfl
@[simp] theorem i_booli (s : Int) : isiO .bool (.int s) = some false := rfl
@[simp] theorem i_boolb (s : Bool) : isiO .bool (.bl s) = some true := rfl
@[simp] theorem b_lens (x : Tx) : bltO .len [.str x] = some (.int x.length) := rfl
@[simp] theorem b_lenl (x : List D) : bltO .len [.lst x] = some (.int x.length) := rfl
@[simp] theorem b_lent (x : List D) : bltO .len [.tup x] = some (.int x.length) := rfl
@[simp] theorem b_lenc (x : List Int) : bltO .len [.scr x] = some (.int x.length) := rfl
@[simp] theorem b_max2 (i j : Int) : bltO .max2 [.int i, .int j] = some (.int (if j > i then j else i)) := rfl
@[simp] theorem b_min2 (i j : Int) : bltO .min2 [.int i, .int j] = some (.int (if j < i then j else i)) := rfl
@[simp] theorem b_all (x : List D) : bltO .all [.lst x] = (allB x).map .bl := rfl
@[simp] theorem b_any (x : List D) : bltO .any [.lst x] = (anyB x).map .bl := rfl
@[simp] theorem sl_s (x : Tx) (a b : Option Int) : slcO (.str x) a b = some (.str (cut x a b)) := rfl
@[simp] theorem sl_l (x : List D) (a b : Option Int) : slcO (.lst x) a b = some (.lst (cut x a b)) := rfl
@[simp] theorem sl_t (x : List D) (a b : Option Int) : slcO (.tup x) a b = some (.tup (cut x a b)) := rfl
@[simp] theorem pa_n : partO [] = some none := rfl
@[simp] theorem pa_i (i : Int) : partO [.int i] = some (some i) := rfl
@[simp] theorem it_s (x : Tx) : items (.str x) = some (x.map fun c => .str [c]) := rfl
@[simp] theorem it_l (x : List D) : items (.lst x) = some x := rfl
@[simp] theorem it_t (x : List D) : items (.tup x) = some x := rfl
theorem call_succ {T : List FnD} (n f : Nat) (ds : List D) (fd : FnD) (h : T[f]? = some fd) (hl : ds.length = fd.np) : callN T (n + 1) f ds = endOf (evS (callN T n) fd.body (start fd.nn ds)) := by
  show (match T[f]? with
    | none => none
    | some fd => if ds.length = fd.np then endOf (evS (callN T n) fd.body (start fd.nn ds)) else none) = _
  rw [h]
  simp only [hl, if_true]
end Mn
end
section
set_option linter.all false
set_option maxRecDepth 100000
/-! TG: the great table (printed by gen/gg.py). -/
namespace Mn
open PySem Mn
def g_SMALL : Tx := [97, 98, 99, 100, 101, 102, 103, 104, 105, 106, 107, 108, 109, 110, 111, 112, 113, 114, 115, 116, 117, 118, 119, 120, 121, 122]
def g_CAPITAL : Tx := [65, 66, 67, 68, 69, 70, 71, 72, 73, 74, 75, 76, 77, 78, 79, 80, 81, 82, 83, 84, 85, 86, 87, 88, 89, 90]
def g_SIGNS : Tx := [32, 45, 46, 48, 49, 50, 51, 52, 53, 54, 55, 56, 57, 65, 66, 67, 68, 69, 70, 71, 72, 73, 74, 75, 76, 77, 78, 79, 80, 81, 82, 83, 84, 85, 86, 87, 88, 89, 90, 95, 97, 98, 99, 100, 101, 102, 103, 104, 105, 106, 107, 108, 109, 110, 111, 112, 113, 114, 115, 116, 117, 118, 119, 120, 121, 122]
def g_DROPPABLE : Tx := [32, 45, 46, 95]
def g_DIGITS : Tx := [48, 49, 50, 51, 52, 53, 54, 55, 56, 57]
def g_BETWEEN : Tx := [47]
def g_FOLD : Tx := [102, 111, 108, 100]
def g_KEEP : Tx := [107, 101, 101, 112]
def b_is_int : S := (.seq (.ret (.and_ (.isi .int (.bor 0)) (.and_ (.not_ (.isi .bool (.bor 0))) (.chn .le .le (.bor 1) (.bor 0) (.bor 2))))) .skip)
abbrev i_is_int : Nat := 0
def b_is_sign : S := (.seq (.ret (.and_ (.isi .str (.bor 0)) (.and_ (.cmp .eq (.blt .len (.cons (.bor 0) .nil)) (.cst (.int 1))) (.cmp .isIn (.bor 0) (.cst (.str g_SIGNS)))))) .skip)
abbrev i_is_sign : Nat := 1
def b_is_name : S := (.seq (.ife (.or_ (.not_ (.isi .str (.bor 0))) (.not_ (.chn .le .le (.cst (.int 1)) (.blt .len (.cons (.bor 0) .nil)) (.cst (.int 12))))) (.seq (.ret (.cst (.bl false))) .skip) .skip) (.seq (.ret (.blt .all (.cons (.comp [1] (.one 1) (.ival (.bor 0)) (.cst (.bl true)) (.cmp .isIn (.bor 1) (.cst (.str g_SIGNS)))) .nil))) .skip))
abbrev i_is_name : Nat := 2
def b_rises : S := (.seq (.ret (.blt .all (.cons (.comp [1, 2] (.many [1, 2]) (.izip (.bor 0) (.slc (.bor 0) (.cons (.cst (.int 1)) .nil) .nil)) (.cst (.bl true)) (.cmp .lt (.bor 1) (.bor 2))) .nil))) .skip)
abbrev i_rises : Nat := 3
def b_is_turn : S := (.seq (.ret (.and_ (.isi .tuple (.bor 0)) (.and_ (.cmp .eq (.blt .len (.cons (.bor 0) .nil)) (.cst (.int 2))) (.and_ (.call 1 (.cons (.idx (.bor 0) (.cst (.int 0))) .nil)) (.call 1 (.cons (.idx (.bor 0) (.cst (.int 1))) .nil)))))) .skip)
abbrev i_is_turn : Nat := 4
def b_are_turns : S := (.seq (.ife (.or_ (.not_ (.isi .tuple (.bor 0))) (.or_ (.cmp .gt (.blt .len (.cons (.bor 0) .nil)) (.cst (.int 6))) (.not_ (.blt .all (.cons (.comp [1] (.one 1) (.ival (.bor 0)) (.cst (.bl true)) (.call 4 (.cons (.var 1) .nil))) .nil))))) (.seq (.ret (.cst (.bl false))) .skip) .skip) (.seq (.ret (.call 3 (.cons (.comp [1] (.one 1) (.ival (.bor 0)) (.cst (.bl true)) (.idx (.bor 1) (.cst (.int 0)))) .nil))) .skip))
abbrev i_are_turns : Nat := 5
def b_is_disk : S := (.seq (.ife (.or_ (.not_ (.isi .tuple (.bor 0))) (.cmp .ne (.blt .len (.cons (.bor 0) .nil)) (.cst (.int 4)))) (.seq (.ret (.cst (.bl false))) .skip) .skip) (.seq (.unp [1, 2, 3, 4] (.var 0)) (.seq (.ife (.or_ (.not_ (.isi .bool (.bor 1))) (.or_ (.not_ (.call 5 (.cons (.var 2) .nil))) (.not_ (.call 0 (.cons (.var 3) (.cons (.cst (.int 1)) (.cons (.cst (.int 12)) .nil))))))) (.seq (.ret (.cst (.bl false))) .skip) .skip) (.seq (.ife (.or_ (.not_ (.isi .str (.bor 4))) (.cmp .gt (.blt .len (.cons (.bor 4) .nil)) (.cst (.int 4)))) (.seq (.ret (.cst (.bl false))) .skip) .skip) (.seq (.ret (.and_ (.blt .all (.cons (.comp [5] (.one 5) (.ival (.bor 4)) (.cst (.bl true)) (.cmp .isIn (.bor 5) (.cst (.str g_SIGNS)))) .nil)) (.call 3 (.cons (.var 4) .nil)))) .skip)))))
abbrev i_is_disk : Nat := 6
def b_check_disk : S := (.seq (.ife (.not_ (.call 6 (.cons (.var 0) .nil))) (.seq (.rais 0) .skip) .skip) .skip)
abbrev i_check_disk : Nat := 7
def b_check_name : S := (.seq (.ife (.not_ (.call 2 (.cons (.var 0) .nil))) (.seq (.rais 2) .skip) .skip) .skip)
abbrev i_check_name : Nat := 8
def b_image_of : S := (.seq (.ife (.and_ (.idx (.bor 0) (.cst (.int 0))) (.cmp .isIn (.bor 1) (.cst (.str g_CAPITAL)))) (.seq (.asg 1 (.idx (.cst (.str g_SMALL)) (.mth .index (.cst (.str g_CAPITAL)) (.cons (.bor 1) .nil)))) .skip) .skip) (.seq (.asg 2 (.comp [3, 4] (.many [3, 4]) (.ival (.idx (.bor 0) (.cst (.int 1)))) (.cmp .eq (.bor 3) (.bor 1)) (.var 4))) (.seq (.ret (.ite (.cmp .ne (.bor 2) (.lst .nil)) (.idx (.bor 2) (.cst (.int 0))) (.var 1))) .skip)))
abbrev i_image_of : Nat := 9
def b_image : S := (.seq (.exp (.call 7 (.cons (.var 0) .nil))) (.seq (.ife (.not_ (.call 1 (.cons (.var 1) .nil))) (.seq (.rais 1) .skip) .skip) (.seq (.ret (.call 9 (.cons (.var 0) (.cons (.var 1) .nil)))) .skip)))
abbrev i_image : Nat := 10
def b_place_of : S := (.seq (.asg 2 (.slc (.mth .join (.cst (.str [])) (.cons (.comp [3] (.one 3) (.ival (.bor 1)) (.cst (.bl true)) (.call 9 (.cons (.var 0) (.cons (.var 3) .nil)))) .nil)) .nil (.cons (.idx (.bor 0) (.cst (.int 2))) .nil))) (.seq (.whl (.and_ (.cmp .ne (.bor 2) (.cst (.str []))) (.cmp .isIn (.idx (.bor 2) (.neg (.cst (.int 1)))) (.idx (.bor 0) (.cst (.int 3))))) (.seq (.asg 2 (.slc (.bor 2) .nil (.cons (.neg (.cst (.int 1))) .nil))) .skip)) (.seq (.ret (.var 2)) .skip)))
abbrev i_place_of : Nat := 11
def b_place : S := (.seq (.exp (.call 7 (.cons (.var 0) .nil))) (.seq (.exp (.call 8 (.cons (.var 1) .nil))) (.seq (.ret (.call 11 (.cons (.var 0) (.cons (.var 1) .nil)))) .skip)))
abbrev i_place : Nat := 12
def b_do_collide : S := (.seq (.ret (.cmp .eq (.call 11 (.cons (.var 0) (.cons (.var 1) .nil))) (.call 11 (.cons (.var 0) (.cons (.var 2) .nil))))) .skip)
abbrev i_do_collide : Nat := 13
def b_collide : S := (.seq (.exp (.call 7 (.cons (.var 0) .nil))) (.seq (.exp (.call 8 (.cons (.var 1) .nil))) (.seq (.exp (.call 8 (.cons (.var 2) .nil))) (.seq (.ret (.call 13 (.cons (.var 0) (.cons (.var 1) (.cons (.var 2) .nil))))) .skip))))
abbrev i_collide : Nat := 14
def b__law_pick_k01 : S := (.seq (.asg 3 (.ite (.cmp .ne (.bor 0) (.lst .nil)) (.idx (.bor 0) (.bin .mod (.bor 1) (.blt .len (.cons (.bor 0) .nil)))) (.cst (.int 0)))) (.seq (.par 4 5 (.bin .fdiv (.bor 3) (.bin .pow (.cst (.int 10)) (.cst (.int 18)))) (.bin .fdiv (.bor 1) (.blt .max2 (.cons (.blt .len (.cons (.bor 0) .nil)) (.cons (.cst (.int 1)) .nil))))) (.seq (.whl (.and_ (.cmp .gt (.bor 4) (.cst (.int 0))) (.cmp .gt (.bor 5) (.cst (.int 0)))) (.seq (.par 4 5 (.bin .fdiv (.bor 4) (.cst (.int 840))) (.bin .sub (.bor 5) (.cst (.int 1)))) .skip)) (.seq (.ife (.cmp .gt (.bor 4) (.cst (.int 0))) (.seq (.ret (.bin .mod (.bin .mod (.bor 4) (.cst (.int 840))) (.bor 2))) .skip) .skip) (.seq (.asg 6 (.bin .mod (.bin .mul (.bin .add (.bin .mul (.bor 3) (.cst (.int 31))) (.bin .mul (.cst (.int 6151)) (.bin .add (.bor 1) (.cst (.int 1))))) (.cst (.int 40692))) (.cst (.int 2147483399)))) (.seq (.ret (.bin .mod (.bin .mod (.bin .add (.bin .mul (.bor 6) (.bor 6)) (.bin .fdiv (.bor 6) (.cst (.int 31)))) (.cst (.int 2147483629))) (.bor 2))) .skip))))))
abbrev i__law_pick_k01 : Nat := 15
def b__law_disk_k01 : S := (.seq (.par 2 3 (.cst (.str [97, 98, 46, 45, 32, 65, 95, 66])) (.lst .nil)) (.seq (.for_ (.one 4) (.irng (.cons (.call 15 (.cons (.var 0) (.cons (.var 1) (.cons (.cst (.int 4)) .nil)))) .nil)) (.seq (.asg 7 (.tup (.cons (.idx (.bor 2) (.call 15 (.cons (.var 0) (.cons (.bin .add (.bin .add (.bor 1) (.cst (.int 1))) (.bin .mul (.cst (.int 2)) (.bor 4))) (.cons (.cst (.int 8)) .nil))))) (.cons (.idx (.bor 2) (.call 15 (.cons (.var 0) (.cons (.bin .add (.bin .add (.bor 1) (.cst (.int 2))) (.bin .mul (.cst (.int 2)) (.bor 4))) (.cons (.cst (.int 8)) .nil))))) .nil)))) (.seq (.ife (.cmp .notIn (.idx (.bor 7) (.cst (.int 0))) (.comp [9] (.one 9) (.ival (.bor 3)) (.cst (.bl true)) (.idx (.bor 9) (.cst (.int 0))))) (.seq (.app 3 (.var 7)) .skip) .skip) .skip))) (.seq (.asg 5 (.mth .join (.cst (.str [])) (.cons (.comp [8] (.one 8) (.ival (.cst (.str [32, 45, 46, 97]))) (.cmp .eq (.call 15 (.cons (.var 0) (.cons (.bin .add (.bin .add (.bor 1) (.cst (.int 10))) (.mth .index (.cst (.str [32, 45, 46, 97])) (.cons (.bor 8) .nil))) (.cons (.cst (.int 3)) .nil)))) (.cst (.int 0))) (.var 8)) .nil))) (.seq (.asg 6 (.idx (.tup (.cons (.cst (.int 1)) (.cons (.cst (.int 2)) (.cons (.cst (.int 3)) (.cons (.cst (.int 4)) (.cons (.cst (.int 12)) (.cons (.cst (.int 8)) (.cons (.cst (.int 2)) .nil)))))))) (.call 15 (.cons (.var 0) (.cons (.bin .add (.bor 1) (.cst (.int 20))) (.cons (.cst (.int 7)) .nil)))))) (.seq (.ret (.tup (.cons (.cmp .eq (.call 15 (.cons (.var 0) (.cons (.bin .add (.bor 1) (.cst (.int 21))) (.cons (.cst (.int 2)) .nil)))) (.cst (.int 0))) (.cons (.blt .tuple (.cons (.blt .sorted (.cons (.bor 3) .nil)) .nil)) (.cons (.var 6) (.cons (.var 5) .nil)))))) .skip)))))
abbrev i__law_disk_k01 : Nat := 16
def b__law_signs_k01 : S := (.seq (.asg 0 (.cst (.str [97, 98, 99, 100, 101, 102, 103, 104, 105, 106, 107, 108, 109, 110, 111, 112, 113, 114, 115, 116, 117, 118, 119, 120, 121, 122]))) (.seq (.ret (.bin .add (.bin .add (.bin .add (.bin .add (.cst (.str [32, 45, 46])) (.cst (.str [48, 49, 50, 51, 52, 53, 54, 55, 56, 57]))) (.mth .upper (.bor 0) .nil)) (.cst (.str [95]))) (.bor 0))) .skip))
abbrev i__law_signs_k01 : Nat := 17
def b__law_image : S := (.seq (.asg 1 (.ite (.idx (.bor 0) (.cst (.int 0))) (.mth .lower (.bor 1) .nil) (.var 1))) (.seq (.ret (.get (.blt .dict (.cons (.idx (.bor 0) (.cst (.int 1))) .nil)) (.var 1) (.var 1))) .skip))
abbrev i__law_image : Nat := 18
def b__law_name_k01 : S := (.seq (.asg 3 (.bin .add (.cst (.int 1)) (.call 15 (.cons (.var 0) (.cons (.var 1) (.cons (.var 2) .nil)))))) (.seq (.ret (.mth .join (.cst (.str [])) (.cons (.comp [4] (.one 4) (.irng (.cons (.bor 3) .nil)) (.cst (.bl true)) (.idx (.cst (.str [97, 98, 46, 45, 32, 65, 95, 66, 99])) (.call 15 (.cons (.var 0) (.cons (.bin .add (.bin .add (.bor 1) (.cst (.int 1))) (.bor 4)) (.cons (.cst (.int 9)) .nil)))))) .nil))) .skip))
abbrev i__law_name_k01 : Nat := 19
def b__law_place_k01 : S := (.seq (.asg 2 (.slc (.comp [3] (.one 3) (.ival (.bor 1)) (.cst (.bl true)) (.call 18 (.cons (.var 0) (.cons (.var 3) .nil)))) .nil (.cons (.idx (.bor 0) (.cst (.int 2))) .nil))) (.seq (.whl (.and_ (.cmp .ne (.bor 2) (.lst .nil)) (.cmp .isIn (.idx (.bor 2) (.neg (.cst (.int 1)))) (.idx (.bor 0) (.cst (.int 3))))) (.seq (.pop 2) .skip)) (.seq (.ret (.mth .join (.cst (.str [])) (.cons (.bor 2) .nil))) .skip)))
abbrev i__law_place_k01 : Nat := 20
def b_are_names : S := (.seq (.ife (.or_ (.not_ (.isi .tuple (.bor 0))) (.or_ (.cmp .gt (.blt .len (.cons (.bor 0) .nil)) (.cst (.int 8))) (.not_ (.blt .all (.cons (.comp [1] (.one 1) (.ival (.bor 0)) (.cst (.bl true)) (.call 2 (.cons (.var 1) .nil))) .nil))))) (.seq (.ret (.cst (.bl false))) .skip) .skip) (.seq (.ret (.call 3 (.cons (.var 0) .nil))) .skip))
abbrev i_are_names : Nat := 23
def b_check_names : S := (.seq (.ife (.not_ (.call 23 (.cons (.var 0) .nil))) (.seq (.rais 3) .skip) .skip) .skip)
abbrev i_check_names : Nat := 24
def b_by_places : S := (.seq (.asg 2 .dct) (.seq (.for_ (.one 3) (.ival (.var 1)) (.seq (.asg 4 (.call 11 (.cons (.var 0) (.cons (.var 3) .nil)))) (.seq (.put 2 (.var 4) (.bin .add (.get (.bor 2) (.var 4) (.tup .nil)) (.tup (.cons (.var 3) .nil)))) .skip))) (.seq (.ret (.var 2)) .skip)))
abbrev i_by_places : Nat := 25
def b_groups : S := (.seq (.exp (.call 7 (.cons (.var 0) .nil))) (.seq (.exp (.call 24 (.cons (.var 1) .nil))) (.seq (.ret (.vw .sortItems (.call 25 (.cons (.var 0) (.cons (.var 1) .nil))))) .skip)))
abbrev i_groups : Nat := 26
def b_are_safe : S := (.seq (.asg 2 (.call 25 (.cons (.var 0) (.cons (.var 1) .nil)))) (.seq (.ret (.and_ (.cmp .notIn (.cst (.str [])) (.bor 2)) (.cmp .eq (.blt .len (.cons (.bor 2) .nil)) (.blt .len (.cons (.bor 1) .nil))))) .skip))
abbrev i_are_safe : Nat := 27
def b_is_safe : S := (.seq (.exp (.call 7 (.cons (.var 0) .nil))) (.seq (.exp (.call 24 (.cons (.var 1) .nil))) (.seq (.ret (.call 27 (.cons (.var 0) (.cons (.var 1) .nil)))) .skip)))
abbrev i_is_safe : Nat := 28
def b_parts : S := (.seq (.asg 1 (.lst (.cons (.tup .nil) .nil))) (.seq (.for_ (.one 2) (.ival (.var 0)) (.seq (.asg 1 (.bin .add (.bor 1) (.comp [3] (.one 3) (.ival (.bor 1)) (.cst (.bl true)) (.bin .add (.bor 3) (.tup (.cons (.var 2) .nil)))))) .skip)) (.seq (.ret (.blt .sorted (.cons (.bor 1) .nil))) .skip)))
abbrev i_parts : Nat := 29
def b_safe_parts : S := (.seq (.exp (.call 7 (.cons (.var 0) .nil))) (.seq (.exp (.call 24 (.cons (.var 1) .nil))) (.seq (.asg 2 (.comp [4] (.one 4) (.ival (.call 29 (.cons (.var 1) .nil))) (.call 27 (.cons (.var 0) (.cons (.var 4) .nil))) (.var 4))) (.seq (.asg 3 (.blt .max1 (.cons (.comp [4] (.one 4) (.ival (.bor 2)) (.cst (.bl true)) (.blt .len (.cons (.bor 4) .nil))) .nil))) (.seq (.ret (.comp [4] (.one 4) (.ival (.bor 2)) (.cmp .eq (.blt .len (.cons (.bor 4) .nil)) (.bor 3)) (.var 4))) .skip)))))
abbrev i_safe_parts : Nat := 30
def b__law_names : S := (.seq (.asg 3 (.comp [4] (.one 4) (.irng (.cons (.call 15 (.cons (.var 0) (.cons (.var 1) (.cons (.bin .add (.bor 2) (.cst (.int 1))) .nil)))) .nil)) (.cst (.bl true)) (.call 19 (.cons (.var 0) (.cons (.bin .add (.bin .add (.bor 1) (.cst (.int 1))) (.bin .mul (.cst (.int 6)) (.bor 4))) (.cons (.cst (.int 4)) .nil)))))) (.seq (.ret (.blt .tuple (.cons (.vw .sortSet (.bor 3)) .nil))) .skip))
abbrev i__law_names : Nat := 31
def b_law_k03 : S := (.seq (.for_ (.one 1) (.irng (.cons (.cst (.int 3)) .nil)) (.seq (.par 2 3 (.call 16 (.cons (.var 0) (.cons (.bin .mul (.cst (.int 90)) (.bor 1)) .nil))) (.call 31 (.cons (.var 0) (.cons (.bin .add (.bin .mul (.cst (.int 90)) (.bor 1)) (.cst (.int 25))) (.cons (.cst (.int 6)) .nil))))) (.seq (.asg 4 .dct) (.seq (.for_ (.one 5) (.ival (.var 3)) (.seq (.put 4 (.call 20 (.cons (.var 2) (.cons (.var 5) .nil))) (.bin .add (.get (.bor 4) (.call 20 (.cons (.var 2) (.cons (.var 5) .nil))) (.tup .nil)) (.tup (.cons (.var 5) .nil)))) .skip)) (.seq (.ife (.cmp .ne (.call 26 (.cons (.var 2) (.cons (.var 3) .nil))) (.blt .sorted (.cons (.compK [11] (.one 11) 4 (.cst (.bl true)) (.tup (.cons (.var 11) (.cons (.idx (.bor 4) (.bor 11)) .nil)))) .nil))) (.seq (.ret (.cst (.bl false))) .skip) .skip) (.seq (.ife (.cmp .ne (.call 28 (.cons (.var 2) (.cons (.var 3) .nil))) (.and_ (.cmp .notIn (.cst (.str [])) (.bor 4)) (.cmp .eq (.blt .len (.cons (.bor 4) .nil)) (.blt .len (.cons (.bor 3) .nil))))) (.seq (.ret (.cst (.bl false))) .skip) .skip) (.seq (.par 6 7 (.lst (.cons (.tup .nil) .nil)) (.cst (.int 0))) (.seq (.for_ (.one 5) (.ival (.var 3)) (.seq (.asg 6 (.bin .add (.bor 6) (.comp [9] (.one 9) (.ival (.bor 6)) (.cst (.bl true)) (.bin .add (.bor 9) (.tup (.cons (.var 5) .nil)))))) .skip)) (.seq (.asg 8 (.lst .nil)) (.seq (.for_ (.one 9) (.ival (.var 6)) (.seq (.asg 10 (.comp [5] (.one 5) (.ival (.bor 9)) (.cst (.bl true)) (.call 20 (.cons (.var 2) (.cons (.var 5) .nil))))) (.seq (.ife (.and_ (.cmp .notIn (.cst (.str [])) (.bor 10)) (.cmp .eq (.vw .lenSet (.bor 10)) (.blt .len (.cons (.bor 10) .nil)))) (.seq (.app 8 (.var 9)) (.seq (.asg 7 (.blt .max2 (.cons (.bor 7) (.cons (.blt .len (.cons (.bor 9) .nil)) .nil)))) .skip)) .skip) .skip))) (.seq (.ife (.cmp .ne (.call 30 (.cons (.var 2) (.cons (.var 3) .nil))) (.blt .sorted (.cons (.comp [9] (.one 9) (.ival (.bor 8)) (.cmp .eq (.blt .len (.cons (.bor 9) .nil)) (.bor 7)) (.var 9)) .nil))) (.seq (.ret (.cst (.bl false))) .skip) .skip) (.seq (.ife (.cmp .ne (.bor 7) (.blt .len (.cons (.compK [11] (.one 11) 4 (.cmp .ne (.bor 11) (.cst (.str []))) (.var 11)) .nil))) (.seq (.ret (.cst (.bl false))) .skip) .skip) .skip)))))))))))) (.seq (.ret (.and_ (.cmp .eq (.call 26 (.cons (.var 2) (.cons (.tup .nil) .nil))) (.lst .nil)) (.and_ (.cmp .is (.call 28 (.cons (.var 2) (.cons (.tup .nil) .nil))) (.cst (.bl true))) (.cmp .eq (.call 30 (.cons (.var 2) (.cons (.tup .nil) .nil))) (.lst (.cons (.tup .nil) .nil)))))) .skip))
abbrev i_law_k03 : Nat := 32
def b_is_dropped : S := (.seq (.ret (.cmp .isIn (.call 9 (.cons (.var 0) (.cons (.var 1) .nil))) (.idx (.bor 0) (.cst (.int 3))))) .skip)
abbrev i_is_dropped : Nat := 33
def b__law_other_k07 : S := (.seq (.unp [3, 4, 5, 6] (.var 2)) (.seq (.asg 7 (.idx (.tup (.cons (.cst (.int 0)) (.cons (.cst (.int 1)) (.cons (.cst (.int 2)) (.cons (.cst (.int 3)) (.cons (.cst (.int 4)) (.cons (.cst (.int 5)) (.cons (.cst (.int 0)) (.cons (.cst (.int 1)) .nil))))))))) (.call 15 (.cons (.var 0) (.cons (.var 1) (.cons (.cst (.int 8)) .nil)))))) (.seq (.ife (.cmp .eq (.bor 7) (.cst (.int 0))) (.seq (.asg 5 (.idx (.tup (.cons (.cst (.int 1)) (.cons (.cst (.int 2)) (.cons (.cst (.int 3)) (.cons (.cst (.int 4)) (.cons (.bin .add (.bin .mod (.bor 5) (.cst (.int 12))) (.cst (.int 1))) .nil)))))) (.call 15 (.cons (.var 0) (.cons (.bin .add (.bor 1) (.cst (.int 1))) (.cons (.cst (.int 5)) .nil)))))) .skip) (.seq (.ife (.cmp .eq (.bor 7) (.cst (.int 1))) (.seq (.asg 8 (.comp [9, 10] (.many [9, 10]) (.ienum (.cst (.str [32, 45, 46, 97]))) (.cst (.bl true)) (.cmp .ne (.cmp .isIn (.bor 10) (.bor 6)) (.cmp .eq (.call 15 (.cons (.var 0) (.cons (.bin .add (.bin .add (.bor 1) (.cst (.int 2))) (.bor 9)) (.cons (.cst (.int 4)) .nil)))) (.cst (.int 0)))))) (.seq (.asg 6 (.mth .join (.cst (.str [])) (.cons (.comp [10, 11] (.many [10, 11]) (.izip (.cst (.str [32, 45, 46, 97])) (.bor 8)) (.var 11) (.var 10)) .nil))) .skip)) (.seq (.ife (.cmp .eq (.bor 7) (.cst (.int 2))) (.seq (.asg 4 (.slc (.bor 4) (.cons (.cst (.int 1)) .nil) .nil)) .skip) (.seq (.ife (.cmp .eq (.bor 7) (.cst (.int 3))) (.seq (.asg 3 (.not_ (.var 3))) .skip) (.seq (.ife (.cmp .eq (.bor 7) (.cst (.int 4))) (.seq (.asg 4 (.blt .tuple (.cons (.vw .sortItems (.blt .dict (.cons (.bin .add (.bor 4) (.tup (.cons (.tup (.cons (.cst (.str [65])) (.cons (.cst (.str [66])) .nil))) (.cons (.tup (.cons (.cst (.str [67])) (.cons (.cst (.str [97])) .nil))) .nil)))) .nil))) .nil))) .skip) .skip) .skip)) .skip)) .skip)) .skip)) (.seq (.ret (.tup (.cons (.var 3) (.cons (.slc (.bor 4) .nil (.cons (.cst (.int 6)) .nil)) (.cons (.var 5) (.cons (.var 6) .nil)))))) .skip))))
abbrev i__law_other_k07 : Nat := 47
def b_check_disks : S := (.seq (.ife (.or_ (.not_ (.isi .list (.bor 0))) (.or_ (.not_ (.chn .le .le (.cst (.int 1)) (.blt .len (.cons (.bor 0) .nil)) (.cst (.int 3)))) (.not_ (.blt .all (.cons (.comp [1] (.one 1) (.ival (.bor 0)) (.cst (.bl true)) (.call 6 (.cons (.var 1) .nil))) .nil))))) (.seq (.rais 7) .skip) .skip) .skip)
abbrev i_check_disks : Nat := 93
def b_check_both : S := (.seq (.exp (.call 93 (.cons (.var 0) .nil))) (.seq (.exp (.call 24 (.cons (.var 1) .nil))) .skip))
abbrev i_check_both : Nat := 94
def b_safe_on_all : S := (.seq (.ret (.blt .all (.cons (.comp [2] (.one 2) (.ival (.bor 0)) (.cst (.bl true)) (.call 27 (.cons (.var 2) (.cons (.var 1) .nil)))) .nil))) .skip)
abbrev i_safe_on_all : Nat := 95
def b_find_renamed : S := (.seq (.asg 2 (.lst .nil)) (.seq (.for_ (.one 3) (.ival (.call 29 (.cons (.var 1) .nil))) (.seq (.ife (.call 95 (.cons (.var 0) (.cons (.blt .tuple (.cons (.comp [4] (.one 4) (.ival (.bor 1)) (.cmp .notIn (.bor 4) (.bor 3)) (.var 4)) .nil)) .nil))) (.seq (.app 2 (.tup (.cons (.blt .len (.cons (.bor 3) .nil)) (.cons (.var 3) .nil)))) .skip) .skip) .skip)) (.seq (.ret (.idx (.blt .min1 (.cons (.bor 2) .nil)) (.cst (.int 1)))) .skip)))
abbrev i_find_renamed : Nat := 98
def b_is_free : S := (.seq (.ife (.or_ (.cmp .isIn (.bor 2) (.bor 1)) (.blt .any (.cons (.comp [3] (.one 3) (.ival (.bor 0)) (.cst (.bl true)) (.cmp .eq (.call 11 (.cons (.var 3) (.cons (.var 2) .nil))) (.cst (.str [])))) .nil))) (.seq (.ret (.cst (.bl false))) .skip) .skip) (.seq (.ret (.not_ (.blt .any (.cons (.comp2 [3, 4] [4] (.one 3) (.ival (.bor 0)) (.cst (.bl true)) (.one 4) (.ival (.var 1)) (.cst (.bl true)) (.call 13 (.cons (.var 3) (.cons (.var 2) (.cons (.var 4) .nil))))) .nil)))) .skip))
abbrev i_is_free : Nat := 100
def b_find_new : S := (.seq (.ret (.idx (.comp [2] (.one 2) (.ival (.cst (.str g_SIGNS))) (.call 100 (.cons (.var 0) (.cons (.var 1) (.cons (.var 2) .nil)))) (.var 2)) (.cst (.int 0)))) .skip)
abbrev i_find_new : Nat := 101
def b_renaming : S := (.seq (.exp (.call 94 (.cons (.var 0) (.cons (.var 1) .nil)))) (.seq (.par 2 3 (.call 98 (.cons (.var 0) (.cons (.var 1) .nil))) (.lst .nil)) (.seq (.asg 4 (.blt .tuple (.cons (.comp [5] (.one 5) (.ival (.bor 1)) (.cmp .notIn (.bor 5) (.bor 2)) (.var 5)) .nil))) (.seq (.for_ (.one 5) (.ival (.var 2)) (.seq (.asg 6 (.call 101 (.cons (.var 0) (.cons (.var 4) .nil)))) (.seq (.app 3 (.tup (.cons (.var 5) (.cons (.var 6) .nil)))) (.seq (.asg 4 (.bin .add (.bor 4) (.tup (.cons (.var 6) .nil)))) .skip)))) (.seq (.ret (.var 3)) .skip)))))
abbrev i_renaming : Nat := 103
def b__law_disks_k33 : S := (.seq (.ret (.comp [2] (.one 2) (.irng (.cons (.bin .add (.cst (.int 1)) (.call 15 (.cons (.var 0) (.cons (.bin .add (.bor 1) (.cst (.int 95))) (.cons (.cst (.int 3)) .nil))))) .nil)) (.cst (.bl true)) (.call 16 (.cons (.var 0) (.cons (.bin .add (.bor 1) (.bin .mul (.cst (.int 30)) (.bor 2))) .nil))))) .skip)
abbrev i__law_disks_k33 : Nat := 109
def b__law_clean : S := (.seq (.for_ (.one 2) (.ival (.var 0)) (.seq (.asg 3 (.comp [4] (.one 4) (.ival (.bor 1)) (.cst (.bl true)) (.call 20 (.cons (.var 2) (.cons (.var 4) .nil))))) (.seq (.ife (.or_ (.cmp .isIn (.cst (.str [])) (.bor 3)) (.cmp .lt (.vw .lenSet (.bor 3)) (.blt .len (.cons (.bor 3) .nil)))) (.seq (.ret (.cst (.bl false))) .skip) .skip) .skip))) (.seq (.ret (.cst (.bl true))) .skip))
abbrev i__law_clean : Nat := 110
def b__law_free : S := (.seq (.ife (.cmp .isIn (.bor 2) (.bor 1)) (.seq (.ret (.cst (.bl false))) .skip) .skip) (.seq (.for_ (.one 3) (.ival (.var 0)) (.seq (.asg 4 (.call 20 (.cons (.var 3) (.cons (.var 2) .nil)))) (.seq (.ife (.or_ (.cmp .eq (.bor 4) (.cst (.str []))) (.cmp .isIn (.bor 4) (.comp [5] (.one 5) (.ival (.bor 1)) (.cst (.bl true)) (.call 20 (.cons (.var 3) (.cons (.var 5) .nil)))))) (.seq (.ret (.cst (.bl false))) .skip) .skip) .skip))) (.seq (.ret (.cst (.bl true))) .skip)))
abbrev i__law_free : Nat := 112
def b__law_first : S := (.seq (.ret (.idx (.comp [2] (.one 2) (.ival (.call 17 .nil)) (.call 112 (.cons (.var 0) (.cons (.var 1) (.cons (.var 2) .nil)))) (.var 2)) (.cst (.int 0)))) .skip)
abbrev i__law_first : Nat := 113
def b_is_leg : S := (.seq (.ret (.and_ (.isi .tuple (.bor 0)) (.and_ (.cmp .eq (.blt .len (.cons (.bor 0) .nil)) (.cst (.int 2))) (.and_ (.call 6 (.cons (.idx (.bor 0) (.cst (.int 0))) .nil)) (.isi .bool (.idx (.bor 0) (.cst (.int 1)))))))) .skip)
abbrev i_is_leg : Nat := 117
def b_check_journey : S := (.seq (.ife (.or_ (.not_ (.isi .list (.bor 0))) (.or_ (.not_ (.chn .le .le (.cst (.int 1)) (.blt .len (.cons (.bor 0) .nil)) (.cst (.int 5)))) (.not_ (.blt .all (.cons (.comp [1] (.one 1) (.ival (.bor 0)) (.cst (.bl true)) (.call 117 (.cons (.var 1) .nil))) .nil))))) (.seq (.rais 9) .skip) .skip) .skip)
abbrev i_check_journey : Nat := 118
def b_find_steps : S := (.seq (.asg 2 (.lst .nil)) (.seq (.for_ (.many [3, 4]) (.ival (.var 0)) (.seq (.asg 5 (.call 11 (.cons (.var 3) (.cons (.var 1) .nil)))) (.seq (.ife (.cmp .eq (.bor 5) (.cst (.str []))) (.seq (.ret (.var 2)) .skip) .skip) (.seq (.asg 1 (.ite (.var 4) (.var 5) (.var 1))) (.seq (.app 2 (.var 1)) .skip))))) (.seq (.ret (.var 2)) .skip)))
abbrev i_find_steps : Nat := 119
def b_find_after : S := (.seq (.asg 2 (.call 119 (.cons (.var 0) (.cons (.var 1) .nil)))) (.seq (.ret (.ite (.cmp .eq (.blt .len (.cons (.bor 2) .nil)) (.blt .len (.cons (.bor 0) .nil))) (.idx (.bor 2) (.neg (.cst (.int 1)))) (.cst (.non)))) .skip))
abbrev i_find_after : Nat := 120
def b_steps : S := (.seq (.exp (.call 118 (.cons (.var 0) .nil))) (.seq (.exp (.call 8 (.cons (.var 1) .nil))) (.seq (.ret (.call 119 (.cons (.var 0) (.cons (.var 1) .nil)))) .skip)))
abbrev i_steps : Nat := 121
def b_after : S := (.seq (.exp (.call 118 (.cons (.var 0) .nil))) (.seq (.exp (.call 8 (.cons (.var 1) .nil))) (.seq (.ret (.call 120 (.cons (.var 0) (.cons (.var 1) .nil)))) .skip)))
abbrev i_after : Nat := 122
def b_comes_back : S := (.seq (.ret (.cmp .eq (.call 122 (.cons (.var 0) (.cons (.var 1) .nil))) (.bor 1))) .skip)
abbrev i_comes_back : Nat := 123
def b_find_changed : S := (.seq (.asg 1 (.comp [3] (.one 3) (.ival (.cst (.str g_SIGNS))) (.cmp .ne (.call 120 (.cons (.var 0) (.cons (.var 3) .nil))) (.bor 3)) (.var 3))) (.seq (.ife (.cmp .ne (.bor 1) (.lst .nil)) (.seq (.ret (.idx (.bor 1) (.cst (.int 0)))) .skip) .skip) (.seq (.asg 2 (.blt .min1 (.cons (.bin .add (.comp [4, 5] (.many [4, 5]) (.ival (.bor 0)) (.var 5) (.idx (.bor 4) (.cst (.int 2)))) (.lst (.cons (.cst (.int 12)) .nil))) .nil))) (.seq (.ret (.ite (.cmp .eq (.bor 2) (.cst (.int 12))) (.cst (.non)) (.bin .mul (.idx (.cst (.str g_SIGNS)) (.neg (.cst (.int 1)))) (.bin .add (.bor 2) (.cst (.int 1)))))) .skip))))
abbrev i_find_changed : Nat := 124
def b_all_come_back : S := (.seq (.exp (.call 118 (.cons (.var 0) .nil))) (.seq (.ret (.cmp .is (.call 124 (.cons (.var 0) .nil)) (.cst (.non)))) .skip))
abbrev i_all_come_back : Nat := 125
def b_changed_name : S := (.seq (.exp (.call 118 (.cons (.var 0) .nil))) (.seq (.ret (.call 124 (.cons (.var 0) .nil))) .skip))
abbrev i_changed_name : Nat := 126
def b__law_drawn : S := (.seq (.asg 3 (.bin .mul (.cst (.int 7)) (.bor 1))) (.seq (.ife (.cmp .ne (.bor 0) (.lst .nil)) (.seq (.asg 3 (.idx (.bor 0) (.bin .mod (.bor 1) (.blt .len (.cons (.bor 0) .nil))))) (.seq (.asg 4 (.bin .fdiv (.bor 1) (.blt .len (.cons (.bor 0) .nil)))) (.seq (.ife (.and_ (.cmp .ge (.bor 3) (.bin .pow (.cst (.int 10)) (.cst (.int 18)))) (.cmp .lt (.bor 4) (.cst (.int 60)))) (.seq (.asg 5 (.bin .fdiv (.bor 3) (.bin .pow (.cst (.int 10)) (.cst (.int 18))))) (.seq (.whl (.and_ (.cmp .gt (.bor 5) (.cst (.int 0))) (.cmp .gt (.bor 4) (.cst (.int 0)))) (.seq (.asg 5 (.bin .fdiv (.bor 5) (.cst (.int 1000000)))) (.seq (.asg 4 (.bin .sub (.bor 4) (.cst (.int 1)))) .skip))) (.seq (.ife (.cmp .gt (.bor 5) (.cst (.int 0))) (.seq (.ret (.bin .mod (.bin .mod (.bor 5) (.cst (.int 1000000))) (.bor 2))) .skip) .skip) .skip))) .skip) (.seq (.asg 3 (.bin .add (.bor 3) (.bin .mul (.cst (.int 6553)) (.bin .fdiv (.bor 1) (.blt .len (.cons (.bor 0) .nil)))))) .skip)))) .skip) (.seq (.asg 3 (.bin .mod (.bin .add (.bin .mul (.bin .mod (.bor 3) (.cst (.int 2147483563))) (.cst (.int 69069))) (.bin .mul (.cst (.int 104723)) (.bin .add (.bor 1) (.cst (.int 1))))) (.cst (.int 2147483563)))) (.seq (.asg 3 (.bin .mod (.bin .add (.bin .mul (.bor 3) (.bor 3)) (.bin .fdiv (.bor 3) (.cst (.int 3)))) (.cst (.int 2147483399)))) (.seq (.ret (.bin .mod (.bin .fdiv (.bin .mod (.bin .add (.bin .mul (.bor 3) (.bor 3)) (.bin .fdiv (.bor 3) (.cst (.int 7)))) (.cst (.int 2147483647))) (.cst (.int 11))) (.bor 2))) .skip)))))
abbrev i__law_drawn : Nat := 130
def b__law_name_k52 : S := (.seq (.asg 3 (.cst (.str []))) (.seq (.for_ (.one 4) (.irng (.cons (.bin .add (.cst (.int 1)) (.call 130 (.cons (.var 0) (.cons (.var 1) (.cons (.var 2) .nil))))) .nil)) (.seq (.asg 3 (.bin .add (.bor 3) (.idx (.cst (.str [97, 65, 98, 66, 46, 95, 32, 45, 97])) (.call 130 (.cons (.var 0) (.cons (.bin .add (.bin .add (.bor 1) (.cst (.int 1))) (.bor 4)) (.cons (.cst (.int 9)) .nil))))))) .skip)) (.seq (.ret (.var 3)) .skip)))
abbrev i__law_name_k52 : Nat := 132
def b__law_disk_k52 : S := (.seq (.asg 2 (.lst (.cons (.tup (.cons (.cst (.str [97])) (.cons (.cst (.str [98])) .nil))) (.cons (.tup (.cons (.cst (.str [98])) (.cons (.cst (.str [97])) .nil))) (.cons (.tup (.cons (.cst (.str [65])) (.cons (.cst (.str [97])) .nil))) (.cons (.tup (.cons (.cst (.str [95])) (.cons (.cst (.str [32])) .nil))) (.cons (.tup (.cons (.cst (.str [32])) (.cons (.cst (.str [95])) .nil))) (.cons (.tup (.cons (.cst (.str [98])) (.cons (.cst (.str [66])) .nil))) (.cons (.tup (.cons (.cst (.str [46])) (.cons (.cst (.str [45])) .nil))) .nil))))))))) (.seq (.asg 2 (.bin .add (.bor 2) (.lst (.cons (.tup (.cons (.cst (.str [97])) (.cons (.cst (.str [97])) .nil))) .nil)))) (.seq (.asg 3 .dct) (.seq (.for_ (.one 4) (.irng (.cons (.call 130 (.cons (.var 0) (.cons (.var 1) (.cons (.cst (.int 4)) .nil)))) .nil)) (.seq (.unp [7, 8] (.idx (.bor 2) (.call 130 (.cons (.var 0) (.cons (.bin .add (.bin .add (.bor 1) (.cst (.int 1))) (.bor 4)) (.cons (.cst (.int 8)) .nil)))))) (.seq (.put 3 (.var 7) (.var 8)) .skip))) (.seq (.asg 5 (.idx (.lst (.cons (.cst (.int 12)) (.cons (.cst (.int 1)) (.cons (.cst (.int 2)) (.cons (.cst (.int 3)) (.cons (.cst (.int 8)) (.cons (.cst (.int 12)) .nil))))))) (.call 130 (.cons (.var 0) (.cons (.bin .add (.bor 1) (.cst (.int 5))) (.cons (.cst (.int 6)) .nil)))))) (.seq (.asg 6 (.mth .join (.cst (.str [])) (.cons (.comp [9] (.one 9) (.ival (.cst (.str [32, 45, 46, 95]))) (.cmp .eq (.call 130 (.cons (.var 0) (.cons (.bin .add (.bin .add (.bor 1) (.cst (.int 6))) (.mth .index (.cst (.str [32, 45, 46, 95])) (.cons (.bor 9) .nil))) (.cons (.cst (.int 4)) .nil)))) (.cst (.int 0))) (.var 9)) .nil))) (.seq (.ret (.tup (.cons (.cmp .eq (.call 130 (.cons (.var 0) (.cons (.bin .add (.bor 1) (.cst (.int 10))) (.cons (.cst (.int 2)) .nil)))) (.cst (.int 1))) (.cons (.blt .tuple (.cons (.comp [7] (.one 7) (.ival (.blt .sorted (.cons (.bor 3) .nil))) (.cst (.bl true)) (.tup (.cons (.var 7) (.cons (.idx (.bor 3) (.bor 7)) .nil)))) .nil)) (.cons (.var 5) (.cons (.var 6) .nil)))))) .skip)))))))
abbrev i__law_disk_k52 : Nat := 133
def G : List FnD := [⟨3, 3, b_is_int⟩, ⟨1, 1, b_is_sign⟩, ⟨1, 2, b_is_name⟩, ⟨1, 3, b_rises⟩, ⟨1, 1, b_is_turn⟩, ⟨1, 2, b_are_turns⟩, ⟨1, 6, b_is_disk⟩, ⟨1, 1, b_check_disk⟩, ⟨1, 1, b_check_name⟩, ⟨2, 5, b_image_of⟩, ⟨2, 2, b_image⟩, ⟨2, 4, b_place_of⟩, ⟨2, 2, b_place⟩, ⟨3, 3, b_do_collide⟩, ⟨3, 3, b_collide⟩, ⟨3, 7, b__law_pick_k01⟩, ⟨2, 10, b__law_disk_k01⟩, ⟨0, 1, b__law_signs_k01⟩, ⟨2, 2, b__law_image⟩, ⟨3, 5, b__law_name_k01⟩] ++
  [⟨2, 4, b__law_place_k01⟩, ⟨0, 0, .skip⟩, ⟨0, 0, .skip⟩, ⟨1, 2, b_are_names⟩, ⟨1, 1, b_check_names⟩, ⟨2, 5, b_by_places⟩, ⟨2, 2, b_groups⟩, ⟨2, 3, b_are_safe⟩, ⟨2, 2, b_is_safe⟩, ⟨1, 4, b_parts⟩, ⟨2, 5, b_safe_parts⟩, ⟨3, 5, b__law_names⟩, ⟨1, 12, b_law_k03⟩, ⟨2, 2, b_is_dropped⟩, ⟨0, 0, .skip⟩, ⟨0, 0, .skip⟩, ⟨0, 0, .skip⟩, ⟨0, 0, .skip⟩, ⟨0, 0, .skip⟩, ⟨0, 0, .skip⟩] ++
  [⟨0, 0, .skip⟩, ⟨0, 0, .skip⟩, ⟨0, 0, .skip⟩, ⟨0, 0, .skip⟩, ⟨0, 0, .skip⟩, ⟨0, 0, .skip⟩, ⟨0, 0, .skip⟩, ⟨3, 12, b__law_other_k07⟩, ⟨0, 0, .skip⟩, ⟨0, 0, .skip⟩, ⟨0, 0, .skip⟩, ⟨0, 0, .skip⟩, ⟨0, 0, .skip⟩, ⟨0, 0, .skip⟩, ⟨0, 0, .skip⟩, ⟨0, 0, .skip⟩, ⟨0, 0, .skip⟩, ⟨0, 0, .skip⟩, ⟨0, 0, .skip⟩, ⟨0, 0, .skip⟩] ++
  [⟨0, 0, .skip⟩, ⟨0, 0, .skip⟩, ⟨0, 0, .skip⟩, ⟨0, 0, .skip⟩, ⟨0, 0, .skip⟩, ⟨0, 0, .skip⟩, ⟨0, 0, .skip⟩, ⟨0, 0, .skip⟩, ⟨0, 0, .skip⟩, ⟨0, 0, .skip⟩, ⟨0, 0, .skip⟩, ⟨0, 0, .skip⟩, ⟨0, 0, .skip⟩, ⟨0, 0, .skip⟩, ⟨0, 0, .skip⟩, ⟨0, 0, .skip⟩, ⟨0, 0, .skip⟩, ⟨0, 0, .skip⟩, ⟨0, 0, .skip⟩, ⟨0, 0, .skip⟩] ++
  [⟨0, 0, .skip⟩, ⟨0, 0, .skip⟩, ⟨0, 0, .skip⟩, ⟨0, 0, .skip⟩, ⟨0, 0, .skip⟩, ⟨0, 0, .skip⟩, ⟨0, 0, .skip⟩, ⟨0, 0, .skip⟩, ⟨0, 0, .skip⟩, ⟨0, 0, .skip⟩, ⟨0, 0, .skip⟩, ⟨0, 0, .skip⟩, ⟨0, 0, .skip⟩, ⟨1, 2, b_check_disks⟩, ⟨2, 2, b_check_both⟩, ⟨2, 3, b_safe_on_all⟩, ⟨0, 0, .skip⟩, ⟨0, 0, .skip⟩, ⟨2, 5, b_find_renamed⟩, ⟨0, 0, .skip⟩] ++
  [⟨3, 5, b_is_free⟩, ⟨2, 3, b_find_new⟩, ⟨0, 0, .skip⟩, ⟨2, 7, b_renaming⟩, ⟨0, 0, .skip⟩, ⟨0, 0, .skip⟩, ⟨0, 0, .skip⟩, ⟨0, 0, .skip⟩, ⟨0, 0, .skip⟩, ⟨2, 3, b__law_disks_k33⟩, ⟨2, 5, b__law_clean⟩, ⟨0, 0, .skip⟩, ⟨3, 6, b__law_free⟩, ⟨2, 3, b__law_first⟩, ⟨0, 0, .skip⟩, ⟨0, 0, .skip⟩, ⟨0, 0, .skip⟩, ⟨1, 1, b_is_leg⟩, ⟨1, 2, b_check_journey⟩, ⟨2, 6, b_find_steps⟩] ++
  [⟨2, 3, b_find_after⟩, ⟨2, 2, b_steps⟩, ⟨2, 2, b_after⟩, ⟨2, 2, b_comes_back⟩, ⟨1, 6, b_find_changed⟩, ⟨1, 1, b_all_come_back⟩, ⟨1, 1, b_changed_name⟩, ⟨0, 0, .skip⟩, ⟨0, 0, .skip⟩, ⟨0, 0, .skip⟩, ⟨3, 6, b__law_drawn⟩, ⟨0, 0, .skip⟩, ⟨3, 5, b__law_name_k52⟩, ⟨2, 10, b__law_disk_k52⟩, ⟨0, 0, .skip⟩, ⟨0, 0, .skip⟩, ⟨0, 0, .skip⟩, ⟨0, 0, .skip⟩, ⟨0, 0, .skip⟩, ⟨0, 0, .skip⟩] ++
  [⟨0, 0, .skip⟩, ⟨0, 0, .skip⟩, ⟨0, 0, .skip⟩, ⟨0, 0, .skip⟩, ⟨0, 0, .skip⟩, ⟨0, 0, .skip⟩, ⟨0, 0, .skip⟩, ⟨0, 0, .skip⟩, ⟨0, 0, .skip⟩, ⟨0, 0, .skip⟩, ⟨0, 0, .skip⟩, ⟨0, 0, .skip⟩, ⟨0, 0, .skip⟩, ⟨0, 0, .skip⟩, ⟨0, 0, .skip⟩, ⟨0, 0, .skip⟩, ⟨0, 0, .skip⟩, ⟨0, 0, .skip⟩, ⟨0, 0, .skip⟩, ⟨0, 0, .skip⟩] ++
  [⟨0, 0, .skip⟩, ⟨0, 0, .skip⟩, ⟨0, 0, .skip⟩, ⟨0, 0, .skip⟩, ⟨0, 0, .skip⟩, ⟨0, 0, .skip⟩, ⟨0, 0, .skip⟩, ⟨0, 0, .skip⟩, ⟨0, 0, .skip⟩, ⟨0, 0, .skip⟩, ⟨0, 0, .skip⟩, ⟨0, 0, .skip⟩, ⟨0, 0, .skip⟩, ⟨0, 0, .skip⟩, ⟨0, 0, .skip⟩, ⟨0, 0, .skip⟩, ⟨0, 0, .skip⟩, ⟨0, 0, .skip⟩, ⟨0, 0, .skip⟩, ⟨0, 0, .skip⟩] ++
  [⟨0, 0, .skip⟩, ⟨0, 0, .skip⟩, ⟨0, 0, .skip⟩, ⟨0, 0, .skip⟩, ⟨0, 0, .skip⟩, ⟨0, 0, .skip⟩, ⟨0, 0, .skip⟩, ⟨0, 0, .skip⟩, ⟨0, 0, .skip⟩, ⟨0, 0, .skip⟩, ⟨0, 0, .skip⟩, ⟨0, 0, .skip⟩, ⟨0, 0, .skip⟩, ⟨0, 0, .skip⟩, ⟨0, 0, .skip⟩, ⟨0, 0, .skip⟩, ⟨0, 0, .skip⟩, ⟨0, 0, .skip⟩, ⟨0, 0, .skip⟩, ⟨0, 0, .skip⟩]
def rk : List Nat := [1, 1, 1, 1, 2, 3, 4, 5, 2, 1, 6, 2, 6, 3, 6, 1, 2, 1, 1, 2, 2, 5, 7, 2, 3, 3, 6, 4, 6, 1, 6, 3, 7, 2, 2, 3, 4, 6, 6, 7, 3, 4, 4, 5, 7, 2, 7, 2, 2, 1, 8, 4, 7, 3, 7, 8, 4, 2, 3, 5, 7, 7, 7, 7, 7, 2, 2, 8, 2, 3, 4, 1, 5, 1, 5, 2, 1, 3, 6, 6, 6, 1, 6, 2, 1, 7, 1, 2, 7, 7, 7, 6, 6, 5, 6, 5, 7, 7, 6, 7, 4, 5, 7, 7, 3, 8, 8, 8, 9, 3, 3, 8, 3, 4, 8, 8, 9, 5, 6, 3, 4, 7, 7, 8, 5, 7, 7, 3, 6, 6, 1, 1, 2, 2, 1, 2, 2, 9, 2, 3, 7, 10, 11, 7, 8, 9, 2, 3, 4, 6, 1, 5, 6, 6, 2, 4, 6, 7, 1, 2, 8, 9, 1, 1, 2, 3, 4, 1, 1, 7, 8, 1, 6, 1, 2, 5, 4, 3, 1, 6, 7, 7, 8, 6, 2, 7, 8, 2, 9, 10, 1, 1, 5, 8, 9, 7, 10, 8, 1, 9]
theorem rk_ok : rkOk G rk = true := by decide +kernel
def Fx (f : Nat) (ds : List D) : M D := callN G 30 f ds
theorem fx (f : Nat) {d : FnD} (ds : List D) (hd : G[f]? = some d) (hr : rk.getD f 99 < 30) (hl : ds.length = d.np) : Fx f ds = endOf (evS Fx d.body (start d.nn ds)) := fx_of rk_ok ds hd hr hl
end Mn
end
section
set_option Elab.async false
set_option linter.all false
set_option maxRecDepth 100000
set_option maxHeartbeats 0
namespace Mn.K03
open PySem PySem.Spec L2 Mn
def top (i : Nat) : Stmt := PySem.Challenge.pw_portnames_k03_whole_sets.main.body.getD i (.Pass ⟨0, 0, 0, 0⟩)
def d_is_int : DefT := ⟨0, "is_int", defArgs (top 11), defBody (top 11), defScope (top 11), ["value", "least", "most"], 3, b_is_int⟩
def d_is_sign : DefT := ⟨1, "is_sign", defArgs (top 12), defBody (top 12), defScope (top 12), ["value"], 1, b_is_sign⟩
def d_is_name : DefT := ⟨2, "is_name", defArgs (top 13), defBody (top 13), defScope (top 13), ["candidate", "sign"], 1, b_is_name⟩
def d_rises : DefT := ⟨3, "rises", defArgs (top 14), defBody (top 14), defScope (top 14), ["some", "one", "other"], 1, b_rises⟩
def d_is_turn : DefT := ⟨4, "is_turn", defArgs (top 15), defBody (top 15), defScope (top 15), ["value"], 1, b_is_turn⟩
def d_are_turns : DefT := ⟨5, "are_turns", defArgs (top 16), defBody (top 16), defScope (top 16), ["value", "turn"], 1, b_are_turns⟩
def d_is_disk : DefT := ⟨6, "is_disk", defArgs (top 17), defBody (top 17), defScope (top 17), ["candidate", "fold", "turns", "limit", "dropped", "sign"], 1, b_is_disk⟩
def d_check_disk : DefT := ⟨7, "check_disk", defArgs (top 18), defBody (top 18), defScope (top 18), ["value"], 1, b_check_disk⟩
def d_image_of : DefT := ⟨9, "image_of", defArgs (top 19), defBody (top 19), defScope (top 19), ["disk", "sign", "found", "one", "other"], 2, b_image_of⟩
def d_place_of : DefT := ⟨11, "place_of", defArgs (top 20), defBody (top 20), defScope (top 20), ["disk", "name", "found", "sign"], 2, b_place_of⟩
def d_are_names : DefT := ⟨23, "are_names", defArgs (top 23), defBody (top 23), defScope (top 23), ["value", "name"], 1, b_are_names⟩
def d_check_names : DefT := ⟨24, "check_names", defArgs (top 24), defBody (top 24), defScope (top 24), ["value"], 1, b_check_names⟩
def d_by_places : DefT := ⟨25, "by_places", defArgs (top 25), defBody (top 25), defScope (top 25), ["disk", "names", "found", "name", "place"], 2, b_by_places⟩
def d_groups : DefT := ⟨26, "groups", defArgs (top 26), defBody (top 26), defScope (top 26), ["disk", "names"], 2, b_groups⟩
def d_are_safe : DefT := ⟨27, "are_safe", defArgs (top 27), defBody (top 27), defScope (top 27), ["disk", "names", "found"], 2, b_are_safe⟩
def d_is_safe : DefT := ⟨28, "is_safe", defArgs (top 28), defBody (top 28), defScope (top 28), ["disk", "names"], 2, b_is_safe⟩
def d_parts : DefT := ⟨29, "parts", defArgs (top 29), defBody (top 29), defScope (top 29), ["names", "found", "name", "part"], 1, b_parts⟩
def d_safe_parts : DefT := ⟨30, "safe_parts", defArgs (top 30), defBody (top 30), defScope (top 30), ["disk", "names", "found", "most", "part"], 2, b_safe_parts⟩
def d__law_pick : DefT := ⟨15, "_law_pick", defArgs (top 32), defBody (top 32), defScope (top 32), ["script", "k", "many", "cell", "rest", "again", "drawn"], 3, b__law_pick_k01⟩
def d__law_disk : DefT := ⟨16, "_law_disk", defArgs (top 33), defBody (top 33), defScope (top 33), ["script", "at", "few", "turns", "i", "dropped", "limit", "pair", "sign", "turn"], 2, b__law_disk_k01⟩
def d__law_name : DefT := ⟨19, "_law_name", defArgs (top 34), defBody (top 34), defScope (top 34), ["script", "at", "most", "size", "i"], 3, b__law_name_k01⟩
def d__law_names : DefT := ⟨31, "_law_names", defArgs (top 35), defBody (top 35), defScope (top 35), ["script", "at", "most", "found", "i"], 3, b__law_names⟩
def d__law_image : DefT := ⟨18, "_law_image", defArgs (top 36), defBody (top 36), defScope (top 36), ["disk", "sign"], 2, b__law_image⟩
def d__law_place : DefT := ⟨20, "_law_place", defArgs (top 37), defBody (top 37), defScope (top 37), ["disk", "name", "found", "sign"], 2, b__law_place_k01⟩
def d_law : DefT := ⟨32, "law", defArgs (top 38), defBody (top 38), defScope (top 38), ["script", "i", "disk", "names", "places", "name", "found", "most", "good", "part", "seats", "key"], 1, b_law_k03⟩
def ds : List DefT := [d_is_int, d_is_sign, d_is_name, d_rises, d_is_turn, d_are_turns, d_is_disk, d_check_disk, d_image_of, d_place_of, d_are_names, d_check_names, d_by_places, d_groups, d_are_safe, d_is_safe, d_parts, d_safe_parts, d__law_pick, d__law_disk, d__law_name, d__law_names, d__law_image, d__law_place, d_law]
def sg : Sg := ⟨[("SMALL", .str g_SMALL), ("CAPITAL", .str g_CAPITAL), ("SIGNS", .str g_SIGNS), ("MAX_NAME", .int 12), ("MAX_TURNS", .int 6), ("MAX_DROPPED", .int 4), ("MAX_NAMES", .int 8)], [(0, ("is_int" : PySem.Str), 3), (1, ("is_sign" : PySem.Str), 1), (2, ("is_name" : PySem.Str), 1), (3, ("rises" : PySem.Str), 1), (4, ("is_turn" : PySem.Str), 1), (5, ("are_turns" : PySem.Str), 1), (6, ("is_disk" : PySem.Str), 1), (7, ("check_disk" : PySem.Str), 1), (9, ("image_of" : PySem.Str), 2), (11, ("place_of" : PySem.Str), 2), (23, ("are_names" : PySem.Str), 1), (24, ("check_names" : PySem.Str), 1), (25, ("by_places" : PySem.Str), 2), (26, ("groups" : PySem.Str), 2), (27, ("are_safe" : PySem.Str), 2), (28, ("is_safe" : PySem.Str), 2), (29, ("parts" : PySem.Str), 1), (30, ("safe_parts" : PySem.Str), 2), (15, ("_law_pick" : PySem.Str), 3), (16, ("_law_disk" : PySem.Str), 2), (19, ("_law_name" : PySem.Str), 3), (31, ("_law_names" : PySem.Str), 3), (18, ("_law_image" : PySem.Str), 2), (20, ("_law_place" : PySem.Str), 2), (32, ("law" : PySem.Str), 1)], [(0, "InvalidDisk"), (3, "InvalidNames")], false⟩
theorem gl_ok : sg.gl.all glOk = true := by kernel_rfl
theorem ck_ok : ds.all (chkT sg) = true := by kernel_rfl
theorem fns_ok : sg.fns = ds.map fun d => (d.g, d.x, d.np) := by kernel_rfl
theorem tab_ok : (ds.map fun d => G[d.g]?) = ds.map fun d => some d.fnd := by kernel_rfl
theorem b_is_int (kV doc pm : Value) (an : Option Addr) (cdv ct : Value) (us : List Value) (hl : us.length = 3) : bindArgs (PySem.W.fnOf d_is_int.x d_is_int.x d_is_int.params d_is_int.body d_is_int.scope .none kV doc pm an cdv ct) ⟨us, []⟩ = pure (d_is_int.ps.zip us) := match us, hl with
  | [_, _, _], _ => rfl
theorem b_is_sign (kV doc pm : Value) (an : Option Addr) (cdv ct : Value) (us : List Value) (hl : us.length = 1) : bindArgs (PySem.W.fnOf d_is_sign.x d_is_sign.x d_is_sign.params d_is_sign.body d_is_sign.scope .none kV doc pm an cdv ct) ⟨us, []⟩ = pure (d_is_sign.ps.zip us) := match us, hl with
  | [_], _ => rfl
theorem b_is_name (kV doc pm : Value) (an : Option Addr) (cdv ct : Value) (us : List Value) (hl : us.length = 1) : bindArgs (PySem.W.fnOf d_is_name.x d_is_name.x d_is_name.params d_is_name.body d_is_name.scope .none kV doc pm an cdv ct) ⟨us, []⟩ = pure (d_is_name.ps.zip us) := match us, hl with
  | [_], _ => rfl
theorem b_rises (kV doc pm : Value) (an : Option Addr) (cdv ct : Value) (us : List Value) (hl : us.length = 1) : bindArgs (PySem.W.fnOf d_rises.x d_rises.x d_rises.params d_rises.body d_rises.scope .none kV doc pm an cdv ct) ⟨us, []⟩ = pure (d_rises.ps.zip us) := match us, hl with
  | [_], _ => rfl
theorem b_is_turn (kV doc pm : Value) (an : Option Addr) (cdv ct : Value) (us : List Value) (hl : us.length = 1) : bindArgs (PySem.W.fnOf d_is_turn.x d_is_turn.x d_is_turn.params d_is_turn.body d_is_turn.scope .none kV doc pm an cdv ct) ⟨us, []⟩ = pure (d_is_turn.ps.zip us) := match us, hl with
  | [_], _ => rfl
theorem b_are_turns (kV doc pm : Value) (an : Option Addr) (cdv ct : Value) (us : List Value) (hl : us.length = 1) : bindArgs (PySem.W.fnOf d_are_turns.x d_are_turns.x d_are_turns.params d_are_turns.body d_are_turns.scope .none kV doc pm an cdv ct) ⟨us, []⟩ = pure (d_are_turns.ps.zip us) := match us, hl with
  | [_], _ => rfl
theorem b_is_disk (kV doc pm : Value) (an : Option Addr) (cdv ct : Value) (us : List Value) (hl : us.length = 1) : bindArgs (PySem.W.fnOf d_is_disk.x d_is_disk.x d_is_disk.params d_is_disk.body d_is_disk.scope .none kV doc pm an cdv ct) ⟨us, []⟩ = pure (d_is_disk.ps.zip us) := match us, hl with
  | [_], _ => rfl
theorem b_check_disk (kV doc pm : Value) (an : Option Addr) (cdv ct : Value) (us : List Value) (hl : us.length = 1) : bindArgs (PySem.W.fnOf d_check_disk.x d_check_disk.x d_check_disk.params d_check_disk.body d_check_disk.scope .none kV doc pm an cdv ct) ⟨us, []⟩ = pure (d_check_disk.ps.zip us) := match us, hl with
  | [_], _ => rfl
theorem b_image_of (kV doc pm : Value) (an : Option Addr) (cdv ct : Value) (us : List Value) (hl : us.length = 2) : bindArgs (PySem.W.fnOf d_image_of.x d_image_of.x d_image_of.params d_image_of.body d_image_of.scope .none kV doc pm an cdv ct) ⟨us, []⟩ = pure (d_image_of.ps.zip us) := match us, hl with
  | [_, _], _ => rfl
theorem b_place_of (kV doc pm : Value) (an : Option Addr) (cdv ct : Value) (us : List Value) (hl : us.length = 2) : bindArgs (PySem.W.fnOf d_place_of.x d_place_of.x d_place_of.params d_place_of.body d_place_of.scope .none kV doc pm an cdv ct) ⟨us, []⟩ = pure (d_place_of.ps.zip us) := match us, hl with
  | [_, _], _ => rfl
theorem b_are_names (kV doc pm : Value) (an : Option Addr) (cdv ct : Value) (us : List Value) (hl : us.length = 1) : bindArgs (PySem.W.fnOf d_are_names.x d_are_names.x d_are_names.params d_are_names.body d_are_names.scope .none kV doc pm an cdv ct) ⟨us, []⟩ = pure (d_are_names.ps.zip us) := match us, hl with
  | [_], _ => rfl
theorem b_check_names (kV doc pm : Value) (an : Option Addr) (cdv ct : Value) (us : List Value) (hl : us.length = 1) : bindArgs (PySem.W.fnOf d_check_names.x d_check_names.x d_check_names.params d_check_names.body d_check_names.scope .none kV doc pm an cdv ct) ⟨us, []⟩ = pure (d_check_names.ps.zip us) := match us, hl with
  | [_], _ => rfl
theorem b_by_places (kV doc pm : Value) (an : Option Addr) (cdv ct : Value) (us : List Value) (hl : us.length = 2) : bindArgs (PySem.W.fnOf d_by_places.x d_by_places.x d_by_places.params d_by_places.body d_by_places.scope .none kV doc pm an cdv ct) ⟨us, []⟩ = pure (d_by_places.ps.zip us) := match us, hl with
  | [_, _], _ => rfl
theorem b_groups (kV doc pm : Value) (an : Option Addr) (cdv ct : Value) (us : List Value) (hl : us.length = 2) : bindArgs (PySem.W.fnOf d_groups.x d_groups.x d_groups.params d_groups.body d_groups.scope .none kV doc pm an cdv ct) ⟨us, []⟩ = pure (d_groups.ps.zip us) := match us, hl with
  | [_, _], _ => rfl
theorem b_are_safe (kV doc pm : Value) (an : Option Addr) (cdv ct : Value) (us : List Value) (hl : us.length = 2) : bindArgs (PySem.W.fnOf d_are_safe.x d_are_safe.x d_are_safe.params d_are_safe.body d_are_safe.scope .none kV doc pm an cdv ct) ⟨us, []⟩ = pure (d_are_safe.ps.zip us) := match us, hl with
  | [_, _], _ => rfl
theorem b_is_safe (kV doc pm : Value) (an : Option Addr) (cdv ct : Value) (us : List Value) (hl : us.length = 2) : bindArgs (PySem.W.fnOf d_is_safe.x d_is_safe.x d_is_safe.params d_is_safe.body d_is_safe.scope .none kV doc pm an cdv ct) ⟨us, []⟩ = pure (d_is_safe.ps.zip us) := match us, hl with
  | [_, _], _ => rfl
theorem b_parts (kV doc pm : Value) (an : Option Addr) (cdv ct : Value) (us : List Value) (hl : us.length = 1) : bindArgs (PySem.W.fnOf d_parts.x d_parts.x d_parts.params d_parts.body d_parts.scope .none kV doc pm an cdv ct) ⟨us, []⟩ = pure (d_parts.ps.zip us) := match us, hl with
  | [_], _ => rfl
theorem b_safe_parts (kV doc pm : Value) (an : Option Addr) (cdv ct : Value) (us : List Value) (hl : us.length = 2) : bindArgs (PySem.W.fnOf d_safe_parts.x d_safe_parts.x d_safe_parts.params d_safe_parts.body d_safe_parts.scope .none kV doc pm an cdv ct) ⟨us, []⟩ = pure (d_safe_parts.ps.zip us) := match us, hl with
  | [_, _], _ => rfl
theorem b__law_pick (kV doc pm : Value) (an : Option Addr) (cdv ct : Value) (us : List Value) (hl : us.length = 3) : bindArgs (PySem.W.fnOf d__law_pick.x d__law_pick.x d__law_pick.params d__law_pick.body d__law_pick.scope .none kV doc pm an cdv ct) ⟨us, []⟩ = pure (d__law_pick.ps.zip us) := match us, hl with
  | [_, _, _], _ => rfl
theorem b__law_disk (kV doc pm : Value) (an : Option Addr) (cdv ct : Value) (us : List Value) (hl : us.length = 2) : bindArgs (PySem.W.fnOf d__law_disk.x d__law_disk.x d__law_disk.params d__law_disk.body d__law_disk.scope .none kV doc pm an cdv ct) ⟨us, []⟩ = pure (d__law_disk.ps.zip us) := match us, hl with
  | [_, _], _ => rfl
theorem b__law_name (kV doc pm : Value) (an : Option Addr) (cdv ct : Value) (us : List Value) (hl : us.length = 3) : bindArgs (PySem.W.fnOf d__law_name.x d__law_name.x d__law_name.params d__law_name.body d__law_name.scope .none kV doc pm an cdv ct) ⟨us, []⟩ = pure (d__law_name.ps.zip us) := match us, hl with
  | [_, _, _], _ => rfl
theorem b__law_names (kV doc pm : Value) (an : Option Addr) (cdv ct : Value) (us : List Value) (hl : us.length = 3) : bindArgs (PySem.W.fnOf d__law_names.x d__law_names.x d__law_names.params d__law_names.body d__law_names.scope .none kV doc pm an cdv ct) ⟨us, []⟩ = pure (d__law_names.ps.zip us) := match us, hl with
  | [_, _, _], _ => rfl
theorem b__law_image (kV doc pm : Value) (an : Option Addr) (cdv ct : Value) (us : List Value) (hl : us.length = 2) : bindArgs (PySem.W.fnOf d__law_image.x d__law_image.x d__law_image.params d__law_image.body d__law_image.scope .none kV doc pm an cdv ct) ⟨us, []⟩ = pure (d__law_image.ps.zip us) := match us, hl with
  | [_, _], _ => rfl
theorem b__law_place (kV doc pm : Value) (an : Option Addr) (cdv ct : Value) (us : List Value) (hl : us.length = 2) : bindArgs (PySem.W.fnOf d__law_place.x d__law_place.x d__law_place.params d__law_place.body d__law_place.scope .none kV doc pm an cdv ct) ⟨us, []⟩ = pure (d__law_place.ps.zip us) := match us, hl with
  | [_, _], _ => rfl
theorem b_law (kV doc pm : Value) (an : Option Addr) (cdv ct : Value) (us : List Value) (hl : us.length = 1) : bindArgs (PySem.W.fnOf d_law.x d_law.x d_law.params d_law.body d_law.scope .none kV doc pm an cdv ct) ⟨us, []⟩ = pure (d_law.ps.zip us) := match us, hl with
  | [_], _ => rfl
theorem hb : ∀ (f : Nat) (d : DefT), ds[f]? = some d → ∀ (kV doc pm : Value) (an : Option Addr) (cdv ct : Value) (us : List Value), us.length = d.ps.length → bindArgs (PySem.W.fnOf d.x d.x d.params d.body d.scope .none kV doc pm an cdv ct) ⟨us, []⟩ = pure (d.ps.zip us)
  | 0, _, h => Option.some.inj h ▸ fun kV doc pm an cdv ct us hl => b_is_int kV doc pm an cdv ct us hl
  | 1, _, h => Option.some.inj h ▸ fun kV doc pm an cdv ct us hl => b_is_sign kV doc pm an cdv ct us hl
  | 2, _, h => Option.some.inj h ▸ fun kV doc pm an cdv ct us hl => b_is_name kV doc pm an cdv ct us hl
  | 3, _, h => Option.some.inj h ▸ fun kV doc pm an cdv ct us hl => b_rises kV doc pm an cdv ct us hl
  | 4, _, h => Option.some.inj h ▸ fun kV doc pm an cdv ct us hl => b_is_turn kV doc pm an cdv ct us hl
  | 5, _, h => Option.some.inj h ▸ fun kV doc pm an cdv ct us hl => b_are_turns kV doc pm an cdv ct us hl
  | 6, _, h => Option.some.inj h ▸ fun kV doc pm an cdv ct us hl => b_is_disk kV doc pm an cdv ct us hl
  | 7, _, h => Option.some.inj h ▸ fun kV doc pm an cdv ct us hl => b_check_disk kV doc pm an cdv ct us hl
  | 8, _, h => Option.some.inj h ▸ fun kV doc pm an cdv ct us hl => b_image_of kV doc pm an cdv ct us hl
  | 9, _, h => Option.some.inj h ▸ fun kV doc pm an cdv ct us hl => b_place_of kV doc pm an cdv ct us hl
  | 10, _, h => Option.some.inj h ▸ fun kV doc pm an cdv ct us hl => b_are_names kV doc pm an cdv ct us hl
  | 11, _, h => Option.some.inj h ▸ fun kV doc pm an cdv ct us hl => b_check_names kV doc pm an cdv ct us hl
  | 12, _, h => Option.some.inj h ▸ fun kV doc pm an cdv ct us hl => b_by_places kV doc pm an cdv ct us hl
  | 13, _, h => Option.some.inj h ▸ fun kV doc pm an cdv ct us hl => b_groups kV doc pm an cdv ct us hl
  | 14, _, h => Option.some.inj h ▸ fun kV doc pm an cdv ct us hl => b_are_safe kV doc pm an cdv ct us hl
  | 15, _, h => Option.some.inj h ▸ fun kV doc pm an cdv ct us hl => b_is_safe kV doc pm an cdv ct us hl
  | 16, _, h => Option.some.inj h ▸ fun kV doc pm an cdv ct us hl => b_parts kV doc pm an cdv ct us hl
  | 17, _, h => Option.some.inj h ▸ fun kV doc pm an cdv ct us hl => b_safe_parts kV doc pm an cdv ct us hl
  | 18, _, h => Option.some.inj h ▸ fun kV doc pm an cdv ct us hl => b__law_pick kV doc pm an cdv ct us hl
  | 19, _, h => Option.some.inj h ▸ fun kV doc pm an cdv ct us hl => b__law_disk kV doc pm an cdv ct us hl
  | 20, _, h => Option.some.inj h ▸ fun kV doc pm an cdv ct us hl => b__law_name kV doc pm an cdv ct us hl
  | 21, _, h => Option.some.inj h ▸ fun kV doc pm an cdv ct us hl => b__law_names kV doc pm an cdv ct us hl
  | 22, _, h => Option.some.inj h ▸ fun kV doc pm an cdv ct us hl => b__law_image kV doc pm an cdv ct us hl
  | 23, _, h => Option.some.inj h ▸ fun kV doc pm an cdv ct us hl => b__law_place kV doc pm an cdv ct us hl
  | 24, _, h => Option.some.inj h ▸ fun kV doc pm an cdv ct us hl => b_law kV doc pm an cdv ct us hl
  | n + 25, _, h => nomatch h
def loose : List PySem.Str := (["PortError", "InvalidDisk", "InvalidNames", "SMALL", "CAPITAL", "SIGNS", "MAX_NAME", "MAX_TURNS", "MAX_DROPPED", "is_int", "is_sign", "is_name", "rises", "is_turn", "are_turns", "is_disk", "check_disk", "image_of", "place_of", "MAX_NAMES", "are_names", "check_names", "by_places", "groups", "are_safe", "is_safe", "parts", "safe_parts", "_law_pick", "_law_disk"] : List PySem.Str) ++ (["_law_name", "_law_names", "_law_image", "_law_place"] : List PySem.Str)
abbrev R : PySem.W.OpenRow := PySem.W.OpenLaw.row PySem.Challenge.rw_portnames_k03_whole_sets
abbrev hk : PySem.W.Hook := He.hookD 4 (faOf sg ds) (fnOf ds)
def ob (s : PySem.W.SharedT) : He.AlD := He.obsDG 4 (faOf sg ds) (fnOf ds) (HandSHeadRun.getT s)
theorem ob_eq (s : PySem.W.SharedT) : ob s = hk.obs s.abs := He.obsDG_eq (HandSHeadRun.getT_eq s)
theorem run (w : World) : HandSHeadRun.RunEq R (PySem.W.view R.prog [38]) hk ob 4000 loose w := by
  intro os
  kernel_rfl
def Law : Prop := ∀ ns : List Int, ns.length ≤ 63 → Fx 32 [.scr ns] = rt (.bl true)
end Mn.K03
open PySem PySem.W PySem.Calls PyProof.Rows
theorem Mn.K03.holds (law : Mn.K03.Law) : PySem.Challenge.rw_portnames_k03_whole_sets.Holds := by
  w_on; o_law
  refine HandSHeadRun.head_any (r := OpenLaw.row PySem.Challenge.rw_portnames_k03_whole_sets) (q := view (OpenLaw.row PySem.Challenge.rw_portnames_k03_whole_sets).prog [38]) (H := Mn.K03.hk) (ob := Mn.K03.ob) (M := 4000) (loose := Mn.K03.loose) (d := HandSHeadRun.topDef (OpenLaw.row PySem.Challenge.rw_portnames_k03_whole_sets).prog 38) (kwd := []) Mn.K03.ob_eq
    (by kernel_rfl) (fun s => by kernel_rfl) Mn.K03.run (by kernel_rfl) (by kernel_rfl) (by kernel_rfl) (by rfl) (by first | assumption | decide +kernel) (by decide +kernel) ⟨rfl, rfl, rfl, rfl, rfl, by decide +kernel⟩ ?hw ?hc
  case hw => w_witness2
  case hc =>
    refine L2.walk_ofE (l := PySem.Challenge.rw_portnames_k03_whole_sets) (n := 63) (k := 30) (x := "script") (CX := L2.CX0) rfl (by decide) (by kernel_rfl) ⟨rfl, by decide, by decide⟩ ?F (fun _ _ _ _ z => z)
    intro w mg fa h Y G hmg0
    obtain ⟨K, KX, c⟩ := Y
    have hmg : mg Mn.K03.d_law.x = some (.ref fa) := by
      have e : (HandSHeadRun.topDef (OpenLaw.row PySem.Challenge.rw_portnames_k03_whole_sets).prog 38).name = Mn.K03.d_law.x := by kernel_rfl
      rw [← e]
      exact hmg0
    obtain ⟨fd, sp, h1, h2, h3⟩ := Mn.law_fn (P := (PySem.Challenge.rw_portnames_k03_whole_sets).prog) (w := w) (n := 29) (m := 63) (f := 24) (T := Mn.G) (d := Mn.K03.d_law) (p := "script") KX G c Mn.K03.gl_ok (fun z => absurd z (by decide)) Mn.K03.hb Mn.K03.fns_ok Mn.K03.tab_ok Mn.K03.ck_ok rfl (by kernel_rfl) hmg (by decide) (show ∀ ns : List Int, ns.length ≤ 63 → Mn.callN Mn.G 30 32 [.scr ns] = Mn.rt (.bl true) from law)
    exact ⟨K, fd, sp, KX, h1, h2, h3⟩
end
section
set_option linter.all false
set_option maxRecDepth 100000
set_option maxHeartbeats 1000000
/-! Lb0: words for the evaluator: comprehensions, loops, equality, indices. Plain Lean. -/
namespace Mn
theorem limE : lim = 16777216 := rfl
theorem loops_eq : loops = 1000000000000 := rfl
/-! turns of comprehensions -/
@[simp] theorem wipeE_n (ρ : Env) : wipeE ρ [] = ρ := rfl
@[simp] theorem wipeE_c (ρ : Env) (v : Nat) (vs : List Nat) : wipeE ρ (v :: vs) = (wipeE ρ vs).set v .no := rfl
@[simp] theorem frzAll_c (c : Cl) (ρ : Env) : frzAll (c :: ρ) = shut c :: frzAll ρ := rfl
@[simp] theorem shut_s (d : D) : shut (.sh d) = .sh d := rfl
@[simp] theorem shut_o (d : D) : shut (.ow d) = .sh d := rfl
@[simp] theorem shut_n : shut .no = .no := rfl
@[simp] theorem shut_2 (c : Cl) : shut (shut c) = shut c := by cases c <;> rfl
@[simp] theorem frzK_j (is : List Nat) (i : Nat) (ρ : Env) (c : Cl) : frzK is i ρ (some (shut c)) = frz is ρ := by cases c <;> rfl
@[simp] theorem ex_shut_s (d : D) : (∃ c, Cl.sh d = shut c) = True := eq_true ⟨.sh d, rfl⟩
@[simp] theorem ex_shut_c (c : Cl) : (∃ c', shut c = shut c') = True := eq_true ⟨c, rfl⟩
def compX {α : Type} (f : α → Option (List D)) : List α → Option (List D)
  | [] => some []
  | x :: xs => match f x with
    | none => none
    | some ys => match compX f xs with
      | none => none
      | some zs => some (ys ++ zs)
@[simp] theorem compF_map {α : Type} (f : D → Option (List D)) (k : α → D) (xs : List α) : compF f (xs.map k) = compX (fun x => f (k x)) xs := by
  induction xs with
  | nil => rfl
  | cons x xs ih =>
    simp only [List.map_cons, compF, compX, ih]
    try rfl
theorem flat_sing {α β : Type} (g : α → β) (xs : List α) : (xs.flatMap fun x => [g x]) = xs.map g := by
  induction xs with
  | nil => rfl
  | cons x xs ih => rw [List.flatMap_cons, ih]; rfl
theorem compX_of {α : Type} {f : α → Option (List D)} {g : α → List D} : ∀ {xs : List α}, (∀ x ∈ xs, f x = some (g x)) → compX f xs = some (xs.flatMap g)
  | [], _ => rfl
  | x :: xs, h => by
    rw [compX, h x List.mem_cons_self, compX_of fun y hy => h y (List.mem_cons_of_mem _ hy)]
    rfl
@[simp] theorem compX_one {α : Type} (g : α → D) (xs : List α) : compX (fun x => some [g x]) xs = some (xs.map g) := by
  rw [compX_of (g := fun x => [g x]) fun _ _ => rfl, flat_sing]
theorem compX_map {α : Type} {f : α → Option (List D)} {g : α → D} {xs : List α} (h : ∀ x ∈ xs, f x = some [g x]) : compX f xs = some (xs.map g) := by
  rw [compX_of (g := fun x => [g x]) h, flat_sing]
theorem filt_flat {α β : Type} (p : α → Bool) (g : α → β) (xs : List α) : (xs.flatMap fun x => if p x then [g x] else []) = (xs.filter p).map g := by
  induction xs with
  | nil => rfl
  | cons x xs ih => by_cases h : p x = true <;> simp [h, ih]
@[simp] theorem compX_filt {α : Type} (P : α → Prop) [∀ x, Decidable (P x)] (g : α → D) (xs : List α) : compX (fun x => some (if P x then [g x] else [])) xs = some ((xs.filter fun x => decide (P x)).map g) := by
  rw [← filt_flat]
  rw [compX_of (g := fun x => if P x then [g x] else []) fun _ _ => rfl]
  simp
theorem compX_fmap {α : Type} {f : α → Option (List D)} {p : α → Bool} {g : α → D} {xs : List α} (h : ∀ x ∈ xs, f x = some (if p x then [g x] else [])) : compX f xs = some ((xs.filter p).map g) := by
  rw [compX_of (g := fun x => if p x then [g x] else []) h, filt_flat]
def tkK (o : Option Env) (fc fe : Env → M D) : Option (List D) := match o with
  | none => none
  | some ρ' => match nx (fc ρ') with
    | some (.bl true) => (nx (fe ρ')).map fun y => [y]
    | some (.bl false) => some []
    | _ => none
def tkC : Option D → Option D → Option (List D)
  | some (.bl true), y => y.map fun y => [y]
  | some (.bl false), _ => some []
  | _, _ => none
@[simp] theorem turnK_d (own : List Nat) (tg : Tg) (fc fe : Env → M D) (ρ : Env) (x : D) : turnK own tg fc fe ρ x = tkK (bindTg tg x (wipeE ρ own)) fc fe := rfl
@[simp] theorem tkK_s (ρ : Env) (fc fe : Env → M D) : tkK (some ρ) fc fe = tkC (nx (fc ρ)) (nx (fe ρ)) := by
  simp only [tkK]
  unfold tkC
  split <;> simp_all
@[simp] theorem tkC_t (y : D) : tkC (some (.bl true)) (some y) = some [y] := rfl
@[simp] theorem tkC_f (y : Option D) : tkC (some (.bl false)) y = some [] := rfl
@[simp] theorem tkC_b (b : Bool) (y : D) : tkC (some (.bl b)) (some y) = some (if b then [y] else []) := by cases b <;> rfl
@[simp] theorem allB_m {α : Type} (p : α → Bool) (x : List α) : allB (x.map fun c => D.bl (p c)) = some (x.all p) := by
  induction x with
  | nil => rfl
  | cons c x ih => simp [allB, ih]
@[simp] theorem anyB_m {α : Type} (p : α → Bool) (x : List α) : anyB (x.map fun c => D.bl (p c)) = some (x.any p) := by
  induction x with
  | nil => rfl
  | cons c x ih => simp [anyB, ih]
/-! comp2 -/
theorem v_comp2 (F : Nat → List D → M D) (ρ : Env) (own own2 : List Nat) (tg : Tg) (it c : E) (tg2 : Tg) (it2 c2 e : E) : evE F (.comp2 own own2 tg it c tg2 it2 c2 e) ρ = bd (evI F it ρ) fun xs => match compF (fun x => match bindTg tg x (wipeE ρ own) with
      | none => none
      | some ρ' => match nx (evE F c ρ') with
        | some (.bl true) => (match nx (evI F it2 ρ') with
          | none => none
          | some ys => compF (turnK own2 tg2 (evE F c2) (evE F e) ρ') ys)
        | some (.bl false) => some []
        | _ => none) xs with
      | none => none
      | some zs => if zs.length ≤ lim then rt (.lst zs) else none := by rw [evE]; rfl
/-! for -/
def forX {α : Type} (body : α → Env → Option Out) : List α → Env → Option Out
  | [], ρ => some (.nx ρ)
  | x :: xs, ρ => match body x ρ with
    | some (.nx ρ') => forX body xs ρ'
    | some (.cnt ρ') => forX body xs ρ'
    | some (.brk ρ') => some (.nx ρ')
    | o => o
theorem forF_map {α : Type} (body : D → Env → Option Out) (k : α → D) (xs : List α) (ρ : Env) : forF body (xs.map k) ρ = forX (fun x => body (k x)) xs ρ := by
  induction xs generalizing ρ with
  | nil => rfl
  | cons x xs ih =>
    simp only [List.map_cons, forF, forX]
    split <;> simp_all
/-- a loop that goes on: by a state -/
theorem forX_st {α σ : Type} {body : α → Env → Option Out} (I : σ → Env → Prop) (g : σ → α → σ) : ∀ (xs : List α) (s : σ) (ρ : Env), (∀ s x ρ, x ∈ xs → I s ρ → ∃ ρ', body x ρ = some (.nx ρ') ∧ I (g s x) ρ') → I s ρ → ∃ ρ', forX body xs ρ = some (.nx ρ') ∧ I (xs.foldl g s) ρ'
  | [], s, ρ, _, h => ⟨ρ, rfl, h⟩
  | x :: xs, s, ρ, hs, h => by
    obtain ⟨ρ1, h1, h2⟩ := hs s x ρ List.mem_cons_self h
    obtain ⟨ρ2, h3, h4⟩ := forX_st I g xs (g s x) ρ1 (fun s y ρ hy => hs s y ρ (List.mem_cons_of_mem _ hy)) h2
    exact ⟨ρ2, by rw [forX, h1]; exact h3, h4⟩
/-- a loop that keeps an invariant -/
theorem forX_inv {α : Type} {body : α → Env → Option Out} (I : Env → Prop) (xs : List α) (ρ : Env) (hs : ∀ x ρ, x ∈ xs → I ρ → ∃ ρ', body x ρ = some (.nx ρ') ∧ I ρ') (h : I ρ) : ∃ ρ', forX body xs ρ = some (.nx ρ') ∧ I ρ' := by
  obtain ⟨ρ', h1, h2⟩ := forX_st (σ := Unit) (fun _ => I) (fun _ _ => ()) xs () ρ (fun _ x ρ hx h => hs x ρ hx h) h
  exact ⟨ρ', h1, h2⟩
/-- .. that counts its turns -/
theorem forX_cnt {α : Type} {body : α → Env → Option Out} (I : Nat → Env → Prop) : ∀ (xs : List α) (k : Nat) (ρ : Env), (∀ k' x ρ, x ∈ xs → k' < k + xs.length → I k' ρ → ∃ ρ', body x ρ = some (.nx ρ') ∧ I (k' + 1) ρ') → I k ρ → ∃ ρ', forX body xs ρ = some (.nx ρ') ∧ I (k + xs.length) ρ'
  | [], k, ρ, _, h => ⟨ρ, rfl, h⟩
  | x :: xs, k, ρ, hs, h => by
    obtain ⟨ρ1, h1, h2⟩ := hs k x ρ List.mem_cons_self (by simp) h
    obtain ⟨ρ2, h3, h4⟩ := forX_cnt I xs (k + 1) ρ1 (fun k' y ρ hy hk => hs k' y ρ (List.mem_cons_of_mem _ hy) (by simp at hk ⊢; omega)) h2
    refine ⟨ρ2, by rw [forX, h1]; exact h3, ?_⟩
    rw [List.length_cons]
    have : k + 1 + xs.length = k + (xs.length + 1) := by omega
    rw [← this]; exact h4
/-- .. that may end early -/
def stepG {σ : Type} : List α → (σ → α → D ⊕ σ) → σ → D ⊕ σ
  | [], _, s => .inr s
  | x :: xs, g, s => match g s x with
    | .inl d => .inl d
    | .inr s' => stepG xs g s'
def outI {σ : Type} (I : σ → Env → Prop) (o : Option Out) : D ⊕ σ → Prop
  | .inl d => o = some (.ret d)
  | .inr s => ∃ ρ, o = some (.nx ρ) ∧ I s ρ
theorem forX_ret {α σ : Type} {body : α → Env → Option Out} (I : σ → Env → Prop) (g : σ → α → D ⊕ σ) : ∀ (xs : List α) (s : σ) (ρ : Env), (∀ s x ρ, x ∈ xs → I s ρ → outI I (body x ρ) (g s x)) → I s ρ → outI I (forX body xs ρ) (stepG xs g s)
  | [], s, ρ, _, h => ⟨ρ, rfl, h⟩
  | x :: xs, s, ρ, hs, h => by
    have h1 := hs s x ρ List.mem_cons_self h
    have e : stepG (x :: xs) g s = match g s x with
      | .inl d => .inl d
      | .inr s' => stepG xs g s' := rfl
    rw [e]
    cases eg : g s x with
    | inl d =>
      rw [eg] at h1
      have h1 : body x ρ = some (.ret d) := h1
      show forX body (x :: xs) ρ = some (.ret d)
      rw [forX, h1]
    | inr s' =>
      rw [eg] at h1
      obtain ⟨ρ1, h1, h2⟩ := h1
      have := forX_ret I g xs s' ρ1 (fun s y ρ hy => hs s y ρ (List.mem_cons_of_mem _ hy)) h2
      rw [forX, h1]
      exact this
/-! range, enumerate, zip -/
theorem rangeO_nat (v : Nat) (h : v ≤ 100000) : rangeO [.int v] = some ((List.range v).map fun (i : Nat) => D.int i) := by
  have := limE
  simp only [rangeO]
  rw [if_pos (by omega)]
  simp [rangeL]
@[simp] theorem rangeO_1 : rangeO [.int 1] = some ((List.range 1).map fun (i : Nat) => D.int i) := rangeO_nat 1 (by decide)
@[simp] theorem rangeO_2 : rangeO [.int 2] = some ((List.range 2).map fun (i : Nat) => D.int i) := rangeO_nat 2 (by decide)
@[simp] theorem rangeO_3 : rangeO [.int 3] = some ((List.range 3).map fun (i : Nat) => D.int i) := rangeO_nat 3 (by decide)
@[simp] theorem rangeO_4 : rangeO [.int 4] = some ((List.range 4).map fun (i : Nat) => D.int i) := rangeO_nat 4 (by decide)
@[simp] theorem rangeO_5 : rangeO [.int 5] = some ((List.range 5).map fun (i : Nat) => D.int i) := rangeO_nat 5 (by decide)
@[simp] theorem rangeO_6 : rangeO [.int 6] = some ((List.range 6).map fun (i : Nat) => D.int i) := rangeO_nat 6 (by decide)
@[simp] theorem rangeO_14 : rangeO [.int 14] = some ((List.range 14).map fun (i : Nat) => D.int i) := rangeO_nat 14 (by decide)
theorem zipL_map {α β : Type} (k : α → D) (j : β → D) : ∀ (xs : List α) (ys : List β), zipL (xs.map k) (ys.map j) = (xs.zip ys).map fun p => D.tup [k p.1, j p.2]
  | [], _ => by simp [zipL]
  | _ :: _, [] => by simp [zipL]
  | x :: xs, y :: ys => by simp [zipL, zipL_map k j xs ys]
theorem enumL_map {α : Type} (k : α → D) : ∀ (xs : List α) (n : Nat), enumL n (xs.map k) = (xs.zipIdx n).map fun p => D.tup [.int p.2, k p.1]
  | [], _ => rfl
  | x :: xs, n => by simp [enumL, enumL_map k xs (n + 1), List.zipIdx_cons]
/-! indices, slices -/
theorem ixN_nat {n k : Nat} (h : k < n) : ixN n (k : Int) = some k := by
  unfold ixN
  rw [if_pos (by omega), if_pos (by omega)]
  simp
@[simp] theorem x_t0 (a : D) (r : List D) : idxO (.tup (a :: r)) (.int 0) = some a := by
  have : ixN (a :: r).length 0 = some 0 := ixN_nat (k := 0) (by simp)
  simp only [idxO, this]; rfl
@[simp] theorem x_t1 (a b : D) (r : List D) : idxO (.tup (a :: b :: r)) (.int 1) = some b := by
  have : ixN (a :: b :: r).length 1 = some 1 := ixN_nat (k := 1) (by simp)
  simp only [idxO, this]; rfl
@[simp] theorem x_t2 (a b c : D) (r : List D) : idxO (.tup (a :: b :: c :: r)) (.int 2) = some c := by
  have : ixN (a :: b :: c :: r).length 2 = some 2 := ixN_nat (k := 2) (by simp)
  simp only [idxO, this]; rfl
@[simp] theorem x_t3 (a b c d : D) (r : List D) : idxO (.tup (a :: b :: c :: d :: r)) (.int 3) = some d := by
  have : ixN (a :: b :: c :: d :: r).length 3 = some 3 := ixN_nat (k := 3) (by simp)
  simp only [idxO, this]; rfl
@[simp] theorem x_l0 (a : D) (r : List D) : idxO (.lst (a :: r)) (.int 0) = some a := by
  have : ixN (a :: r).length 0 = some 0 := ixN_nat (k := 0) (by simp)
  simp only [idxO, this]; rfl
@[simp] theorem x_l1 (a b : D) (r : List D) : idxO (.lst (a :: b :: r)) (.int 1) = some b := by
  have : ixN (a :: b :: r).length 1 = some 1 := ixN_nat (k := 1) (by simp)
  simp only [idxO, this]; rfl
theorem x_lst (xs : List D) (k : Nat) (h : k < xs.length) : idxO (.lst xs) (.int (k : Int)) = some xs[k] := by
  have := ixN_nat h
  simp only [idxO, this]; simp [h]
theorem x_tup (xs : List D) (k : Nat) (h : k < xs.length) : idxO (.tup xs) (.int (k : Int)) = some xs[k] := by
  have := ixN_nat h
  simp only [idxO, this]; simp [h]
theorem x_str (xs : Tx) (k : Nat) (h : k < xs.length) : idxO (.str xs) (.int (k : Int)) = some (.str [xs[k]]) := by
  have := ixN_nat h
  simp only [idxO, this]; simp [h]
theorem ixN_last (n : Nat) (h : 0 < n) : ixN n (-1) = some (n - 1) := by
  unfold ixN
  rw [if_neg (by omega), if_pos (by omega)]
  congr 1
  omega
theorem x_lastS (x : Tx) (h : x ≠ []) : idxO (.str x) (.int (-1)) = some (.str [x.getLast h]) := by
  have hl : 0 < x.length := List.length_pos_iff.mpr h
  have := ixN_last _ hl
  simp only [idxO, this]
  rw [List.getLast_eq_getElem]
  simp [show x.length - 1 < x.length by omega]
theorem x_lastL (x : List D) (h : x ≠ []) : idxO (.lst x) (.int (-1)) = some (x.getLast h) := by
  have hl : 0 < x.length := List.length_pos_iff.mpr h
  have := ixN_last _ hl
  simp only [idxO, this]
  rw [List.getLast_eq_getElem]
  simp [show x.length - 1 < x.length by omega]
@[simp] theorem cut_from {α : Type} (x : List α) (k : Nat) : cut x (some (k : Int)) none = x.drop k := by
  unfold cut
  have e1 : sIx x.length 0 (some (k : Int)) = min k x.length := by
    show (if (k : Int) < 0 then ((k : Int) + (x.length : Int)).toNat else min (k : Int).toNat x.length) = _
    rw [if_neg (by omega)]
    simp
  have e2 : sIx x.length x.length none = x.length := rfl
  rw [e1, e2]
  by_cases h : k ≤ x.length
  · rw [Nat.min_eq_left h, List.take_of_length_le (by simp)]
  · rw [Nat.min_eq_right (by omega), List.drop_eq_nil_of_le (Nat.le_refl _), List.drop_eq_nil_of_le (by omega)]
    simp
theorem cut1 {α : Type} (x : List α) : cut x (some 1) none = x.drop 1 := cut_from x 1
theorem cut_last {α : Type} (y : List α) (c : α) : cut (y ++ [c]) none (some (-1)) = y := by
  have e1 : sIx (y ++ [c]).length 0 none = 0 := rfl
  have e2 : sIx (y ++ [c]).length (y ++ [c]).length (some (-1)) = y.length := by
    show (if (-1 : Int) < 0 then ((-1 : Int) + ((y ++ [c]).length : Int)).toNat else min (-1 : Int).toNat (y ++ [c]).length) = _
    rw [if_pos (by omega)]
    simp
    omega
  unfold cut
  rw [e1, e2]
  simp
@[simp] theorem cut_to {α : Type} (x : List α) (l : Nat) : cut x none (some (l : Int)) = x.take l := by
  have e1 : sIx x.length 0 none = 0 := rfl
  have e2 : sIx x.length x.length (some (l : Int)) = min l x.length := by
    show (if (l : Int) < 0 then ((l : Int) + (x.length : Int)).toNat else min (l : Int).toNat x.length) = _
    rw [if_neg (by omega)]
    simp
  unfold cut
  rw [e1, e2]
  simp only [List.drop_zero, Nat.sub_zero]
  rw [List.take_eq_take_iff]
  omega
/-! equality: values of a kind -/
structure Enc {α : Type} [DecidableEq α] (n : Nat) (e : α → D) : Prop where
  pl : ∀ a, (e a).pl = true
  dep : ∀ a, (e a).dep ≤ n
  eq : ∀ a b, eqD (e a) (e b) = decide (a = b)
section
variable {α β : Type} [DecidableEq α] [DecidableEq β] {e : α → D} {e2 : β → D} {n m : Nat}
theorem enc_str : Enc 0 D.str := ⟨fun _ => rfl, fun _ => Nat.le_refl _, fun a b => by show (a == b) = _; rw [beq_dec]⟩
theorem enc_int : Enc 0 D.int := ⟨fun _ => rfl, fun _ => Nat.le_refl _, fun a b => by show (a == b) = _; rw [beq_dec]⟩
theorem enc_nat : Enc 0 (fun n : Nat => D.int n) := ⟨fun _ => rfl, fun _ => Nat.le_refl _, fun a b => by show ((a : Int) == b) = _; rw [beq_dec]; exact decide_eq_decide.mpr Int.ofNat_inj⟩
theorem enc_bl : Enc 0 D.bl := ⟨fun _ => rfl, fun _ => Nat.le_refl _, fun a b => by show (a == b) = _; rw [beq_dec]⟩
theorem Enc.le (h : Enc n e) (hm : n ≤ m) : Enc m e := ⟨h.pl, fun a => Nat.le_trans (h.dep a) hm, h.eq⟩
theorem Enc.plL (h : Enc n e) (xs : List α) : plL (xs.map e) = true := by
  induction xs with
  | nil => rfl
  | cons x xs ih => simp [Mn.plL, h.pl, ih]
theorem Enc.depL (h : Enc n e) (xs : List α) : depL (xs.map e) ≤ n := by
  induction xs with
  | nil => exact Nat.zero_le _
  | cons x xs ih =>
    show max (e x).dep (Mn.depL (xs.map e)) ≤ n
    exact Nat.max_le.mpr ⟨h.dep x, ih⟩
theorem Enc.eqL (h : Enc n e) : ∀ xs ys : List α, eqL (xs.map e) (ys.map e) = decide (xs = ys)
  | [], [] => by simp [Mn.eqL]
  | [], _ :: _ => by simp [Mn.eqL]
  | _ :: _, [] => by simp [Mn.eqL]
  | x :: xs, y :: ys => by
    simp only [List.map_cons, Mn.eqL, h.eq, h.eqL xs ys]
    simp
theorem Enc.lst (h : Enc n e) : Enc (n + 1) (fun xs : List α => D.lst (xs.map e)) :=
  ⟨fun xs => h.plL xs, fun xs => Nat.succ_le_succ (h.depL xs), fun xs ys => h.eqL xs ys⟩
theorem Enc.tup (h : Enc n e) : Enc (n + 1) (fun xs : List α => D.tup (xs.map e)) :=
  ⟨fun xs => h.plL xs, fun xs => Nat.succ_le_succ (h.depL xs), fun xs ys => h.eqL xs ys⟩
theorem Enc.pair (h : Enc n e) (h2 : Enc m e2) : Enc (max n m + 1) (fun p : α × β => D.tup [e p.1, e2 p.2]) :=
  ⟨fun p => by simp [D.pl, Mn.plL, h.pl, h2.pl], fun p => by
    have a := h.dep p.1
    have b := h2.dep p.2
    simp [D.dep, Mn.depL]
    omega, fun p q => by
    simp only [eqD, Mn.eqL, h.eq, h2.eq]
    rcases p with ⟨a, b⟩
    rcases q with ⟨c, d⟩
    simp⟩
theorem Enc.comp {γ : Type} [DecidableEq γ] (h : Enc n e) (f : γ → α) (inj : ∀ a b, f a = f b → a = b) : Enc n (fun a => e (f a)) :=
  ⟨fun a => h.pl _, fun a => h.dep _, fun a b => by
    rw [h.eq]
    by_cases hab : a = b
    · simp [hab]
    · have : ¬ f a = f b := fun z => hab (inj _ _ z)
      simp [hab, this]⟩
theorem Enc.ok (h : Enc n e) (hn : n ≤ 64) (a : α) : okEq (e a) = true := by
  unfold okEq
  rw [h.pl, decide_eq_true (Nat.le_trans (h.dep a) hn)]
  rfl
theorem Enc.ceq (h : Enc n e) (hn : n ≤ 64) (a b : α) : cmpO .eq (e a) (e b) = some (decide (a = b)) := by
  show eqO _ _ = _
  unfold eqO
  rw [h.ok hn, h.ok hn, h.eq]
  rfl
theorem Enc.cne (h : Enc n e) (hn : n ≤ 64) (a b : α) : cmpO .ne (e a) (e b) = some (!decide (a = b)) := by
  show (eqO _ _).map _ = _
  unfold eqO
  rw [h.ok hn, h.ok hn, h.eq]
  rfl
/-- against the empty list -/
theorem Enc.ne_nil (h : Enc n e) (hn : n < 64) (xs : List α) : cmpO .ne (.lst (xs.map e)) (.lst []) = some (!decide (xs = [])) := h.lst.cne (by omega) xs []
theorem Enc.eq_nil (h : Enc n e) (hn : n < 64) (xs : List α) : cmpO .eq (.lst (xs.map e)) (.lst []) = some (decide (xs = [])) := h.lst.ceq (by omega) xs []
/-- in -/
theorem Enc.inL (h : Enc n e) (a : α) : ∀ xs : List α, inL (e a) (xs.map e) = decide (a ∈ xs)
  | [] => rfl
  | x :: xs => by
    simp only [List.map_cons, Mn.inL, h.eq, h.inL a xs]
    by_cases hx : x = a
    · simp [hx]
    · have : ¬ a = x := fun z => hx z.symm
      simp [hx, this]
end
theorem inO_str {α : Type} (a : Tx) (g : α → Tx) (xs : List α) : inL (.str a) (xs.map fun x => D.str (g x)) = decide (a ∈ xs.map g) ∧ (xs.map fun x => D.str (g x)).all flat = true := by
  refine ⟨?_, by simp [flat]⟩
  rw [show (xs.map fun x => D.str (g x)) = (xs.map g).map D.str by rw [List.map_map]; rfl, enc_str.inL]
  exact decide_eq_decide.mpr Iff.rfl
@[simp] theorem in_strL {α : Type} (a : Tx) (g : α → Tx) (xs : List α) : cmpO .isIn (.str a) (.lst (xs.map fun x => D.str (g x))) = some (decide (a ∈ xs.map g)) := by
  show (if flat (.str a) && (xs.map fun x => D.str (g x)).all flat then some (inL (.str a) (xs.map fun x => D.str (g x))) else none) = _
  rw [(inO_str a g xs).1, (inO_str a g xs).2]
  simp [flat]
@[simp] theorem in_strT {α : Type} (a : Tx) (g : α → Tx) (xs : List α) : cmpO .isIn (.str a) (.tup (xs.map fun x => D.str (g x))) = some (decide (a ∈ xs.map g)) := by
  show (if flat (.str a) && (xs.map fun x => D.str (g x)).all flat then some (inL (.str a) (xs.map fun x => D.str (g x))) else none) = _
  rw [(inO_str a g xs).1, (inO_str a g xs).2]
  simp [flat]
theorem notIn_of {x y : D} {b : Bool} (h : cmpO .isIn x y = some b) : cmpO .notIn x y = some (!b) := by
  have h : inO x y = some b := h
  show (inO x y).map (!·) = _
  rw [h]; rfl
@[simp] theorem notin_strL {α : Type} (a : Tx) (g : α → Tx) (xs : List α) : cmpO .notIn (.str a) (.lst (xs.map fun x => D.str (g x))) = some (!decide (a ∈ xs.map g)) := notIn_of (in_strL a g xs)
@[simp] theorem notin_strT {α : Type} (a : Tx) (g : α → Tx) (xs : List α) : cmpO .notIn (.str a) (.tup (xs.map fun x => D.str (g x))) = some (!decide (a ∈ xs.map g)) := notIn_of (in_strT a g xs)
@[simp] theorem in_strL' (a : Tx) (xs : List Tx) : cmpO .isIn (.str a) (.lst (xs.map .str)) = some (decide (a ∈ xs)) := by
  have := in_strL a (fun x => x) xs
  simpa using this
@[simp] theorem in_strT' (a : Tx) (xs : List Tx) : cmpO .isIn (.str a) (.tup (xs.map .str)) = some (decide (a ∈ xs)) := by
  have := in_strT a (fun x => x) xs
  simpa using this
@[simp] theorem notin_strL' (a : Tx) (xs : List Tx) : cmpO .notIn (.str a) (.lst (xs.map .str)) = some (!decide (a ∈ xs)) := notIn_of (in_strL' a xs)
@[simp] theorem notin_strT' (a : Tx) (xs : List Tx) : cmpO .notIn (.str a) (.tup (xs.map .str)) = some (!decide (a ∈ xs)) := notIn_of (in_strT' a xs)
def isNon : D → Bool
  | .non => true
  | _ => false
@[simp] theorem c_isnn (x : D) : cmpO .is x .non = some (isNon x) := by
  cases x <;> rfl
@[simp] theorem c_isnotn (x : D) : cmpO .isNot x .non = some (!isNon x) := by
  cases x <;> rfl
@[simp] theorem isNon_n : isNon .non = true := rfl
@[simp] theorem isNon_s (s : Tx) : isNon (.str s) = false := rfl
@[simp] theorem isNon_t (s : List D) : isNon (.tup s) = false := rfl
@[simp] theorem isNon_l (s : List D) : isNon (.lst s) = false := rfl
@[simp] theorem isNon_i (s : Int) : isNon (.int s) = false := rfl
/-! texts: lists of them -/
theorem cmp_strs {α : Type} (g : α → Tx) (xs : List α) : cmpO .ne (.lst (xs.map fun x => D.str (g x))) (.lst []) = some (!decide (xs = [])) := by
  have := enc_str.ne_nil (by decide) (xs.map g)
  rw [List.map_map, Function.comp_def] at this
  simpa using this
@[simp] theorem ne_strs {α : Type} (g : α → Tx) (xs : List α) : cmpO .ne (.lst (xs.map fun x => D.str (g x))) (.lst []) = some (!decide (xs = [])) := cmp_strs g xs
@[simp] theorem ne_strs' (xs : List Tx) : cmpO .ne (.lst (xs.map .str)) (.lst []) = some (!decide (xs = [])) := enc_str.ne_nil (by decide) xs
@[simp] theorem eq_strs {α : Type} (g : α → Tx) (xs : List α) : cmpO .eq (.lst (xs.map fun x => D.str (g x))) (.lst []) = some (decide (xs = [])) := by
  have := enc_str.eq_nil (by decide) (xs.map g)
  rw [List.map_map, Function.comp_def] at this
  simpa using this
@[simp] theorem eq_strs' (xs : List Tx) : cmpO .eq (.lst (xs.map .str)) (.lst []) = some (decide (xs = [])) := enc_str.eq_nil (by decide) xs
theorem strL_str : ∀ xs : List Tx, strL (xs.map .str) = some xs
  | [] => rfl
  | x :: xs => by simp [strL, strL_str xs]
@[simp] theorem strL_map {α : Type} (g : α → Tx) (xs : List α) : strL (xs.map fun x => D.str (g x)) = some (xs.map g) := by
  have := strL_str (xs.map g)
  rw [List.map_map] at this
  exact this
theorem join_flat : ∀ x : List Tx, joinTx [] x = x.flatten
  | [] => rfl
  | [c] => by simp [joinTx]
  | c :: e :: x => by
    have := join_flat (e :: x)
    simp [joinTx] at this ⊢
    rw [this]
theorem join_szf (x : List Tx) : joinSz [] x = x.flatten.length := by
  unfold joinSz
  induction x with
  | nil => rfl
  | cons c x ih => simp [List.length_flatten] at ih ⊢
@[simp] theorem mth_joinF {α : Type} (g : α → Tx) (x : List α) : mthO .join (.str []) [.lst (x.map fun x => D.str (g x))] = if (x.flatMap g).length ≤ lim then some (.str (x.flatMap g)) else none := by
  simp only [mthO, strL_map, join_szf, join_flat, List.flatMap_def]
@[simp] theorem mth_joinF' (x : List Tx) : mthO .join (.str []) [.lst (x.map D.str)] = if x.flatten.length ≤ lim then some (.str x.flatten) else none := by
  simp only [mthO, strL_str, join_szf, join_flat, List.flatMap_def]
@[simp] theorem flat_sing' {α β : Type} (g : α → β) (xs : List α) : (xs.flatMap fun x => [g x]) = xs.map g := flat_sing g xs
@[simp] theorem flat_sing1 {α : Type} (xs : List α) : (xs.flatMap fun x => [x]) = xs := by rw [flat_sing]; simp
theorem ltTx_one (a b : Nat) : ltTx [a] [b] = decide (a < b) := by
  simp only [ltTx]
  by_cases h : a < b
  · simp [h]
  · simp [h]
@[simp] theorem rcv_j (x : Tx) : rcv .join (.str x) = true := rfl
@[simp] theorem rcv_l (x : Tx) : rcv .lower (.str x) = true := rfl
@[simp] theorem rcv_u (x : Tx) : rcv .upper (.str x) = true := rfl
@[simp] theorem rcv_i (x : Tx) : rcv .index (.str x) = true := rfl
@[simp] theorem rcv_il (x : List D) : rcv .index (.lst x) = true := rfl
@[simp] theorem rcv_c (x : List D) : rcv .count (.lst x) = true := rfl
@[simp] theorem rcv_g (x : List Tx) (y : List D) : rcv .get (.dct x y) = true := rfl
@[simp] theorem rcv_s (x : Tx) : rcv .split (.str x) = true := rfl
/-! step by step -/
section
variable {F : Nat → List D → M D} {i j : Nat} {e a b : E} {t u r : S} {ρ ρ1 ρ2 : Env} {d x y : D}
theorem st_asg (hv : frz (vars e) ρ = ρ1) (he : evE F e ρ1 = some (.ok d)) : evS F (.seq (.asg i e) t) ρ = evS F t (ρ1.set i (mkCl (fresh e) d)) := by
  rw [s_seq', s_asg', hv, he, go_ok, seqK_n]
theorem st_par (hv : frz (vars a ++ vars b) ρ = ρ1) (ha : evE F a ρ1 = some (.ok x)) (hb : evE F b ρ1 = some (.ok y)) : evS F (.seq (.par i j a b) t) ρ = evS F t ((ρ1.set i (mkCl (fresh a) x)).set j (mkCl (fresh b) y)) := by
  rw [s_seq', s_par', hv, ha, go_ok, hb, go_ok, seqK_n]
theorem st_exp (hv : frz (vars e) ρ = ρ1) (he : evE F e ρ1 = some (.ok d)) : evS F (.seq (.exp e) t) ρ = evS F t ρ1 := by
  rw [s_seq', s_exp', hv, he, go_ok, seqK_n]
theorem st_ret (he : evE F e (frzAll ρ) = some (.ok d)) : evS F (.seq (.ret e) t) ρ = some (.ret d) := by
  rw [s_seq', s_ret', he, go_ok, seqK_r]
theorem st_if (hv : frz (vars e) ρ = ρ1) {c : Bool} (he : evE F e ρ1 = some (.ok (.bl c))) : evS F (.seq (.ife e t u) r) ρ = seqK (if c then evS F t ρ1 else evS F u ρ1) (evS F r) := by
  rw [s_seq', s_ife', hv, he, go_ok]
  cases c <;> rfl
/-- a test that is passed by -/
theorem st_no (hv : frz (vars e) ρ = ρ1) (he : evE F e ρ1 = some (.ok (.bl false))) : evS F (.seq (.ife e t .skip) r) ρ = evS F r ρ1 := by
  rw [st_if hv he]
  simp
theorem st_for {α : Type} {tg : Tg} {xs : List α} {k : α → D} (hv : frz (vars e) ρ = ρ1) (he : evI F e ρ1 = some (.ok (xs.map k))) (hf : forX (fun x => forB tg (evS F t) (k x)) xs ρ1 = some (.nx ρ2)) : evS F (.seq (.for_ tg e t) r) ρ = evS F r ρ2 := by
  rw [s_seq', s_for', hv, he, go_ok, forF_map, hf, seqK_n]
theorem st_whl (hf : whlF (cWhl (vars e) (evE F e)) (evS F t) loops ρ = some (.nx ρ2)) : evS F (.seq (.whl e t) r) ρ = evS F r ρ2 := by
  rw [s_seq', s_whl', hf, seqK_n]
theorem st_unp {is : List Nat} {xs : List D} (hv : frz (vars e) ρ = ρ1) (he : evE F e ρ1 = some (.ok (.tup xs))) (hl : xs.length = is.length) : evS F (.seq (.unp is e) t) ρ = evS F t (setAll is xs ρ1) := by
  rw [s_seq', s_unp', hv, he, go_ok, unpK_t, if_pos hl, seqK_n]
end
def bodyOf : S → S
  | .seq (.for_ _ _ b) _ => b
  | .seq (.whl _ b) _ => b
  | s => s
def nextOf : S → S
  | .seq _ t => t
  | s => s
/-! what a piece ends in -/
def Nx (I : Env → Prop) (o : Option Out) : Prop := ∃ ρ, o = some (.nx ρ) ∧ I ρ
def Rt (d : D) (o : Option Out) : Prop := o = some (.ret d)
theorem Nx.mk {I : Env → Prop} {ρ : Env} (h : I ρ) : Nx I (some (.nx ρ)) := ⟨ρ, rfl, h⟩
@[simp] theorem Nx_nx (I : Env → Prop) (ρ : Env) : Nx I (some (.nx ρ)) = I ρ := by
  apply propext
  constructor
  · rintro ⟨ρ', e, h⟩
    cases e
    exact h
  · exact Nx.mk
@[simp] theorem Rt_ret (d e : D) : Rt d (some (.ret e)) = (e = d) := by
  apply propext
  constructor
  · intro h
    have h : some (Out.ret e) = some (Out.ret d) := h
    cases h
    rfl
  · rintro rfl; rfl
theorem fx_ret {f : Nat} {fd : FnD} {ds : List D} {v : D} (hd : G[f]? = some fd) (hr : rk.getD f 99 < 30) (hl : ds.length = fd.np) (h : Rt v (evS Fx fd.body (start fd.nn ds))) : Fx f ds = some (.ok v) := by
  have h : evS Fx fd.body (start fd.nn ds) = some (.ret v) := h
  rw [fx f ds hd hr hl, h]
  rfl
section
variable {F : Nat → List D → M D} {Q : Option Out → Prop} {i j : Nat} {e a b : E} {t u r : S} {ρ ρ1 ρ2 : Env} {d x y : D}
theorem wp_asg (d : D) (hv : frz (vars e) ρ = ρ1) (he : evE F e ρ1 = some (.ok d)) (h : Q (evS F t (ρ1.set i (mkCl (fresh e) d)))) : Q (evS F (.seq (.asg i e) t) ρ) := (st_asg hv he) ▸ h
theorem wp_par (x y : D) (hv : frz (vars a ++ vars b) ρ = ρ1) (ha : evE F a ρ1 = some (.ok x)) (hb : evE F b ρ1 = some (.ok y)) (h : Q (evS F t ((ρ1.set i (mkCl (fresh a) x)).set j (mkCl (fresh b) y)))) : Q (evS F (.seq (.par i j a b) t) ρ) := (st_par hv ha hb) ▸ h
theorem wp_exp (d : D) (hv : frz (vars e) ρ = ρ1) (he : evE F e ρ1 = some (.ok d)) (h : Q (evS F t ρ1)) : Q (evS F (.seq (.exp e) t) ρ) := (st_exp hv he) ▸ h
theorem wp_ret (d : D) (he : evE F e (frzAll ρ) = some (.ok d)) (h : Q (some (.ret d))) : Q (evS F (.seq (.ret e) t) ρ) := (st_ret he) ▸ h
theorem wp_no (hv : frz (vars e) ρ = ρ1) (he : evE F e ρ1 = some (.ok (.bl false))) (h : Q (evS F r ρ1)) : Q (evS F (.seq (.ife e t .skip) r) ρ) := (st_no hv he) ▸ h
theorem wp_if {c : Bool} (hv : frz (vars e) ρ = ρ1) (he : evE F e ρ1 = some (.ok (.bl c))) (h : Q (seqK (if c then evS F t ρ1 else evS F u ρ1) (evS F r))) : Q (evS F (.seq (.ife e t u) r) ρ) := (st_if hv he) ▸ h
theorem wp_unp {is : List Nat} (xs : List D) (hv : frz (vars e) ρ = ρ1) (he : evE F e ρ1 = some (.ok (.tup xs))) (hl : xs.length = is.length) (h : Q (evS F t (setAll is xs ρ1))) : Q (evS F (.seq (.unp is e) t) ρ) := (st_unp hv he hl) ▸ h
theorem wp_ext (xs ys : List D) (hv : frz (vars e) ρ = ρ1) (ho : ownAt ρ1 i = some (.lst xs)) (he : evE F e ρ1 = some (.ok (.lst ys))) (hl : xs.length + ys.length ≤ lim) (h : Q (evS F t (ρ1.set i (.ow (.lst (xs ++ ys)))))) : Q (evS F (.seq (.ext i e) t) ρ) := by
  rw [s_seq', s_ext', hv, ho, he, extK_l, go_ok, extK2_l, if_pos hl, seqK_n]
  exact h
theorem wp_app (xs : List D) (d : D) (hv : frz (vars e) ρ = ρ1) (ho : ownAt ρ1 i = some (.lst xs)) (he : evE F e ρ1 = some (.ok d)) (hl : xs.length < lim) (h : Q (evS F t (ρ1.set i (.ow (.lst (xs ++ [d])))))) : Q (evS F (.seq (.app i e) t) ρ) := by
  rw [s_seq', s_app', hv, ho, he, appK_l, go_ok, if_pos hl, seqK_n]
  exact h
/-- a loop that keeps I -/
theorem wp_for {α : Type} {tg : Tg} (I : Env → Prop) (xs : List α) (k : α → D) (hv : frz (vars e) ρ = ρ1) (he : evI F e ρ1 = some (.ok (xs.map k))) (h0 : I ρ1) (hs : ∀ x ρ, x ∈ xs → I ρ → Nx I (forB tg (evS F t) (k x) ρ)) (h : ∀ ρ, I ρ → Q (evS F r ρ)) : Q (evS F (.seq (.for_ tg e t) r) ρ) := by
  obtain ⟨ρ2, h1, h2⟩ := forX_inv (body := fun x => forB tg (evS F t) (k x)) I xs ρ1 hs h0
  exact (st_for hv he h1) ▸ h ρ2 h2
/-- .. that folds a state -/
theorem wp_fold {α σ : Type} {tg : Tg} (I : σ → Env → Prop) (g : σ → α → σ) (s : σ) (xs : List α) (k : α → D) (hv : frz (vars e) ρ = ρ1) (he : evI F e ρ1 = some (.ok (xs.map k))) (h0 : I s ρ1) (hs : ∀ s x ρ, x ∈ xs → I s ρ → Nx (I (g s x)) (forB tg (evS F t) (k x) ρ)) (h : ∀ ρ, I (xs.foldl g s) ρ → Q (evS F r ρ)) : Q (evS F (.seq (.for_ tg e t) r) ρ) := by
  obtain ⟨ρ2, h1, h2⟩ := forX_st (body := fun x => forB tg (evS F t) (k x)) I g xs s ρ1 hs h0
  exact (st_for hv he h1) ▸ h ρ2 h2
end
@[simp] theorem forB_1 (i : Nat) (f : Env → Option Out) (x : D) (ρ : Env) : forB (.one i) f x ρ = f (ρ.set i (.sh x)) := rfl
def optK {α β : Type} (o : Option α) (f : α → Option β) : Option β := match o with
  | some a => f a
  | none => none
@[simp] theorem optK_s {α β : Type} (a : α) (f : α → Option β) : optK (some a) f = f a := rfl
@[simp] theorem forB_m (is : List Nat) (f : Env → Option Out) (x : D) (ρ : Env) : forB (.many is) f x ρ = optK (bindTg (.many is) x ρ) f := by
  unfold forB optK
  split <;> simp_all
end Mn
end
section
set_option linter.all false
set_option maxRecDepth 100000
set_option maxHeartbeats 1000000
/-! Lb1: the module disks. -/
namespace Mn
def isN (x : Tx) : Bool := decide (1 ≤ x.length) && decide (x.length ≤ 12) && x.all fun c => decide (c ∈ g_SIGNS)
@[simp] theorem sp_is_sign (c : Nat) : Fx i_is_sign [.str [c]] = some (.ok (.bl (decide (c ∈ g_SIGNS)))) := by
  rw [fx i_is_sign _ rfl (by decide) rfl]
  simp [b_is_sign, start]
@[simp] theorem sp_is_int (c d e : Int) : Fx i_is_int [.int c, .int d, .int e] = some (.ok (.bl (decide (d ≤ c) && decide (c ≤ e)))) := by
  rw [fx i_is_int _ rfl (by decide) rfl]
  simp [b_is_int, start]
@[simp] theorem sp_is_name (x : Tx) : Fx i_is_name [.str x] = some (.ok (.bl (isN x))) := by
  rw [fx i_is_name _ rfl (by decide) rfl]
  simp [b_is_name, start, isN]
  by_cases h1 : (1 : Int) ≤ x.length
  · by_cases h2 : (x.length : Int) ≤ 12
    · have q1 : 1 ≤ x.length := by omega
      have q2 : x.length ≤ 12 := by omega
      simp [h1, h2, q1, q2]
    · have q2 : ¬ x.length ≤ 12 := by omega
      simp [h2, q2]
  · have q1 : ¬ 1 ≤ x.length := by omega
    simp [h1, q1]
def Inc : List Nat → Bool
  | a :: b :: r => decide (a < b) && Inc (b :: r)
  | _ => true
theorem all_zip_inc : ∀ x : List Nat, ((x.zip x.tail).all fun p => decide (p.1 < p.2)) = Inc x
  | [] => rfl
  | [a] => rfl
  | a :: b :: r => by
    have := all_zip_inc (b :: r)
    simp [Inc] at this ⊢
    rw [this]
theorem zipL_tail {α : Type} (k : α → D) (x : List α) : zipL (x.map k) (x.map k).tail = (x.zip x.tail).map fun p => D.tup [k p.1, k p.2] := by
  rw [← List.map_tail, zipL_map]
@[simp] theorem sp_rises_s (x : Tx) : Fx i_rises [.str x] = some (.ok (.bl (Inc x))) := by
  rw [fx i_rises _ rfl (by decide) rfl]
  simp [b_rises, start, zipK, cut1, zipL_tail, ltTx_one, all_zip_inc]
@[simp] theorem sp_rises_l {α : Type} (g : α → Nat) (x : List α) : Fx i_rises [.lst (x.map fun c => D.str [g c])] = some (.ok (.bl (Inc (x.map g)))) := by
  rw [fx i_rises _ rfl (by decide) rfl]
  have e : (x.map fun c => D.str [g c]) = (x.map g).map fun c => D.str [c] := by rw [List.map_map]; rfl
  rw [e]
  generalize x.map g = x at *
  simp [b_rises, start, zipK, cut1, zipL_tail, ltTx_one, all_zip_inc]
/-! disks -/
def tu (p : Nat × Nat) : D := .tup [.str [p.1], .str [p.2]]
def tD (ts : List (Nat × Nat)) : D := .tup (ts.map tu)
@[simp] theorem tu_0 (p : Nat × Nat) : idxO (tu p) (.int 0) = some (.str [p.1]) := by simp [tu]
@[simp] theorem tu_1 (p : Nat × Nat) : idxO (tu p) (.int 1) = some (.str [p.2]) := by simp [tu]
@[simp] theorem tu_b (p : Nat × Nat) (i j : Nat) (ρ : Env) : bindTg (.many [i, j]) (tu p) ρ = some ((ρ.set i (.sh (.str [p.1]))).set j (.sh (.str [p.2]))) := by simp [tu]
@[simp] theorem tD_i (ts : List (Nat × Nat)) : items (tD ts) = some (ts.map tu) := rfl
@[simp] theorem tD_t (ts : List (Nat × Nat)) : isiO .tuple (tD ts) = some true := rfl
@[simp] theorem tD_l (ts : List (Nat × Nat)) : bltO .len [tD ts] = some (.int ts.length) := by simp [tD]
@[simp] theorem sp_is_turn (p : Nat × Nat) : Fx i_is_turn [tu p] = some (.ok (.bl (decide (p.1 ∈ g_SIGNS) && decide (p.2 ∈ g_SIGNS)))) := by
  rw [fx i_is_turn _ rfl (by decide) rfl]
  simp [b_is_turn, start, tu]
def okT (ts : List (Nat × Nat)) : Bool := decide (ts.length ≤ 6) && (ts.all fun p => decide (p.1 ∈ g_SIGNS) && decide (p.2 ∈ g_SIGNS)) && Inc (ts.map (·.1))
@[simp] theorem sp_are_turns (ts : List (Nat × Nat)) : Fx i_are_turns [tD ts] = some (.ok (.bl (okT ts))) := by
  rw [fx i_are_turns _ rfl (by decide) rfl]
  simp [b_are_turns, start, okT]
  by_cases h1 : (6 : Int) < ts.length
  · have q1 : ¬ ts.length ≤ 6 := by omega
    simp [h1, q1]
  · have q1 : ts.length ≤ 6 := by omega
    simp only [h1, q1]
    cases h : (ts.all fun p => decide (p.1 ∈ g_SIGNS) && decide (p.2 ∈ g_SIGNS)) with
    | true => simp
    | false => simp
def okD (d : Tx) : Bool := decide (d.length ≤ 4) && (d.all fun c => decide (c ∈ g_SIGNS)) && Inc d
/-- is_disk by its parts -/
theorem sp_is_disk0 (f : Bool) (t : D) (l : Int) (d : Tx) (b : Bool) (ht : Fx i_are_turns [t] = some (.ok (.bl b))) : Fx i_is_disk [.tup [.bl f, t, .int l, .str d]] = some (.ok (.bl (b && (decide (1 ≤ l) && decide (l ≤ 12)) && okD d))) := by
  rw [fx i_is_disk _ rfl (by decide) rfl]
  simp [b_is_disk, start, ht, okD]
  cases b with
  | false => simp
  | true =>
    by_cases h1 : (1 : Int) ≤ l
    · by_cases h2 : l ≤ 12
      · simp [h1, h2]
        by_cases h3 : d.length ≤ 4
        · have q : ¬ (4 : Int) < d.length := by omega
          simp [q, h3]
        · have q : (4 : Int) < d.length := by omega
          simp [q, h3]
      · simp [h2]
    · simp [h1]
structure Disk where
  f : Bool
  ts : List (Nat × Nat)
  l : Nat
  d : Tx
  ht : okT ts = true
  l1 : 1 ≤ l
  l2 : l ≤ 12
  hd : okD d = true
  deriving DecidableEq
def Disk.e (k : Disk) : D := .tup [.bl k.f, tD k.ts, .int k.l, .str k.d]
structure Nm where
  x : Tx
  ok : isN x = true
  deriving DecidableEq
def Nm.e (n : Nm) : D := .str n.x
@[simp] theorem sp_is_disk (k : Disk) : Fx i_is_disk [k.e] = some (.ok (.bl true)) := by
  have h1 := k.l1
  have h2 := k.l2
  have z := sp_is_disk0 k.f (tD k.ts) k.l k.d true (by rw [sp_are_turns, k.ht])
  rw [k.hd, decide_eq_true (by omega), decide_eq_true (by omega)] at z
  exact z
@[simp] theorem sp_check_disk (k : Disk) : Fx i_check_disk [k.e] = some (.ok .non) := by
  rw [fx i_check_disk _ rfl (by decide) rfl]
  simp [b_check_disk, start]
theorem sp_check_name (x : Tx) (h : isN x = true) : Fx i_check_name [.str x] = some (.ok .non) := by
  rw [fx i_check_name _ rfl (by decide) rfl]
  simp [b_check_name, start, h]
@[simp] theorem sp_check_nm (n : Nm) : Fx i_check_name [.str n.x] = some (.ok .non) := sp_check_name n.x n.ok
@[simp] theorem nm_ok (n : Nm) : isN n.x = true := n.ok
@[simp] theorem dk_0 (k : Disk) : idxO k.e (.int 0) = some (.bl k.f) := by simp [Disk.e]
@[simp] theorem dk_1 (k : Disk) : idxO k.e (.int 1) = some (tD k.ts) := by simp [Disk.e]
@[simp] theorem dk_2 (k : Disk) : idxO k.e (.int 2) = some (.int k.l) := by simp [Disk.e]
@[simp] theorem dk_3 (k : Disk) : idxO k.e (.int 3) = some (.str k.d) := by simp [Disk.e]
theorem isN_iff {x : Tx} : isN x = true ↔ (1 ≤ x.length ∧ x.length ≤ 12 ∧ ∀ c ∈ x, c ∈ g_SIGNS) := by
  simp [isN, and_assoc]
theorem Nm.len (n : Nm) : n.x.length ≤ 12 := (isN_iff.mp n.ok).2.1
theorem Nm.pos (n : Nm) : 1 ≤ n.x.length := (isN_iff.mp n.ok).1
theorem Nm.sgn (n : Nm) : ∀ c ∈ n.x, c ∈ g_SIGNS := (isN_iff.mp n.ok).2.2
/-! images -/
def low (f : Bool) (c : Nat) : Nat := if f = true ∧ c ∈ g_CAPITAL then c + 32 else c
def fnd (ts : List (Nat × Nat)) (c : Nat) : List Nat := (ts.filter fun p => decide (p.1 = c)).map (·.2)
def imgR (f : Bool) (ts : List (Nat × Nat)) (c : Nat) : Nat := (fnd ts (low f c)).headD (low f c)
def Disk.img (k : Disk) (c : Nat) : Nat := imgR k.f k.ts c
theorem cap_ix : ∀ c ∈ g_CAPITAL, findC c g_CAPITAL 0 = some (c - 65) ∧ idxO (.str g_SMALL) (.int ((c - 65 : Nat) : Int)) = some (.str [c + 32]) := by
  have h : g_CAPITAL.all (fun c => decide (findC c g_CAPITAL 0 = some (c - 65)) && (match idxO (.str g_SMALL) (.int ((c - 65 : Nat) : Int)) with | some (.str [d]) => decide (d = c + 32) | _ => false)) = true := by decide +kernel
  intro c hc
  have z := List.all_eq_true.mp h c hc
  rw [Bool.and_eq_true, decide_eq_true_eq] at z
  refine ⟨z.1, ?_⟩
  have z2 := z.2
  split at z2
  · rename_i d e; rw [e, of_decide_eq_true z2]
  · cases z2
@[simp] theorem sp_image_of (k : Disk) (c : Nat) : Fx i_image_of [k.e, .str [c]] = some (.ok (.str [k.img c])) := by
  rw [fx i_image_of _ rfl (by decide) rfl]
  have fin : ∀ c : Nat, endOf (evS Fx (.seq (.asg 2 (.comp [3, 4] (.many [3, 4]) (.ival (.idx (.bor 0) (.cst (.int 1)))) (.cmp .eq (.bor 3) (.bor 1)) (.var 4))) (.seq (.ret (.ite (.cmp .ne (.bor 2) (.lst .nil)) (.idx (.bor 2) (.cst (.int 0))) (.var 1))) .skip)) [.sh k.e, .sh (.str [c]), .no, .no, .no]) = some (R.ok (.str [(fnd k.ts c).headD c])) := fun c => by
    simp
    cases h : k.ts.filter fun p => decide (p.1 = c) with
    | nil =>
      have hf : fnd k.ts c = [] := by unfold fnd; rw [h]; rfl
      simp [hf]
    | cons a r =>
      have hf : fnd k.ts c = a.2 :: r.map (·.2) := by unfold fnd; rw [h]; rfl
      simp [hf]
  unfold Disk.img imgR
  by_cases h : k.f = true ∧ c ∈ g_CAPITAL
  · obtain ⟨hf, hc⟩ := h
    obtain ⟨q1, q2⟩ := cap_ix c hc
    have el : low k.f c = c + 32 := by unfold low; rw [if_pos ⟨hf, hc⟩]
    rw [el, ← fin (c + 32)]
    simp [b_image_of, start, hf, hc, mthO, q1, q2]
  · have el : low k.f c = c := by unfold low; rw [if_neg h]
    rw [el, ← fin c]
    have hb : (k.f && decide (c ∈ g_CAPITAL)) = false := by
      cases hf : k.f with
      | false => rfl
      | true => simp [hf] at h ⊢; exact h
    simp [b_image_of, start, hb]
theorem sp_image (k : Disk) (c : Nat) (hc : c ∈ g_SIGNS) : Fx i_image [k.e, .str [c]] = some (.ok (.str [k.img c])) := by
  rw [fx i_image _ rfl (by decide) rfl]
  simp [b_image, start, hc]
@[simp] theorem sp_is_dropped (k : Disk) (c : Nat) : Fx i_is_dropped [k.e, .str [c]] = some (.ok (.bl (decide (k.img c ∈ k.d)))) := by
  rw [fx i_is_dropped _ rfl (by decide) rfl]
  simp [b_is_dropped, start]
/-! places -/
def strip (d : Tx) (x : Tx) : Tx := (x.reverse.dropWhile fun c => decide (c ∈ d)).reverse
theorem strip_nil (d : Tx) : strip d [] = [] := rfl
theorem strip_snoc (d x : Tx) (c : Nat) : strip d (x ++ [c]) = if c ∈ d then strip d x else x ++ [c] := by
  unfold strip
  rw [List.reverse_append]
  by_cases h : c ∈ d
  · simp [h]
  · simp [h]
theorem strip_pre (d x : Tx) : ∃ y, x = strip d x ++ y ∧ ∀ c ∈ y, c ∈ d := by
  refine ⟨(x.reverse.takeWhile fun c => decide (c ∈ d)).reverse, ?_, fun c hc => ?_⟩
  · unfold strip
    rw [← List.reverse_append, List.takeWhile_append_dropWhile, List.reverse_reverse]
  · have h := List.mem_reverse.mp hc
    exact of_decide_eq_true (List.all_eq_true.mp (List.all_takeWhile (p := fun c => decide (c ∈ d)) (l := x.reverse)) c h)
theorem strip_len (d x : Tx) : (strip d x).length ≤ x.length := by
  obtain ⟨y, h, _⟩ := strip_pre d x
  have := congrArg List.length h
  rw [List.length_append] at this
  omega
def Disk.pl (k : Disk) (x : Tx) : Tx := strip k.d ((x.map k.img).take k.l)
theorem snoc_cases {α : Type} (x : List α) : x = [] ∨ ∃ y c, x = y ++ [c] := by
  cases x.eq_nil_or_concat with
  | inl h => exact .inl h
  | inr h => obtain ⟨y, c, e⟩ := h; exact .inr ⟨y, c, by rw [e, List.concat_eq_append]⟩
@[simp] theorem ix_last (y : Tx) (c : Nat) : idxO (.str (y ++ [c])) (.int (-1)) = some (.str [c]) := by
  rw [x_lastS _ (by simp)]
  simp
@[simp] theorem ix_lastL (y : List D) (c : D) : idxO (.lst (y ++ [c])) (.int (-1)) = some c := by
  rw [x_lastL _ (by simp)]
  simp
/-- the loop over a text -/
theorem strip_loop (k : Disk) (c1 c3 : Cl) : ∀ (n : Nat) (x : Tx), x.length < n → whlF (cWhl [] (evE Fx (.and_ (.cmp .ne (.bor 2) (.cst (.str []))) (.cmp .isIn (.idx (.bor 2) (.neg (.cst (.int 1)))) (.idx (.bor 0) (.cst (.int 3))))))) (evS Fx (.seq (.asg 2 (.slc (.bor 2) .nil (.cons (.neg (.cst (.int 1))) .nil))) .skip)) n [.sh k.e, c1, .sh (.str x), c3] = some (.nx [.sh k.e, c1, .sh (.str (strip k.d x)), c3])
  | 0, x, h => by omega
  | n + 1, x, h => by
    rcases snoc_cases x with rfl | ⟨y, a, rfl⟩
    · simp [whlF, cWhl, strip]
    · have ne : ¬ (y ++ [a] = []) := by simp
      by_cases had : a ∈ k.d
      · have ih := strip_loop k c1 c3 n y (by simp at h; omega)
        simp [whlF, cWhl, had, cut_last, strip_snoc] at ih ⊢
        exact ih
      · simp [whlF, cWhl, had, strip_snoc]
theorem sp_place_of' (k : Disk) (x : Tx) (hx : x.length ≤ 1000) : Fx i_place_of [k.e, .str x] = some (.ok (.str (k.pl x))) := by
  rw [fx i_place_of _ rfl (by decide) rfl]
  have hl : x.length ≤ lim := by rw [limE]; omega
  have e3 := strip_loop k (.sh (.str x)) .no loops ((x.map k.img).take k.l) (by rw [loops_eq]; simp; omega)
  simp [b_place_of, start, hl] at e3 ⊢
  rw [e3]
  simp [Disk.pl]
@[simp] theorem sp_place_of (k : Disk) (n : Nm) : Fx i_place_of [k.e, .str n.x] = some (.ok (.str (k.pl n.x))) := sp_place_of' k n.x (by have := n.len; omega)
@[simp] theorem sp_place (k : Disk) (n : Nm) : Fx i_place [k.e, .str n.x] = some (.ok (.str (k.pl n.x))) := by
  rw [fx i_place _ rfl (by decide) rfl]
  simp [b_place, start]
def Disk.co (k : Disk) (x y : Tx) : Bool := decide (k.pl x = k.pl y)
theorem sp_do_collide' (k : Disk) (x y : Tx) (hx : x.length ≤ 1000) (hy : y.length ≤ 1000) : Fx i_do_collide [k.e, .str x, .str y] = some (.ok (.bl (k.co x y))) := by
  rw [fx i_do_collide _ rfl (by decide) rfl]
  simp [b_do_collide, start, sp_place_of' k x hx, sp_place_of' k y hy, Disk.co]
@[simp] theorem sp_do_collide (k : Disk) (m n : Nm) : Fx i_do_collide [k.e, .str m.x, .str n.x] = some (.ok (.bl (k.co m.x n.x))) := sp_do_collide' k _ _ (by have := m.len; omega) (by have := n.len; omega)
@[simp] theorem sp_collide (k : Disk) (m n : Nm) : Fx i_collide [k.e, .str m.x, .str n.x] = some (.ok (.bl (k.co m.x n.x))) := by
  rw [fx i_collide _ rfl (by decide) rfl]
  simp [b_collide, start]
end Mn
end
section
set_option linter.all false
set_option maxRecDepth 100000
set_option maxHeartbeats 1000000
/-! Lb2: the laws' own helpers (first family). -/
namespace Mn
@[simp] theorem sp_signs : Fx i__law_signs_k01 [] = some (.ok (.str g_SIGNS)) := by
  rw [fx i__law_signs_k01 _ rfl (by decide) rfl]
  rfl
theorem put_new {α : Type} {k : Tx} {v : α} : ∀ {ks : List Tx} {vs : List α}, ks.length = vs.length → k ∉ ks → putD k v ks vs = (ks ++ [k], vs ++ [v])
  | [], [], _, _ => rfl
  | [], _ :: _, e, _ => nomatch e
  | _ :: _, [], e, _ => nomatch e
  | a :: ks, w :: vs, e, h => by
    have ne : ¬ a = k := fun z => h (by rw [z]; exact List.mem_cons_self)
    have z := put_new (k := k) (v := v) (ks := ks) (vs := vs) (by simpa using e) fun m => h (List.mem_cons_of_mem _ m)
    simp [putD, ne, z]
theorem dict_ok : ∀ (ts : List (Nat × Nat)) (ks : List Tx) (vs : List D), ks.length = vs.length → (∀ p ∈ ts, [p.1] ∉ ks) → (ts.map (·.1)).Nodup → dictO (ts.map tu) ks vs = some (.dct (ks ++ ts.map fun p => [p.1]) (vs ++ ts.map fun p => D.str [p.2]))
  | [], ks, vs, _, _, _ => by simp [dictO]
  | p :: ts, ks, vs, hl, hn, nd => by
    have h1 := hn p List.mem_cons_self
    have nd' := List.nodup_cons.mp (show (p.1 :: ts.map (·.1)).Nodup from nd)
    have e : dictO ((p :: ts).map tu) ks vs = dictO (ts.map tu) (putD [p.1] (D.str [p.2]) ks vs).1 (putD [p.1] (D.str [p.2]) ks vs).2 := rfl
    rw [e, put_new hl h1]
    rw [dict_ok ts _ _ (by simp [hl]) (fun q hq m => ?_) nd'.2]
    · simp
    · rcases List.mem_append.mp m with m | m
      · exact hn q (List.mem_cons_of_mem _ hq) m
      · have : q.1 = p.1 := by simpa using m
        exact nd'.1 (by rw [← this]; exact List.mem_map.mpr ⟨q, hq, rfl⟩)
theorem assoc_ok (c : Nat) : ∀ ts : List (Nat × Nat), (assocD [c] (ts.map fun p => [p.1]) (ts.map fun p => D.str [p.2])).getD (.str [c]) = .str [(fnd ts c).headD c]
  | [] => rfl
  | p :: ts => by
    by_cases h : p.1 = c
    · simp [assocD, fnd, h]
    · have ih := assoc_ok c ts
      have h' : ¬ ([p.1] : Tx) = [c] := fun z => h (by simpa using z)
      simp only [List.map_cons, assocD]
      rw [if_neg (by simpa using h)]
      rw [ih]
      simp [fnd, h]
theorem inc_lt : ∀ {x : List Nat}, Inc x = true → x.Pairwise (· < ·)
  | [], _ => List.Pairwise.nil
  | [a], _ => List.pairwise_singleton _ _
  | a :: b :: r, h => by
    have h : (decide (a < b) && Inc (b :: r)) = true := h
    rw [Bool.and_eq_true, decide_eq_true_eq] at h
    have ih := inc_lt h.2
    refine List.pairwise_cons.mpr ⟨fun z hz => ?_, ih⟩
    rcases List.mem_cons.mp hz with e | hz
    · rw [e]; exact h.1
    · exact Nat.lt_trans h.1 ((List.pairwise_cons.mp ih).1 z hz)
theorem lt_inc : ∀ {x : List Nat}, x.Pairwise (· < ·) → Inc x = true
  | [], _ => rfl
  | [a], _ => rfl
  | a :: b :: r, h => by
    have h' := List.pairwise_cons.mp h
    show (decide (a < b) && Inc (b :: r)) = true
    rw [decide_eq_true (h'.1 b List.mem_cons_self), lt_inc h'.2]
    rfl
theorem inc_nodup {x : List Nat} (h : Inc x = true) : x.Nodup := (inc_lt h).imp fun h => Nat.ne_of_lt h
theorem okT_iff {ts : List (Nat × Nat)} : okT ts = true ↔ ts.length ≤ 6 ∧ (∀ p ∈ ts, p.1 ∈ g_SIGNS ∧ p.2 ∈ g_SIGNS) ∧ Inc (ts.map (·.1)) = true := by
  unfold okT
  simp only [Bool.and_eq_true, decide_eq_true_eq, List.all_eq_true, and_assoc]
theorem okD_iff {d : Tx} : okD d = true ↔ d.length ≤ 4 ∧ (∀ c ∈ d, c ∈ g_SIGNS) ∧ Inc d = true := by
  unfold okD
  simp only [Bool.and_eq_true, decide_eq_true_eq, List.all_eq_true, and_assoc]
theorem sign_small : ∀ c ∈ g_SIGNS, c < 128 ∧ (c ∈ g_CAPITAL ↔ (65 ≤ c ∧ c ≤ 90)) := by decide +kernel
theorem low_sign : ∀ c ∈ g_SIGNS, lowC c ∈ g_SIGNS ∧ uppC c ∈ g_SIGNS := by decide +kernel
@[simp] theorem mth_low (c : Nat) : mthO .lower (.str [c]) [] = if c < 128 then some (.str [lowC c]) else none := by
  simp [mthO]
theorem sp_law_image (k : Disk) (c : Nat) (hc : c ∈ g_SIGNS) : Fx i__law_image [k.e, .str [c]] = some (.ok (.str [k.img c])) := by
  rw [fx i__law_image _ rfl (by decide) rfl]
  obtain ⟨h1, h2⟩ := sign_small c hc
  have e1 := dict_ok k.ts [] [] rfl (fun _ _ => by simp) (inc_nodup (okT_iff.mp k.ht).2.2)
  have ed : bltO .dict [tD k.ts] = some (.dct (k.ts.map fun p => [p.1]) (k.ts.map fun p => D.str [p.2])) := by
    show dictO (k.ts.map tu) [] [] = _
    rw [e1]; simp
  have eg : ∀ c : Nat, mthO .get (.dct (k.ts.map fun p => [p.1]) (k.ts.map fun p => D.str [p.2])) [.str [c], .str [c]] = some (.str [(fnd k.ts c).headD c]) := fun c => by
    show some _ = _
    rw [assoc_ok]
  unfold Disk.img imgR
  have el : low k.f c = if k.f = true then lowC c else c := by
    unfold low lowC
    cases k.f with
    | false => simp
    | true => simp [h2]
  rw [el]
  cases hf : k.f with
  | false => simp [b__law_image, start, hf, ed, eg]
  | true => simp [b__law_image, start, hf, ed, h1, eg]
/-- the loop over a list of signs -/
theorem strip_loopL (k : Disk) (c1 c3 : Cl) : ∀ (n : Nat) (x : Tx), x.length < n → whlF (cWhl [] (evE Fx (.and_ (.cmp .ne (.bor 2) (.lst .nil)) (.cmp .isIn (.idx (.bor 2) (.neg (.cst (.int 1)))) (.idx (.bor 0) (.cst (.int 3))))))) (evS Fx (.seq (.pop 2) .skip)) n [.sh k.e, c1, .ow (.lst (x.map fun c => .str [c])), c3] = some (.nx [.sh k.e, c1, .ow (.lst ((strip k.d x).map fun c => .str [c])), c3])
  | 0, x, h => by omega
  | n + 1, x, h => by
    rcases snoc_cases x with rfl | ⟨y, a, rfl⟩
    · have z := ne_strs (fun c : Nat => [c]) []
      simp only [List.map_nil] at z
      simp [whlF, cWhl, strip, z]
    · have z := ne_strs (fun c : Nat => [c]) (y ++ [a])
      simp only [List.map_append, List.map_cons, List.map_nil] at z
      by_cases had : a ∈ k.d
      · have ih := strip_loopL k c1 c3 n y (by simp at h; omega)
        simp [whlF, cWhl, had, strip_snoc, z] at ih ⊢
        exact ih
      · simp [whlF, cWhl, had, strip_snoc, z]
@[simp] theorem sp_law_place (k : Disk) (n : Nm) : Fx i__law_place_k01 [k.e, .str n.x] = some (.ok (.str (k.pl n.x))) := by
  rw [fx i__law_place_k01 _ rfl (by decide) rfl]
  have hx := n.len
  have hs := n.sgn
  have e1 : compX (fun x => tkC (some (D.bl true)) (nx (Fx i__law_image [k.e, .str [x]]))) n.x = some (n.x.map fun c => D.str [k.img c]) := compX_map fun c hc => by
    rw [sp_law_image k c (hs c hc)]
    rfl
  have e3 := strip_loopL k (.sh (.str n.x)) .no loops ((n.x.map k.img).take k.l) (by rw [loops_eq]; simp; omega)
  have e4 : ((n.x.map fun c => D.str [k.img c]).take k.l) = ((n.x.map k.img).take k.l).map fun c => D.str [c] := by
    rw [List.map_take, List.map_map]
    rfl
  have hl : (k.pl n.x).length ≤ lim := by
    have := strip_len k.d ((n.x.map k.img).take k.l)
    simp at this
    rw [limE]
    unfold Disk.pl
    simp
    omega
  simp [b__law_place_k01, start, e1, e4, -List.map_take] at e3 ⊢
  rw [e3]
  simp [Disk.pl] at hl
  simp [hl, Disk.pl]
end Mn
end
section
set_option linter.all false
set_option maxRecDepth 100000
set_option maxHeartbeats 1000000
/-! Lb3: what a script draws (first family). -/
namespace Mn
theorem pick_loop (F : Nat → List D → M D) (c0 c1 c2 c3 c6 : Cl) : ∀ (fuel : Nat) (r a : Int), 0 ≤ a → a.toNat < fuel → ∃ r' a' : Int, whlF (cWhl [] (evE F (.and_ (.cmp .gt (.bor 4) (.cst (.int 0))) (.cmp .gt (.bor 5) (.cst (.int 0)))))) (evS F (.seq (.par 4 5 (.bin .fdiv (.bor 4) (.cst (.int 840))) (.bin .sub (.bor 5) (.cst (.int 1)))) .skip)) fuel [c0, c1, c2, c3, .sh (.int r), .sh (.int a), c6] = some (.nx [c0, c1, c2, c3, .sh (.int r'), .sh (.int a'), c6])
  | 0, _, _, _, h => by omega
  | k + 1, r, a, h0, h => by
    by_cases h1 : 0 < r
    · by_cases h2 : 0 < a
      · obtain ⟨r', a', ih⟩ := pick_loop F c0 c1 c2 c3 c6 k (r / 840) (a - 1) (by omega) (by omega)
        refine ⟨r', a', ?_⟩
        simp [whlF, cWhl, h1, h2]
        exact ih
      · exact ⟨r, a, by simp [whlF, cWhl, h2]⟩
    · exact ⟨r, a, by simp [whlF, cWhl, h1]⟩
theorem scr_ne (ns : List Int) : cmpO .ne (.scr ns) (.lst []) = some (!decide (ns = [])) := by
  cases ns <;> rfl
theorem scr_ix (ns : List Int) (k : Nat) (h : k < ns.length) : ∃ v, idxO (.scr ns) (.int (k : Int)) = some (.int v) := by
  refine ⟨ns[k], ?_⟩
  have := ixN_nat h
  simp only [idxO, this]
  simp [h]
theorem mod_nat (x : Int) (m : Nat) (h : 0 < m) : ∃ v : Nat, v < m ∧ x % (m : Int) = v := by
  have h1 := Int.emod_nonneg x (b := (m : Int)) (by omega)
  have h2 := Int.emod_lt_of_pos x (b := (m : Int)) (by omega)
  exact ⟨(x % m).toNat, by omega, by omega⟩
theorem sp_pick0 (ns : List Int) (k m : Nat) (hk : k < 1000000) (hm : 0 < m) (hn : ns.length ≤ 63) : ∃ v : Nat, v < m ∧ Fx i__law_pick_k01 [.scr ns, .int k, .int m] = some (.ok (.int v)) := by
  rw [fx i__law_pick_k01 _ rfl (by decide) rfl]
  have hm' : (0 : Int) < m := by omega
  have hcell : ∃ c : Int, evE Fx (.ite (.cmp .ne (.bor 0) (.lst .nil)) (.idx (.bor 0) (.bin .mod (.bor 1) (.blt .len (.cons (.bor 0) .nil)))) (.cst (.int 0))) [.sh (.scr ns), .sh (.int k), .sh (.int m), .no, .no, .no, .no] = some (.ok (.int c)) := by
    by_cases h : ns = []
    · exact ⟨0, by simp [scr_ne, h]⟩
    · have hl : 0 < ns.length := List.length_pos_iff.mpr h
      obtain ⟨j, hj, ej⟩ := mod_nat k ns.length hl
      obtain ⟨v, hv⟩ := scr_ix ns j hj
      have hl' : (0 : Int) < ns.length := by omega
      exact ⟨v, by simp [scr_ne, h, hl, ej, hv]⟩
  obtain ⟨c, hcell⟩ := hcell
  have hmax : (0 : Int) < (if (1 : Int) > ns.length then 1 else (ns.length : Int)) ∧ (if (1 : Int) > ns.length then 1 else (ns.length : Int)) < 2 ^ 63 := by
    split <;> constructor <;> omega
  obtain ⟨r', a', hw⟩ := pick_loop Fx (.sh (.scr ns)) (.sh (.int k)) (.sh (.int m)) (.sh (.int c)) .no loops (c / 10 ^ 18) ((k : Int) / (if (1 : Int) > ns.length then 1 else (ns.length : Int))) (Int.ediv_nonneg (by omega) (by omega)) (by
    have := loops_eq
    have : (k : Int) / (if (1 : Int) > ns.length then 1 else (ns.length : Int)) ≤ k := Int.ediv_le_self _ (by omega)
    omega)
  obtain ⟨v1, hv1, e1⟩ := mod_nat (r' % 840) m hm
  obtain ⟨q, hq, eq⟩ := mod_nat ((c * 31 + 6151 * ((k : Int) + 1)) * 40692) 2147483399 (by decide)
  obtain ⟨v2, hv2, e2⟩ := mod_nat (((q : Int) * q + (q : Int) / 31) % 2147483629) m hm
  have body : endOf (evS Fx (.seq (.ife (.cmp .gt (.bor 4) (.cst (.int 0))) (.seq (.ret (.bin .mod (.bin .mod (.bor 4) (.cst (.int 840))) (.bor 2))) .skip) .skip) (.seq (.asg 6 (.bin .mod (.bin .mul (.bin .add (.bin .mul (.bor 3) (.cst (.int 31))) (.bin .mul (.cst (.int 6151)) (.bin .add (.bor 1) (.cst (.int 1))))) (.cst (.int 40692))) (.cst (.int 2147483399)))) (.seq (.ret (.bin .mod (.bin .mod (.bin .add (.bin .mul (.bor 6) (.bor 6)) (.bin .fdiv (.bor 6) (.cst (.int 31)))) (.cst (.int 2147483629))) (.bor 2))) .skip))) [.sh (.scr ns), .sh (.int k), .sh (.int m), .sh (.int c), .sh (.int r'), .sh (.int a'), .no]) = some (.ok (.int (if 0 < r' then v1 else v2 : Nat))) := by
    by_cases h : 0 < r'
    · simp [h, hm, e1]
    · have hq' : q < 9223372036854775808 := by omega
      have eq' : (c * 31 + 6151 * ((k : Int) + 1)) * 40692 % 2147483399 = q := eq
      simp [h, hm, eq', hq', e2]
  refine ⟨if 0 < r' then v1 else v2, by split <;> assumption, ?_⟩
  rw [← body]
  show endOf (evS Fx (.seq (.asg 3 (.ite (.cmp .ne (.bor 0) (.lst .nil)) (.idx (.bor 0) (.bin .mod (.bor 1) (.blt .len (.cons (.bor 0) .nil)))) (.cst (.int 0)))) _) [.sh (.scr ns), .sh (.int k), .sh (.int m), .no, .no, .no, .no]) = _
  rw [s_seq', s_asg']
  show endOf (seqK (go [.sh (.scr ns), .sh (.int k), .sh (.int m), .no, .no, .no, .no] (evE Fx _ [.sh (.scr ns), .sh (.int k), .sh (.int m), .no, .no, .no, .no]) _) _) = _
  rw [hcell]
  rw [go_ok, seqK_n]
  show endOf (evS Fx (.seq (.par 4 5 _ _) _) [.sh (.scr ns), .sh (.int k), .sh (.int m), .sh (.int c), .no, .no, .no]) = _
  rw [s_seq']
  have hp : evS Fx (.par 4 5 (.bin .fdiv (.bor 3) (.bin .pow (.cst (.int 10)) (.cst (.int 18)))) (.bin .fdiv (.bor 1) (.blt .max2 (.cons (.blt .len (.cons (.bor 0) .nil)) (.cons (.cst (.int 1)) .nil))))) [.sh (.scr ns), .sh (.int k), .sh (.int m), .sh (.int c), .no, .no, .no] = some (.nx [.sh (.scr ns), .sh (.int k), .sh (.int m), .sh (.int c), .sh (.int (c / 10 ^ 18)), .sh (.int ((k : Int) / (if (1 : Int) > ns.length then 1 else (ns.length : Int)))), .no]) := by
    obtain ⟨m1, m2⟩ := hmax
    generalize hM : (if (1 : Int) > ns.length then 1 else (ns.length : Int)) = M at m1 m2 ⊢
    have b : bltO .max2 [.int ns.length, .int 1] = some (.int M) := by rw [b_max2, hM]
    have m2' : M < 9223372036854775808 := m2
    simp [b, m1, m2', -b_max2]
  rw [hp, seqK_n, s_seq', s_whl']
  show endOf (seqK (whlF (cWhl [] (evE Fx _)) _ loops _) _) = _
  rw [hw, seqK_n]
/-- a script of at most 63 ints -/
structure Scr where
  ns : List Int
  ok : ns.length ≤ 63
theorem pick_ex (s : Scr) (k m : Int) (h0 : 0 ≤ k) (hk : k < 1000000) (hm : 0 < m) : ∃ v : Nat, (v : Int) < m ∧ Fx i__law_pick_k01 [.scr s.ns, .int k, .int m] = some (.ok (.int v)) := by
  obtain ⟨v, h1, h2⟩ := sp_pick0 s.ns k.toNat m.toNat (by omega) (by omega) s.ok
  rw [Int.toNat_of_nonneg h0, Int.toNat_of_nonneg (by omega)] at h2
  exact ⟨v, by omega, h2⟩
open Classical in
noncomputable def pk (s : Scr) (k m : Int) : Nat := if h : ∃ v : Nat, (v : Int) < m ∧ Fx i__law_pick_k01 [.scr s.ns, .int k, .int m] = some (.ok (.int v)) then Classical.choose h else 0
theorem pk_spec (s : Scr) (k m : Int) (h0 : 0 ≤ k) (hk : k < 1000000) (hm : 0 < m) : (pk s k m : Int) < m ∧ Fx i__law_pick_k01 [.scr s.ns, .int k, .int m] = some (.ok (.int (pk s k m))) := by
  have h := pick_ex s k m h0 hk hm
  unfold pk
  rw [dif_pos h]
  exact Classical.choose_spec h
theorem sp_pick (s : Scr) (k m : Int) (h0 : 0 ≤ k) (hk : k < 1000000) (hm : 0 < m) : Fx i__law_pick_k01 [.scr s.ns, .int k, .int m] = some (.ok (.int (pk s k m))) := (pk_spec s k m h0 hk hm).2
theorem pk_lt (s : Scr) (k m : Int) (h0 : 0 ≤ k) (hk : k < 1000000) (hm : 0 < m) : (pk s k m : Int) < m := (pk_spec s k m h0 hk hm).1
/-! sorted turns -/
def ltP (p q : Nat × Nat) : Bool := if p.1 = q.1 then decide (p.2 < q.2) else decide (p.1 < q.1)
theorem ltS_tu (p q : Nat × Nat) : ltS (tu p) (tu q) = ltP p q := by
  have b : ∀ a c : Nat, eqD (.str [a]) (.str [c]) = decide (a = c) := fun a c => by
    show (([a] : Tx) == [c]) = _
    rw [beq_dec]
    simp
  show (if eqD (.str [p.1]) (.str [q.1]) = true then (if eqD (.str [p.2]) (.str [q.2]) = true then false else ltTx [p.2] [q.2]) else ltTx [p.1] [q.1]) = _
  simp only [b, ltTx_one, ltP]
  by_cases h : p.1 = q.1
  · by_cases h2 : p.2 = q.2
    · simp [h, h2]
    · simp [h, h2]
  · simp [h]
def insP (p : Nat × Nat) : List (Nat × Nat) → List (Nat × Nat)
  | [] => [p]
  | q :: r => if ltP q p then q :: insP p r else p :: q :: r
def sortP : List (Nat × Nat) → List (Nat × Nat)
  | [] => []
  | p :: r => insP p (sortP r)
theorem insF_tu (p : Nat × Nat) : ∀ ts : List (Nat × Nat), insF (tu p) (ts.map tu) = (insP p ts).map tu
  | [] => rfl
  | q :: r => by
    simp only [List.map_cons, insF, insP, ltS_tu]
    by_cases h : ltP q p = true
    · simp [h, insF_tu p r]
    · simp [h]
theorem sortS_tu : ∀ ts : List (Nat × Nat), sortS (ts.map tu) = (sortP ts).map tu
  | [] => rfl
  | p :: r => by
    simp only [List.map_cons, sortS, sortP, sortS_tu r, insF_tu]
theorem insP_perm (p : Nat × Nat) : ∀ ts : List (Nat × Nat), (insP p ts).Perm (p :: ts)
  | [] => List.Perm.refl _
  | q :: r => by
    unfold insP
    split
    · exact (List.Perm.cons q (insP_perm p r)).trans (List.Perm.swap p q r)
    · exact List.Perm.refl _
theorem sortP_perm : ∀ ts : List (Nat × Nat), (sortP ts).Perm ts
  | [] => List.Perm.refl _
  | p :: r => (insP_perm p (sortP r)).trans (List.Perm.cons p (sortP_perm r))
theorem insP_lt (p : Nat × Nat) : ∀ ts : List (Nat × Nat), p.1 ∉ ts.map (·.1) → (ts.map (·.1)).Pairwise (· < ·) → ((insP p ts).map (·.1)).Pairwise (· < ·)
  | [], _, _ => by simp [insP]
  | q :: r, hn, hs => by
    have hs' := List.pairwise_cons.mp (show (q.1 :: r.map (·.1)).Pairwise (· < ·) from hs)
    have ne : p.1 ≠ q.1 := fun z => hn (by simp [z])
    have hn' : p.1 ∉ r.map (·.1) := fun z => hn (by simp at z ⊢; exact .inr z)
    unfold insP
    split
    · rename_i h
      have h : q.1 < p.1 := by
        unfold ltP at h
        rw [if_neg (Ne.symm ne)] at h
        exact of_decide_eq_true h
      refine List.pairwise_cons.mpr ⟨fun z hz => ?_, insP_lt p r hn' hs'.2⟩
      obtain ⟨w, hw, e⟩ := List.mem_map.mp hz
      have e : w.1 = z := e
      rcases List.mem_cons.mp ((insP_perm p r).mem_iff.mp hw) with e2 | hw
      · rw [← e, e2]; exact h
      · rw [← e]; exact hs'.1 w.1 (List.mem_map.mpr ⟨w, hw, rfl⟩)
    · rename_i h
      have h : p.1 < q.1 := by
        unfold ltP at h
        rw [if_neg (Ne.symm ne)] at h
        have : ¬ q.1 < p.1 := by simpa using h
        omega
      refine List.pairwise_cons.mpr ⟨fun z hz => ?_, hs⟩
      rcases List.mem_cons.mp (show z ∈ q.1 :: r.map (·.1) from hz) with e | hz
      · rw [e]; exact h
      · exact Nat.lt_trans h (hs'.1 z hz)
theorem sortP_lt : ∀ ts : List (Nat × Nat), (ts.map (·.1)).Nodup → ((sortP ts).map (·.1)).Pairwise (· < ·)
  | [], _ => List.Pairwise.nil
  | p :: r, h => by
    have h' := List.nodup_cons.mp (show (p.1 :: r.map (·.1)).Nodup from h)
    refine insP_lt p (sortP r) (fun z => h'.1 ?_) (sortP_lt r h'.2)
    exact ((sortP_perm r).map (·.1)).mem_iff.mp z
@[simp] theorem b_sort_tu (ts : List (Nat × Nat)) : bltO .sorted [.lst (ts.map tu)] = some (.lst ((sortP ts).map tu)) := by
  have hp : kindOk (.all .s) (ts.map tu) = true := by simp [kindOk, okK, tupNe, tu]
  show (sortO (ts.map tu)).map D.lst = _
  unfold sortO
  simp [hp, sortS_tu]
@[simp] theorem b_tuple (xs : List D) : bltO .tuple [.lst xs] = some (.tup xs) := rfl
def FEW : Tx := [97, 98, 46, 45, 32, 65, 95, 66]
theorem few_sign : ∀ c ∈ FEW, c ∈ g_SIGNS := by decide
theorem few_mem (v : Nat) (h : v < FEW.length) : FEW[v] ∈ FEW := List.getElem_mem h
/-- the turns so far -/
def TI (s : Scr) (at' : Int) (k : Nat) (ρ : Env) : Prop := ∃ (ts : List (Nat × Nat)) (c4 c7 : Cl), ts.length ≤ k ∧ (ts.map (·.1)).Nodup ∧ (∀ p ∈ ts, p.1 ∈ FEW ∧ p.2 ∈ FEW) ∧
  ρ = [.sh (.scr s.ns), .sh (.int at'), .sh (.str [97, 98, 46, 45, 32, 65, 95, 66]), .ow (.lst (ts.map tu)), c4, .no, .no, c7, .no, .no]
theorem turns_body (s : Scr) (at' : Int) (h0 : 0 ≤ at') (hat : at' < 90000) (k : Nat) (ρ : Env) (i : Nat) (hi : i < 4) (hk : k < 4) (h : TI s at' k ρ) : ∃ ρ', forB (.one 4) (evS Fx (.seq (.asg 7 (.tup (.cons (.idx (.bor 2) (.call 15 (.cons (.var 0) (.cons (.bin .add (.bin .add (.bor 1) (.cst (.int 1))) (.bin .mul (.cst (.int 2)) (.bor 4))) (.cons (.cst (.int 8)) .nil))))) (.cons (.idx (.bor 2) (.call 15 (.cons (.var 0) (.cons (.bin .add (.bin .add (.bor 1) (.cst (.int 2))) (.bin .mul (.cst (.int 2)) (.bor 4))) (.cons (.cst (.int 8)) .nil))))) .nil)))) (.seq (.ife (.cmp .notIn (.idx (.bor 7) (.cst (.int 0))) (.comp [9] (.one 9) (.ival (.bor 3)) (.cst (.bl true)) (.idx (.bor 9) (.cst (.int 0))))) (.seq (.app 3 (.var 7)) .skip) .skip) .skip))) (.int i) ρ = some (.nx ρ') ∧ TI s at' (k + 1) ρ' := by
  obtain ⟨ts, c4, c7, h1, h2, h3, rfl⟩ := h
  have v1 := pk_lt s (at' + 1 + 2 * i) 8 (by omega) (by omega) (by omega)
  have v2 := pk_lt s (at' + 2 + 2 * i) 8 (by omega) (by omega) (by omega)
  have e1 := sp_pick s (at' + 1 + 2 * i) 8 (by omega) (by omega) (by omega)
  have e2 := sp_pick s (at' + 2 + 2 * i) 8 (by omega) (by omega) (by omega)
  generalize pk s (at' + 1 + 2 * i) 8 = v1' at v1 e1
  generalize pk s (at' + 2 + 2 * i) 8 = v2' at v2 e2
  have hv1 : v1' < FEW.length := by simp [FEW]; omega
  have hv2 : v2' < FEW.length := by simp [FEW]; omega
  have f1 := x_str FEW v1' hv1
  have f2 := x_str FEW v2' hv2
  have m1 := few_mem _ hv1
  have m2 := few_mem _ hv2
  generalize ea : FEW[v1'] = a at f1 m1
  generalize eb : FEW[v2'] = b at f2 m2
  unfold FEW at f1 f2
  have hl : ts.length < lim := by rw [limE]; omega
  have ht : (D.tup [.str [a], .str [b]]) = tu (a, b) := rfl
  have two : (2 : Nat) ≤ lim := by decide
  have e4 := notin_strL [a] (fun p : Nat × Nat => [p.1]) ts
  by_cases hm : a ∈ ts.map (·.1)
  · refine ⟨_, ?_, ts, .sh (.int i), .sh (tu (a, b)), by omega, h2, h3, rfl⟩
    have hm' : [a] ∈ ts.map (fun p => [p.1]) := by
      obtain ⟨p, hp, e⟩ := List.mem_map.mp hm
      exact List.mem_map.mpr ⟨p, hp, by rw [← e]⟩
    rw [decide_eq_true hm'] at e4
    simp [forB, e1, e2, f1, f2, ht, two, e4]
  · have hm' : [a] ∉ ts.map (fun p => [p.1]) := fun z => hm (by
      obtain ⟨p, hp, e⟩ := List.mem_map.mp z
      exact List.mem_map.mpr ⟨p, hp, by simpa using e⟩)
    rw [decide_eq_false hm'] at e4
    refine ⟨_, ?_, ts ++ [(a, b)], .sh (.int i), .sh (tu (a, b)), by simp; omega, ?_, fun p hp => ?_, rfl⟩
    · simp [forB, e1, e2, f1, f2, ht, two, e4, hl]
    · rw [List.map_append, List.nodup_append]
      refine ⟨h2, by simp, fun x hx y hy => ?_⟩
      have : y = a := by simpa using hy
      rw [this]
      exact fun z => hm (z ▸ hx)
    · rcases List.mem_append.mp hp with hp | hp
      · exact h3 p hp
      · rw [List.mem_singleton.mp hp]; exact ⟨m1, m2⟩
theorem lim_ix (v : Nat) (h : v < 7) : ∃ l : Nat, 1 ≤ l ∧ l ≤ 12 ∧ idxO (.tup [.int 1, .int 2, .int 3, .int 4, .int 12, .int 8, .int 2]) (.int v) = some (.int l) := by
  have : ∀ v : Fin 7, ∃ l : Fin 13, 1 ≤ l.val ∧ ([1, 2, 3, 4, 12, 8, 2] : List Nat)[v.val]? = some l.val := by decide
  obtain ⟨l, h1, h2⟩ := this ⟨v, h⟩
  refine ⟨l.val, by omega, by omega, ?_⟩
  have e := ixN_nat (n := 7) h
  show (match ixN 7 (v : Int) with
    | some k => (([1, 2, 3, 4, 12, 8, 2] : List Nat).map fun (z : Nat) => D.int (z : Int))[k]?
    | none => none) = _
  rw [e]
  simp only [List.getElem?_map]
  simp only at h2
  rw [h2]
  rfl
theorem compX_sub {α : Type} {f : α → Option (List D)} {g : α → D} : ∀ {xs : List α}, (∀ c ∈ xs, ∃ b : Bool, f c = some (if b then [g c] else [])) → ∃ ys : List α, ys.Sublist xs ∧ compX f xs = some (ys.map g)
  | [], _ => ⟨[], List.Sublist.refl _, rfl⟩
  | c :: xs, h => by
    obtain ⟨b, hb⟩ := h c List.mem_cons_self
    obtain ⟨ys, h1, h2⟩ := compX_sub (xs := xs) fun c hc => h c (List.mem_cons_of_mem _ hc)
    cases b with
    | true => exact ⟨c :: ys, h1.cons₂ c, by rw [compX, hb, h2]; rfl⟩
    | false => exact ⟨ys, h1.cons c, by rw [compX, hb, h2]; rfl⟩
theorem okD_sub {d : Tx} (h : d.Sublist [32, 45, 46, 97]) : okD d = true := by
  refine okD_iff.mpr ⟨by simpa using h.length_le, fun c hc => ?_, lt_inc (List.Pairwise.sublist h (by decide))⟩
  have := h.subset hc
  have z : ∀ c ∈ ([32, 45, 46, 97] : List Nat), c ∈ g_SIGNS := by decide
  exact z c this
theorem sp_law_disk (s : Scr) (at' : Int) (h0 : 0 ≤ at') (hat : at' < 90000) : ∃ k : Disk, (∀ c ∈ k.d, c ∈ ([32, 45, 46, 97] : List Nat)) ∧ (∀ p ∈ k.ts, p.1 ∈ FEW ∧ p.2 ∈ FEW) ∧ Fx i__law_disk_k01 [.scr s.ns, .int at'] = some (.ok k.e) := by
  rw [fx i__law_disk_k01 _ rfl (by decide) rfl]
  have hv := pk_lt s at' 4 (by omega) (by omega) (by omega)
  have ev := sp_pick s at' 4 (by omega) (by omega) (by omega)
  generalize pk s at' 4 = v at hv ev
  have hr := rangeO_nat v (by omega)
  obtain ⟨ρ, hρ, ⟨ts, c4, c7, q1, q2, q3, rfl⟩⟩ := forX_cnt (TI s at') (List.range v) 0 [.sh (.scr s.ns), .sh (.int at'), .sh (.str [97, 98, 46, 45, 32, 65, 95, 66]), .ow (.lst []), .no, .no, .no, .no, .no, .no] (fun k x ρ hx hk h => by
    have hi := List.mem_range.mp hx
    simp at hk
    exact turns_body s at' h0 hat k ρ x (by omega) (by omega) h) ⟨[], .no, .no, Nat.zero_le _, List.nodup_nil, (fun _ h => nomatch h), rfl⟩
  simp at q1
  have ed : ∃ d : Tx, d.Sublist [32, 45, 46, 97] ∧ evE Fx (.mth .join (.cst (.str [])) (.cons (.comp [8] (.one 8) (.ival (.cst (.str [32, 45, 46, 97]))) (.cmp .eq (.call 15 (.cons (.var 0) (.cons (.bin .add (.bin .add (.bor 1) (.cst (.int 10))) (.mth .index (.cst (.str [32, 45, 46, 97])) (.cons (.bor 8) .nil))) (.cons (.cst (.int 3)) .nil)))) (.cst (.int 0))) (.var 8)) .nil)) [.sh (.scr s.ns), .sh (.int at'), .sh (.str [97, 98, 46, 45, 32, 65, 95, 66]), .ow (.lst (ts.map tu)), c4, .no, .no, c7, .no, .no] = some (.ok (.str d)) := by
    obtain ⟨d, hd, ed⟩ := compX_sub (xs := ([32, 45, 46, 97] : Tx)) (g := fun c => D.str [c]) (f := fun x => tkK (bindTg (.one 8) (.str [x]) (wipeE [.sh (.scr s.ns), .sh (.int at'), .sh (.str [97, 98, 46, 45, 32, 65, 95, 66]), .ow (.lst (ts.map tu)), c4, .no, .no, c7, .no, .no] [8])) (evE Fx (.cmp .eq (.call 15 (.cons (.var 0) (.cons (.bin .add (.bin .add (.bor 1) (.cst (.int 10))) (.mth .index (.cst (.str [32, 45, 46, 97])) (.cons (.bor 8) .nil))) (.cons (.cst (.int 3)) .nil)))) (.cst (.int 0)))) (evE Fx (.var 8))) (fun c hc => by
      have hj : ∃ j : Nat, j < 4 ∧ findC c [32, 45, 46, 97] 0 = some j := by
        have : ∀ c ∈ ([32, 45, 46, 97] : List Nat), ∃ j : Fin 4, findC c [32, 45, 46, 97] 0 = some j.val := by decide
        obtain ⟨j, e⟩ := this c hc
        exact ⟨j.val, j.isLt, e⟩
      obtain ⟨j, hj, ej⟩ := hj
      have e := sp_pick s (at' + 10 + j) 3 (by omega) (by omega) (by omega)
      exact ⟨decide (pk s (at' + 10 + j) 3 = 0), by simp [mthO, ej, e]⟩)
    refine ⟨d, hd, ?_⟩
    have hl : d.length ≤ lim := by
      have := hd.length_le
      rw [limE]
      simp at this
      omega
    simp only [v_mth, v_cst, bd_ok, rcv_j, if_true, v_cons, v_nil, v_comp, v_ival, it_s, li_some, compF_map, turnK_d]
    rw [ed]
    simp [hl]
  obtain ⟨d, hd, ed⟩ := ed
  have hw := pk_lt s (at' + 20) 7 (by omega) (by omega) (by omega)
  have ew := sp_pick s (at' + 20) 7 (by omega) (by omega) (by omega)
  generalize pk s (at' + 20) 7 = w at hw ew
  obtain ⟨l, l1, l2, el⟩ := lim_ix w (by omega)
  have eu := sp_pick s (at' + 21) 2 (by omega) (by omega) (by omega)
  generalize pk s (at' + 21) 2 = u at eu
  have ot : okT (sortP ts) = true := by
    have hpm := sortP_perm ts
    refine okT_iff.mpr ⟨by rw [hpm.length_eq]; omega, fun p hp => ?_, lt_inc (sortP_lt ts q2)⟩
    obtain ⟨h1, h2⟩ := q3 p (hpm.mem_iff.mp hp)
    exact ⟨few_sign _ h1, few_sign _ h2⟩
  refine ⟨⟨decide ((u : Int) = 0), sortP ts, l, d, ot, l1, l2, okD_sub hd⟩, fun c hc => hd.subset hc, fun p hp => q3 p ((sortP_perm ts).mem_iff.mp hp), ?_⟩
  have seven : (7 : Nat) ≤ lim := by decide
  have four : (4 : Nat) ≤ lim := by decide
  have e0 : evI Fx (.irng (.cons (.call 15 (.cons (.var 0) (.cons (.var 1) (.cons (.cst (.int 4)) .nil)))) .nil)) [.sh (.scr s.ns), .sh (.int at'), .sh (.str [97, 98, 46, 45, 32, 65, 95, 66]), .ow (.lst []), .no, .no, .no, .no, .no, .no] = some (.ok ((List.range v).map fun (i : Nat) => D.int i)) := by
    simp [ev, hr]
  show endOf (evS Fx b__law_disk_k01 [.sh (.scr s.ns), .sh (.int at'), .no, .no, .no, .no, .no, .no, .no, .no]) = _
  unfold b__law_disk_k01
  rw [st_par (y := .lst []) rfl (v_cst _ _ _) (by simp), st_for rfl e0 hρ, st_asg rfl ed]
  simp [ew, el, eu, seven, four, Disk.e, tD]
end Mn
end
section
set_option linter.all false
set_option maxRecDepth 100000
set_option maxHeartbeats 1000000
/-! Lb4: drawn disks and names as functions. -/
namespace Mn
def plainD : Disk := ⟨false, [], 12, [], by decide, by decide, by decide, by decide⟩
def DskP (s : Scr) (at' : Int) (k : Disk) : Prop := (∀ c ∈ k.d, c ∈ ([32, 45, 46, 97] : List Nat)) ∧ (∀ p ∈ k.ts, p.1 ∈ FEW ∧ p.2 ∈ FEW) ∧ Fx i__law_disk_k01 [.scr s.ns, .int at'] = some (.ok k.e)
open Classical in
noncomputable def dkF (s : Scr) (at' : Int) : Disk := if h : ∃ k, DskP s at' k then Classical.choose h else plainD
theorem dkF_spec (s : Scr) (at' : Int) (h0 : 0 ≤ at') (hat : at' < 90000) : DskP s at' (dkF s at') := by
  have h : ∃ k, DskP s at' k := sp_law_disk s at' h0 hat
  unfold dkF
  rw [dif_pos h]
  exact Classical.choose_spec h
theorem sp_dk (s : Scr) (at' : Int) (h0 : 0 ≤ at') (hat : at' < 90000) : Fx i__law_disk_k01 [.scr s.ns, .int at'] = some (.ok (dkF s at').e) := (dkF_spec s at' h0 hat).2.2
/-! names -/
theorem isN_app {x y : Tx} (hx : isN x = true) (hy : ∀ c ∈ y, c ∈ g_SIGNS) (hl : x.length + y.length ≤ 12) : isN (x ++ y) = true := by
  obtain ⟨h1, h2, h3⟩ := isN_iff.mp hx
  refine isN_iff.mpr ⟨by simp; omega, by simp; omega, fun c hc => ?_⟩
  rcases List.mem_append.mp hc with h | h
  · exact h3 c h
  · exact hy c h
theorem isN_upp {x : Tx} (hx : isN x = true) : isN (x.map uppC) = true := by
  obtain ⟨h1, h2, h3⟩ := isN_iff.mp hx
  refine isN_iff.mpr ⟨by simp; omega, by simp; omega, fun c hc => ?_⟩
  obtain ⟨a, ha, e⟩ := List.mem_map.mp hc
  rw [← e]
  exact (low_sign a (h3 a ha)).2
theorem mth_upp (n : Nm) : mthO .upper (.str n.x) [] = some (.str (n.x.map uppC)) := by
  have h1 : n.x.all (fun c => decide (c < 128)) = true := List.all_eq_true.mpr fun c hc => decide_eq_true (sign_small c (n.sgn c hc)).1
  have h2 : n.x.length ≤ 5000000 := by have := n.len; omega
  simp [mthO, h2]
  intro c hc
  exact (sign_small c (n.sgn c hc)).1
def NSG : Tx := [97, 98, 46, 45, 32, 65, 95, 66, 99]
theorem nsg_sign : ∀ c ∈ NSG, c ∈ g_SIGNS := by decide
def NmP (s : Scr) (at' m : Int) (n : Nm) : Prop := (n.x.length : Int) ≤ m ∧ (∀ c ∈ n.x, c ∈ NSG) ∧ Fx i__law_name_k01 [.scr s.ns, .int at', .int m] = some (.ok (.str n.x))
theorem range_map_len {α : Type} (f : Nat → α) (n : Nat) : ((List.range n).map f).length = n := by simp
theorem sp_law_name (s : Scr) (at' m : Int) (h0 : 0 ≤ at') (hat : at' < 90000) (h1 : 0 < m) (h2 : m ≤ 12) : ∃ n, NmP s at' m n := by
  have hv := pk_lt s at' m (by omega) (by omega) (by omega)
  have ev := sp_pick s at' m (by omega) (by omega) (by omega)
  generalize pk s at' m = v at hv ev
  let g : Nat → Nat := fun i => NSG.getD (pk s (at' + 1 + i) 9) 97
  have hg : ∀ i : Nat, i < 12 → g i ∈ NSG ∧ idxO (.str NSG) (.int (pk s (at' + 1 + i) 9)) = some (.str [g i]) := fun i hi => by
    have hp := pk_lt s (at' + 1 + i) 9 (by omega) (by omega) (by omega)
    have hp' : pk s (at' + 1 + i) 9 < NSG.length := by simp [NSG]; omega
    have e : g i = NSG[pk s (at' + 1 + i) 9] := by
      show NSG.getD _ _ = _
      rw [List.getD_eq_getElem?_getD, List.getElem?_eq_getElem hp']
      rfl
    rw [e]
    exact ⟨List.getElem_mem hp', x_str NSG _ hp'⟩
  have okn : isN ((List.range (1 + v)).map g) = true := isN_iff.mpr ⟨by simp, by simp; omega, fun c hc => by
    obtain ⟨i, hi, e⟩ := List.mem_map.mp hc
    have := List.mem_range.mp hi
    rw [← e]
    exact nsg_sign _ (hg i (by omega)).1⟩
  refine ⟨⟨(List.range (1 + v)).map g, okn⟩, by simp; omega, fun c hc => by
    obtain ⟨i, hi, e⟩ := List.mem_map.mp hc
    have := List.mem_range.mp hi
    rw [← e]
    exact (hg i (by omega)).1, ?_⟩
  rw [fx i__law_name_k01 _ rfl (by decide) rfl]
  have hr : rangeO [.int (1 + (v : Int))] = some ((List.range (1 + v)).map fun (i : Nat) => D.int i) := by
    have := rangeO_nat (1 + v) (by omega)
    rwa [Int.natCast_add] at this
  have hl : 1 + v ≤ lim := by rw [limE]; omega
  have ec : compX (fun x : Nat => tkC (some (D.bl true)) (nx (bd (Fx 15 [.scr s.ns, .int (at' + 1 + x), .int 9]) fun y => li (idxO (.str [97, 98, 46, 45, 32, 65, 95, 66, 99]) y)))) (List.range (1 + v)) = some ((List.range (1 + v)).map fun i => D.str [g i]) := compX_map fun i hi => by
    have hi := List.mem_range.mp hi
    have e := sp_pick s (at' + 1 + i) 9 (by omega) (by omega) (by omega)
    have := (hg i (by omega)).2
    unfold NSG at this
    simp [e, this]
  simp [b__law_name_k01, start, ev, hr, ec, hl]
open Classical in
noncomputable def nmF (s : Scr) (at' m : Int) : Nm := if h : ∃ n, NmP s at' m n then Classical.choose h else ⟨[97], by decide⟩
theorem nmF_spec (s : Scr) (at' m : Int) (h0 : 0 ≤ at') (hat : at' < 90000) (h1 : 0 < m) (h2 : m ≤ 12) : NmP s at' m (nmF s at' m) := by
  have h := sp_law_name s at' m h0 hat h1 h2
  unfold nmF
  rw [dif_pos h]
  exact Classical.choose_spec h
theorem sp_nm (s : Scr) (at' m : Int) (h0 : 0 ≤ at') (hat : at' < 90000) (h1 : 0 < m) (h2 : m ≤ 12) : Fx i__law_name_k01 [.scr s.ns, .int at', .int m] = some (.ok (.str (nmF s at' m).x)) := (nmF_spec s at' m h0 hat h1 h2).2.2
end Mn
end
section
set_option linter.all false
set_option maxRecDepth 100000
set_option maxHeartbeats 1000000
/-! Lb5: values by the kernel. -/
namespace Mn
mutual
def D.same : D → D → Bool
  | .non, .non => true
  | .bl a, .bl b => a == b
  | .int i, .int j => decide (i = j)
  | .str x, .str y => decide (x = y)
  | .tup x, .tup y => sameL x y
  | .lst x, .lst y => sameL x y
  | .dct k x, .dct l y => decide (k = l) && sameL x y
  | .scr x, .scr y => decide (x = y)
  | _, _ => false
def sameL : List D → List D → Bool
  | [], [] => true
  | x :: xs, y :: ys => x.same y && sameL xs ys
  | _, _ => false
end
mutual
theorem same_eq : ∀ x y : D, x.same y = true → x = y
  | .non, y, h => by cases y <;> simp [D.same] at h ⊢
  | .bl a, y, h => by cases y <;> simp [D.same] at h ⊢; exact h
  | .int a, y, h => by cases y <;> simp [D.same] at h ⊢; exact h
  | .str a, y, h => by cases y <;> simp [D.same] at h ⊢; exact h
  | .scr a, y, h => by cases y <;> simp [D.same] at h ⊢; exact h
  | .tup a, y, h => by
    cases y <;> simp [D.same] at h ⊢
    exact sameL_eq _ _ h
  | .lst a, y, h => by
    cases y <;> simp [D.same] at h ⊢
    exact sameL_eq _ _ h
  | .dct k a, y, h => by
    cases y <;> simp [D.same] at h ⊢
    exact ⟨h.1, sameL_eq _ _ h.2⟩
theorem sameL_eq : ∀ x y : List D, sameL x y = true → x = y
  | [], [], _ => rfl
  | [], _ :: _, h => by simp [sameL] at h
  | _ :: _, [], h => by simp [sameL] at h
  | x :: xs, y :: ys, h => by
    simp [sameL] at h
    rw [same_eq x y h.1, sameL_eq xs ys h.2]
end
def sameM (x : M D) (d : D) : Bool := match x with
  | some (.ok y) => y.same d
  | _ => false
theorem fxv {x : M D} {d : D} (h : sameM x d = true) : x = some (.ok d) := by
  unfold sameM at h
  split at h
  · rw [same_eq _ _ h]
  · cases h
end Mn
end
section
set_option linter.all false
set_option maxRecDepth 100000
set_option maxHeartbeats 1000000
/-! Lb6: a disk that is often like another one. -/
namespace Mn
/-- the turns as a dict: a pair is put -/
def upT (acc : List (Nat × Nat)) (q : Nat × Nat) : List (Nat × Nat) := match acc with
  | [] => [q]
  | p :: r => if p.1 = q.1 then (p.1, q.2) :: r else p :: upT r q
theorem upT_fst (q : Nat × Nat) : ∀ acc : List (Nat × Nat), ∀ x, x ∈ (upT acc q).map (·.1) → x ∈ acc.map (·.1) ∨ x = q.1
  | [], x, h => by simp [upT] at h; exact .inr h
  | p :: r, x, h => by
    unfold upT at h
    split at h
    · exact .inl (by simpa using h)
    · rcases List.mem_cons.mp (show x ∈ p.1 :: (upT r q).map (·.1) from h) with z | z
      · exact .inl (by simp [z])
      · rcases upT_fst q r x z with z | z
        · exact .inl (by simp at z ⊢; exact .inr z)
        · exact .inr z
theorem upT_mem (q : Nat × Nat) : ∀ acc : List (Nat × Nat), ∀ p, p ∈ upT acc q → p ∈ acc ∨ p = q
  | [], x, h => by simp [upT] at h; exact .inr h
  | p :: r, x, h => by
    unfold upT at h
    split at h
    · rename_i e
      rcases List.mem_cons.mp h with z | z
      · exact .inr (by rw [z, e])
      · exact .inl (List.mem_cons_of_mem _ z)
    · rcases List.mem_cons.mp h with z | z
      · exact .inl (by rw [z]; exact List.mem_cons_self)
      · rcases upT_mem q r x z with z | z
        · exact .inl (List.mem_cons_of_mem _ z)
        · exact .inr z
theorem upT_nodup (q : Nat × Nat) : ∀ acc : List (Nat × Nat), (acc.map (·.1)).Nodup → ((upT acc q).map (·.1)).Nodup
  | [], _ => by simp [upT]
  | p :: r, h => by
    have h' := List.nodup_cons.mp (show (p.1 :: r.map (·.1)).Nodup from h)
    unfold upT
    split
    · exact h
    · rename_i ne
      refine List.nodup_cons.mpr ⟨fun z => ?_, upT_nodup q r h'.2⟩
      rcases upT_fst q r p.1 z with z | z
      · exact h'.1 z
      · exact ne z
theorem upT_put (q : Nat × Nat) : ∀ acc : List (Nat × Nat), putD [q.1] (D.str [q.2]) (acc.map fun p => [p.1]) (acc.map fun p => D.str [p.2]) = ((upT acc q).map (fun p => [p.1]), (upT acc q).map fun p => D.str [p.2])
  | [] => rfl
  | p :: r => by
    have ih := upT_put q r
    simp only [List.map_cons, putD]
    unfold upT
    by_cases e : p.1 = q.1
    · simp [e]
    · simp [e, ih]
theorem dict_up : ∀ (l acc : List (Nat × Nat)), dictO (l.map tu) (acc.map fun p => [p.1]) (acc.map fun p => D.str [p.2]) = some (.dct ((l.foldl upT acc).map fun p => [p.1]) ((l.foldl upT acc).map fun p => D.str [p.2]))
  | [], acc => rfl
  | q :: l, acc => by
    show dictO (l.map tu) (putD [q.1] (D.str [q.2]) _ _).1 (putD [q.1] (D.str [q.2]) _ _).2 = _
    rw [upT_put]
    exact dict_up l (upT acc q)
theorem zipKV_tu : ∀ l : List (Nat × Nat), zipKV (l.map fun p => [p.1]) (l.map fun p => D.str [p.2]) = l.map tu
  | [] => rfl
  | p :: l => by simp only [List.map_cons, zipKV, zipKV_tu l]; rfl
theorem items_tu (l : List (Nat × Nat)) : vwO .sortItems (.dct (l.map fun p => [p.1]) (l.map fun p => D.str [p.2])) = some (.lst ((sortP l).map tu)) := by
  show (sortO (zipKV _ _)).map D.lst = _
  rw [zipKV_tu]
  exact b_sort_tu l
theorem foldl_upT (l acc : List (Nat × Nat)) (h : (acc.map (·.1)).Nodup) : ((l.foldl upT acc).map (·.1)).Nodup ∧ ∀ p ∈ l.foldl upT acc, p ∈ acc ∨ p ∈ l := by
  induction l generalizing acc with
  | nil => exact ⟨h, fun p hp => .inl hp⟩
  | cons q l ih =>
    obtain ⟨h1, h2⟩ := ih (upT acc q) (upT_nodup q acc h)
    refine ⟨h1, fun p hp => ?_⟩
    rcases h2 p hp with z | z
    · rcases upT_mem q acc p z with z | z
      · exact .inl z
      · exact .inr (by rw [z]; exact List.mem_cons_self)
    · exact .inr (List.mem_cons_of_mem _ z)
theorem tD_fold (ts : List (Nat × Nat)) : D.tup (ts.map tu) = tD ts := rfl
@[simp] theorem mkCl_tD (b : Bool) (ts : List (Nat × Nat)) : mkCl b (tD ts) = .sh (tD ts) := by cases b <;> rfl
@[simp] theorem mkCl_ke (b : Bool) (k : Disk) : mkCl b k.e = .sh k.e := by cases b <;> rfl
theorem sl_tD (ts : List (Nat × Nat)) : slcO (tD ts) none (some 6) = some (tD (ts.take 6)) := by
  show some (D.tup (cut (ts.map tu) none (some 6))) = _
  have := cut_to (ts.map tu) 6
  simp at this
  rw [this, ← List.map_take]
  rfl
theorem sl_tD1 (ts : List (Nat × Nat)) : slcO (tD ts) (some 1) none = some (tD (ts.drop 1)) := by
  show some (D.tup (cut (ts.map tu) (some 1) none)) = _
  rw [cut1, ← List.map_drop]
  rfl
theorem okT_sub {ts us : List (Nat × Nat)} (h : okT ts = true) (s : us.Sublist ts) : okT us = true := by
  obtain ⟨h1, h2, h3⟩ := okT_iff.mp h
  refine okT_iff.mpr ⟨Nat.le_trans s.length_le h1, fun p hp => h2 p (s.subset hp), lt_inc ?_⟩
  exact List.Pairwise.sublist (s.map _) (inc_lt h3)
/-- what the other disk has of the first one -/
def OthP (s : Scr) (at' : Int) (k k' : Disk) : Prop := (∀ c ∈ k'.d, c ∈ k.d ∨ c ∈ ([32, 45, 46, 97] : List Nat)) ∧ (∀ p ∈ k'.ts, p ∈ k.ts ∨ p = (65, 66) ∨ p = (67, 97)) ∧ Fx i__law_other_k07 [.scr s.ns, .int at', k.e] = some (.ok k'.e)
theorem oth_lim (s : Scr) (at' : Int) (k : Disk) (h0 : 0 ≤ at') (h1 : at' < 90000) : ∃ l : Nat, 1 ≤ l ∧ l ≤ 12 ∧ bd (Fx i__law_pick_k01 [.scr s.ns, .int (at' + 1), .int 5]) (fun y => li (idxO (.tup [.int 1, .int 2, .int 3, .int 4, .int ((k.l : Int) % 12 + 1)]) y)) = some (.ok (.int l)) := by
  have hv := pk_lt s (at' + 1) 5 (by omega) (by omega) (by omega)
  have ev := sp_pick s (at' + 1) 5 (by omega) (by omega) (by omega)
  generalize pk s (at' + 1) 5 = v at hv ev
  have e12 : ∃ m : Nat, m < 12 ∧ ((k.l : Int) % 12 + 1) = (m + 1 : Nat) := ⟨k.l % 12, Nat.mod_lt _ (by decide), by omega⟩
  obtain ⟨m, hm, em⟩ := e12
  rw [em]
  have hv' : v < 5 := by omega
  have cs : v = 0 ∨ v = 1 ∨ v = 2 ∨ v = 3 ∨ v = 4 := by omega
  rcases cs with rfl | rfl | rfl | rfl | rfl
  · exact ⟨1, by omega, by omega, by rw [ev]; rfl⟩
  · exact ⟨2, by omega, by omega, by rw [ev]; rfl⟩
  · exact ⟨3, by omega, by omega, by rw [ev]; rfl⟩
  · exact ⟨4, by omega, by omega, by rw [ev]; rfl⟩
  · exact ⟨m + 1, by omega, by omega, by rw [ev]; rfl⟩
theorem sp_law_other (s : Scr) (at' : Int) (k : Disk) (h0 : 0 ≤ at') (h1 : at' < 90000) : ∃ k', OthP s at' k k' := by
  unfold OthP
  have hv := pk_lt s at' 8 (by omega) (by omega) (by omega)
  have ev := sp_pick s at' 8 (by omega) (by omega) (by omega)
  generalize pk s at' 8 = v at hv ev
  have e0 : k.e = .tup [.bl k.f, tD k.ts, .int k.l, .str k.d] := rfl
  have t6 : k.ts.take 6 = k.ts := List.take_of_length_le (okT_iff.mp k.ht).1
  have fin : ∀ (f : Bool) (ts : List (Nat × Nat)) (l : Nat) (d : Tx) (ht : okT (ts.take 6) = true) (l1 : 1 ≤ l) (l2 : l ≤ 12) (hd : okD d = true), D.tup [.bl f, tD (ts.take 6), .int l, .str d] = (Disk.mk f (ts.take 6) l d ht l1 l2 hd).e := fun _ _ _ _ _ _ _ _ => rfl
  have srt : ∃ w : Nat, w < 6 ∧ idxO (.tup [.int 0, .int 1, .int 2, .int 3, .int 4, .int 5, .int 0, .int 1]) (.int v) = some (.int w) := by
    have cs : v = 0 ∨ v = 1 ∨ v = 2 ∨ v = 3 ∨ v = 4 ∨ v = 5 ∨ v = 6 ∨ v = 7 := by omega
    rcases cs with rfl | rfl | rfl | rfl | rfl | rfl | rfl | rfl
    · exact ⟨0, by omega, rfl⟩
    · exact ⟨1, by omega, rfl⟩
    · exact ⟨2, by omega, rfl⟩
    · exact ⟨3, by omega, rfl⟩
    · exact ⟨4, by omega, rfl⟩
    · exact ⟨5, by omega, rfl⟩
    · exact ⟨0, by omega, rfl⟩
    · exact ⟨1, by omega, rfl⟩
  obtain ⟨w, hw, ew⟩ := srt
  have cs : w = 0 ∨ w = 1 ∨ w = 2 ∨ w = 3 ∨ w = 4 ∨ w = 5 := by omega
  have start0 : ∀ (Q : M D → Prop), Q (endOf (evS Fx (nextOf (nextOf b__law_other_k07)) [.sh (.scr s.ns), .sh (.int at'), .sh k.e, .sh (.bl k.f), .sh (tD k.ts), .sh (.int k.l), .sh (.str k.d), .sh (.int w), .no, .no, .no, .no])) → Q (Fx i__law_other_k07 [.scr s.ns, .int at', k.e]) := fun Q h => by
    rw [fx i__law_other_k07 _ rfl (by decide) rfl]
    unfold b__law_other_k07
    rw [st_unp (xs := [.bl k.f, tD k.ts, .int k.l, .str k.d]) rfl (by simp [start, e0]) rfl]
    rw [st_asg (d := .int w) rfl (by simp [start, limE, ev, ew])]
    exact h
  rcases cs with rfl | rfl | rfl | rfl | rfl | rfl
  · -- the limit
    obtain ⟨l, l1, l2, el⟩ := oth_lim s at' k h0 h1
    refine ⟨⟨k.f, k.ts.take 6, l, k.d, by rw [t6]; exact k.ht, l1, l2, k.hd⟩, fun c hc => .inl hc, fun p hp => .inl (by simp only [t6] at hp; exact hp), start0 (· = _) ?_⟩
    simp [nextOf, b__law_other_k07, limE, el, sl_tD]
    rfl
  · -- dropped
    have p0 := sp_pick s (at' + 2 + (0 : Nat)) 4 (by omega) (by omega) (by omega)
    have p1 := sp_pick s (at' + 2 + (1 : Nat)) 4 (by omega) (by omega) (by omega)
    have p2 := sp_pick s (at' + 2 + (2 : Nat)) 4 (by omega) (by omega) (by omega)
    have p3 := sp_pick s (at' + 2 + (3 : Nat)) 4 (by omega) (by omega) (by omega)
    generalize pk s (at' + 2 + (0 : Nat)) 4 = v0 at p0
    generalize pk s (at' + 2 + (1 : Nat)) 4 = v1 at p1
    generalize pk s (at' + 2 + (2 : Nat)) 4 = v2 at p2
    generalize pk s (at' + 2 + (3 : Nat)) 4 = v3 at p3
    have kept : ∃ b0 b1 b2 b3 : Bool, evE Fx (.comp [9, 10] (.many [9, 10]) (.ienum (.cst (.str [32, 45, 46, 97]))) (.cst (.bl true)) (.cmp .ne (.cmp .isIn (.bor 10) (.bor 6)) (.cmp .eq (.call 15 (.cons (.var 0) (.cons (.bin .add (.bin .add (.bor 1) (.cst (.int 2))) (.bor 9)) (.cons (.cst (.int 4)) .nil)))) (.cst (.int 0))))) [.sh (.scr s.ns), .sh (.int at'), .sh k.e, .sh (.bl k.f), .sh (tD k.ts), .sh (.int k.l), .sh (.str k.d), .sh (.int 1), .no, .no, .no, .no] = some (.ok (.lst [.bl b0, .bl b1, .bl b2, .bl b3])) := by
      simp at p0 p1 p2 p3
      exact ⟨!decide (decide (32 ∈ k.d) = decide (v0 = 0)), !decide (decide (45 ∈ k.d) = decide (v1 = 0)), !decide (decide (46 ∈ k.d) = decide (v2 = 0)), !decide (decide (97 ∈ k.d) = decide (v3 = 0)), by simp [enumL, compF, p0, p1, p2, p3]⟩
    obtain ⟨b0, b1, b2, b3, kept⟩ := kept
    let d : Tx := (if b0 then [32] else []) ++ (if b1 then [45] else []) ++ (if b2 then [46] else []) ++ (if b3 then [97] else [])
    have od : okD d = true := by cases b0 <;> cases b1 <;> cases b2 <;> cases b3 <;> decide
    have md : ∀ c ∈ d, c ∈ ([32, 45, 46, 97] : List Nat) := by cases b0 <;> cases b1 <;> cases b2 <;> cases b3 <;> decide
    refine ⟨⟨k.f, k.ts.take 6, k.l, d, by rw [t6]; exact k.ht, k.l1, k.l2, od⟩, fun c hc => .inr (md c hc), fun p hp => .inl (by simp only [t6] at hp; exact hp), start0 (· = _) ?_⟩
    have ej : evE Fx (.mth .join (.cst (.str [])) (.cons (.comp [10, 11] (.many [10, 11]) (.izip (.cst (.str [32, 45, 46, 97])) (.bor 8)) (.var 11) (.var 10)) .nil)) [.sh (.scr s.ns), .sh (.int at'), .sh k.e, .sh (.bl k.f), .sh (tD k.ts), .sh (.int k.l), .sh (.str k.d), .sh (.int 1), .ow (.lst [.bl b0, .bl b1, .bl b2, .bl b3]), .no, .no, .no] = some (.ok (.str d)) := by
      cases b0 <;> cases b1 <;> cases b2 <;> cases b3 <;> simp [zipK, zipL, compF, mthO, strL, joinTx, joinSz, limE, d]
    have body : evS Fx (.seq (.asg 8 (.comp [9, 10] (.many [9, 10]) (.ienum (.cst (.str [32, 45, 46, 97]))) (.cst (.bl true)) (.cmp .ne (.cmp .isIn (.bor 10) (.bor 6)) (.cmp .eq (.call 15 (.cons (.var 0) (.cons (.bin .add (.bin .add (.bor 1) (.cst (.int 2))) (.bor 9)) (.cons (.cst (.int 4)) .nil)))) (.cst (.int 0)))))) (.seq (.asg 6 (.mth .join (.cst (.str [])) (.cons (.comp [10, 11] (.many [10, 11]) (.izip (.cst (.str [32, 45, 46, 97])) (.bor 8)) (.var 11) (.var 10)) .nil))) .skip)) [.sh (.scr s.ns), .sh (.int at'), .sh k.e, .sh (.bl k.f), .sh (tD k.ts), .sh (.int k.l), .sh (.str k.d), .sh (.int 1), .no, .no, .no, .no] = some (.nx [.sh (.scr s.ns), .sh (.int at'), .sh k.e, .sh (.bl k.f), .sh (tD k.ts), .sh (.int k.l), .sh (.str d), .sh (.int 1), .ow (.lst [.bl b0, .bl b1, .bl b2, .bl b3]), .no, .no, .no]) := by
      rw [st_asg rfl kept]
      exact (st_asg rfl ej).trans (by simp)
    show endOf (evS Fx (.seq (.ife _ _ (.seq (.ife _ _ _) .skip)) _) _) = _
    rw [st_if (c := false) rfl (by simp)]
    simp only [Bool.false_eq_true, if_false]
    rw [st_if (c := true) rfl (by simp)]
    simp only [if_true]
    refine (congrArg (fun z => endOf (seqK (seqK z _) _)) body).trans ?_
    simp [limE, sl_tD]
    rfl
  · -- one turn less
    refine ⟨⟨k.f, (k.ts.drop 1).take 6, k.l, k.d, okT_sub k.ht ((List.take_sublist _ _).trans (List.drop_sublist _ _)), k.l1, k.l2, k.hd⟩, fun c hc => .inl hc, fun p hp => .inl ?_, start0 (· = _) ?_⟩
    · exact (List.drop_sublist 1 k.ts).subset ((List.take_sublist 6 _).subset hp)
    · simp [nextOf, b__law_other_k07, limE, sl_tD, sl_tD1]
      rfl
  · -- fold
    refine ⟨⟨!k.f, k.ts.take 6, k.l, k.d, by rw [t6]; exact k.ht, k.l1, k.l2, k.hd⟩, fun c hc => .inl hc, fun p hp => .inl (by simp only [t6] at hp; exact hp), start0 (· = _) ?_⟩
    simp [nextOf, b__law_other_k07, limE, sl_tD]
    rfl
  · -- two more turns
    have nd0 := inc_nodup (okT_iff.mp k.ht).2.2
    obtain ⟨n1, n2⟩ := foldl_upT (k.ts ++ [(65, 66), (67, 97)]) [] List.nodup_nil
    have hd : bltO .dict [.tup (k.ts.map tu ++ [tu (65, 66), tu (67, 97)])] = some (.dct (((k.ts ++ [(65, 66), (67, 97)]).foldl upT []).map fun (p : Nat × Nat) => [p.1]) (((k.ts ++ [(65, 66), (67, 97)]).foldl upT []).map fun (p : Nat × Nat) => D.str [p.2])) := by
      have := dict_up (k.ts ++ [(65, 66), (67, 97)]) []
      rw [List.map_append] at this
      exact this
    generalize (k.ts ++ [(65, 66), (67, 97)]).foldl upT [] = ts' at n1 n2 hd
    have pm := sortP_perm ts'
    have ok : okT ((sortP ts').take 6) = true := by
      refine okT_iff.mpr ⟨by rw [List.length_take]; omega, fun p hp => ?_, lt_inc (List.Pairwise.sublist ((List.take_sublist _ _).map _) (sortP_lt ts' n1))⟩
      have m := pm.mem_iff.mp ((List.take_sublist _ _).subset hp)
      rcases n2 p m with z | z
      · cases z
      · rcases List.mem_append.mp z with z | z
        · exact (okT_iff.mp k.ht).2.1 p z
        · have : p = (65, 66) ∨ p = (67, 97) := by simpa using z
          rcases this with rfl | rfl
          · decide
          · decide
    refine ⟨⟨k.f, (sortP ts').take 6, k.l, k.d, ok, k.l1, k.l2, k.hd⟩, fun c hc => .inl hc, fun p hp => ?_, start0 (· = _) ?_⟩
    · have m := pm.mem_iff.mp ((List.take_sublist _ _).subset hp)
      rcases n2 p m with z | z
      · cases z
      · rcases List.mem_append.mp z with z | z
        · exact .inl z
        · exact .inr (by simpa using z)
    · have ha : binO .add (tD k.ts) (.tup [.tup [.str [65], .str [66]], .tup [.str [67], .str [97]]]) = some (.tup (k.ts.map tu ++ [tu (65, 66), tu (67, 97)])) := by
        have hl := (okT_iff.mp k.ht).1
        have : (k.ts.map tu).length + 2 ≤ lim := by rw [limE]; simp; omega
        show (if (k.ts.map tu).length + 2 ≤ lim then _ else _) = _
        rw [if_pos this]
        rfl
      simp [nextOf, b__law_other_k07, limE, ha, hd, items_tu, tD_fold, sl_tD]
      rfl
  · -- as it is
    refine ⟨⟨k.f, k.ts.take 6, k.l, k.d, by rw [t6]; exact k.ht, k.l1, k.l2, k.hd⟩, fun c hc => .inl hc, fun p hp => .inl (by simp only [t6] at hp; exact hp), start0 (· = _) ?_⟩
    simp [nextOf, b__law_other_k07, limE, sl_tD]
    rfl
end Mn
end
section
set_option linter.all false
set_option maxRecDepth 100000
set_option maxHeartbeats 1000000
/-! Lb7: sets of names, their parts. -/
namespace Mn
/-- names as a tuple -/
def nt (ns : List Nm) : D := .tup (ns.map fun n => .str n.x)
@[simp] theorem nt_i (ns : List Nm) : items (nt ns) = some (ns.map fun n => .str n.x) := rfl
@[simp] theorem nt_t (ns : List Nm) : isiO .tuple (nt ns) = some true := rfl
@[simp] theorem nt_l (ns : List Nm) : bltO .len [nt ns] = some (.int ns.length) := by simp [nt]
def IncT : List Tx → Bool
  | a :: b :: r => ltTx a b && IncT (b :: r)
  | _ => true
theorem all_zip_incT : ∀ x : List Tx, ((x.zip x.tail).all fun p => ltTx p.1 p.2) = IncT x
  | [] => rfl
  | [a] => rfl
  | a :: b :: r => by
    have := all_zip_incT (b :: r)
    simp [IncT] at this ⊢
    rw [this]
theorem sp_rises_t (x : List Tx) : Fx i_rises [.tup (x.map fun c => D.str c)] = some (.ok (.bl (IncT x))) := by
  rw [fx i_rises _ rfl (by decide) rfl]
  simp [b_rises, start, zipK, cut1, zipL_tail, all_zip_incT]
@[simp] theorem sp_rises_nt (ns : List Nm) : Fx i_rises [nt ns] = some (.ok (.bl (IncT (ns.map (·.x))))) := by
  have e : nt ns = .tup ((ns.map (·.x)).map fun c => D.str c) := by simp [nt, Function.comp_def]
  rw [e, sp_rises_t]
@[simp] theorem isN_nm (n : Nm) : isN n.x = true := n.ok
theorem sp_are_names (ns : List Nm) (h1 : ns.length ≤ 8) (h2 : IncT (ns.map (·.x)) = true) : Fx i_are_names [nt ns] = some (.ok (.bl true)) := by
  rw [fx i_are_names _ rfl (by decide) rfl]
  have q : ¬ (8 : Int) < ns.length := by omega
  have q2 : (ns.all fun _ => true) = true := List.all_eq_true.mpr fun _ _ => rfl
  simp [b_are_names, start, q, q2, h2]
theorem sp_check_names (ns : List Nm) (h1 : ns.length ≤ 8) (h2 : IncT (ns.map (·.x)) = true) : Fx i_check_names [nt ns] = some (.ok .non) := by
  rw [fx i_check_names _ rfl (by decide) rfl]
  simp [b_check_names, start, sp_are_names ns h1 h2]
/-! names on a disk -/
def Sf (k : Disk) (ns : List Nm) : Prop := [] ∉ ns.map (fun n => k.pl n.x) ∧ (ns.map fun n => k.pl n.x).Nodup
instance (k : Disk) (ns : List Nm) : Decidable (Sf k ns) := inferInstanceAs (Decidable (_ ∧ _))
/-- by_places: the dict as pairs -/
def bpl (k : Disk) (acc : List (Tx × List Nm)) (n : Nm) : List (Tx × List Nm) := match acc with
  | [] => [(k.pl n.x, [n])]
  | p :: r => if p.1 = k.pl n.x then (p.1, p.2 ++ [n]) :: r else p :: bpl k r n
def bpD (acc : List (Tx × List Nm)) : D := .dct (acc.map (·.1)) (acc.map fun p => nt p.2)
theorem bpl_fst (k : Disk) (n : Nm) : ∀ acc, (bpl k acc n).map (·.1) = if k.pl n.x ∈ acc.map (·.1) then acc.map (·.1) else acc.map (·.1) ++ [k.pl n.x]
  | [] => rfl
  | p :: r => by
    unfold bpl
    by_cases h : p.1 = k.pl n.x
    · simp [h]
    · have h' : ¬ k.pl n.x = p.1 := fun e => h e.symm
      simp only [h, if_false, List.map_cons, bpl_fst k n r, List.mem_cons, h', false_or]
      split <;> rfl
theorem wp_putD {F : Nat → List D → M D} {i : Nat} {k v : E} {t : S} {ρ ρ1 : Env} {Q : Option Out → Prop} (ks : List Tx) (vs : List D) (d : D) (y : Tx) (hv : frz (vars v ++ vars k) ρ = ρ1) (ho : ownAt ρ1 i = some (.dct ks vs)) (he : evE F v ρ1 = some (.ok d)) (hk : evE F k ρ1 = some (.ok (.str y))) (hl : ks.length < lim)
    (h : Q (evS F t (ρ1.set i (.ow (.dct (putD y d ks vs).1 (putD y d ks vs).2))))) : Q (evS F (.seq (.put i k v) t) ρ) := by
  have e : evS F (.put i k v) ρ = some (.nx (ρ1.set i (.ow (.dct (putD y d ks vs).1 (putD y d ks vs).2)))) := by
    rw [evS]
    simp only [hv, he, go_ok, ho, hk, if_pos hl]
  rw [s_seq', e, seqK_n]
  exact h
/-- the names at a place so far -/
def atP (p : Tx) : List (Tx × List Nm) → List Nm
  | [] => []
  | q :: r => if q.1 = p then q.2 else atP p r
theorem assoc_bp (p : Tx) : ∀ acc : List (Tx × List Nm), (assocD p (acc.map (·.1)) (acc.map fun q => nt q.2)).getD (.tup []) = nt (atP p acc)
  | [] => rfl
  | q :: r => by
    simp only [List.map_cons, assocD, atP]
    by_cases h : q.1 = p
    · simp [h]
    · simp [h, assoc_bp p r]
theorem put_bp (k : Disk) (n : Nm) : ∀ acc : List (Tx × List Nm), putD (k.pl n.x) (nt (atP (k.pl n.x) acc ++ [n])) (acc.map (·.1)) (acc.map fun q => nt q.2) = ((bpl k acc n).map (·.1), (bpl k acc n).map fun q => nt q.2)
  | [] => rfl
  | q :: r => by
    simp only [List.map_cons, putD, atP, bpl]
    by_cases h : q.1 = k.pl n.x
    · simp [h]
    · simp [h, put_bp k n r]
theorem atP_le (p : Tx) {m : Nat} : ∀ acc : List (Tx × List Nm), (∀ q ∈ acc, q.2.length ≤ m) → (atP p acc).length ≤ m
  | [], _ => Nat.zero_le _
  | q :: r, h => by
    unfold atP
    split
    · exact h q List.mem_cons_self
    · exact atP_le p r fun x hx => h x (List.mem_cons_of_mem _ hx)
theorem bpl_le (k : Disk) (n : Nm) {m : Nat} : ∀ acc : List (Tx × List Nm), (∀ q ∈ acc, q.2.length ≤ m) → ∀ q ∈ bpl k acc n, q.2.length ≤ m + 1
  | [], _, q, hq => by
    simp [bpl] at hq
    rw [hq]
    simp
  | p :: r, h, q, hq => by
    unfold bpl at hq
    split at hq
    · rcases List.mem_cons.mp hq with z | z
      · have := h p List.mem_cons_self
        rw [z]
        simp
        omega
      · have := h q (List.mem_cons_of_mem _ z)
        omega
    · rcases List.mem_cons.mp hq with z | z
      · have := h p List.mem_cons_self
        rw [z]
        omega
      · exact bpl_le k n r (fun x hx => h x (List.mem_cons_of_mem _ hx)) q z
theorem bpl_len (k : Disk) (n : Nm) (acc : List (Tx × List Nm)) : (bpl k acc n).length ≤ acc.length + 1 := by
  have := congrArg List.length (bpl_fst k n acc)
  rw [List.length_map] at this
  rw [this]
  split <;> simp
theorem add_nt (a : List Nm) (n : Nm) (h : a.length < lim) : binO .add (nt a) (.tup [.str n.x]) = some (nt (a ++ [n])) := by
  have h : a.length + 1 ≤ lim := h
  simp [nt, binO, h]
def bps (k : Disk) (ns : List Nm) : List (Tx × List Nm) := ns.foldl (bpl k) []
theorem forX_pre {α : Type} {body : α → Env → Option Out} (I : List α → Env → Prop) (xs : List α) (hs : ∀ pre x suf ρ, xs = pre ++ x :: suf → I pre ρ → Nx (I (pre ++ [x])) (body x ρ)) : ∀ (suf pre : List α) (ρ : Env), xs = pre ++ suf → I pre ρ → ∃ ρ', forX body suf ρ = some (.nx ρ') ∧ I xs ρ'
  | [], pre, ρ, e, h => ⟨ρ, rfl, by rw [e, List.append_nil]; exact h⟩
  | x :: suf, pre, ρ, e, h => by
    obtain ⟨ρ1, h1, h2⟩ := hs pre x suf ρ e h
    obtain ⟨ρ2, h3, h4⟩ := forX_pre I xs hs suf (pre ++ [x]) ρ1 (by rw [e, List.append_assoc]; rfl) h2
    exact ⟨ρ2, by rw [forX, h1]; exact h3, h4⟩
/-- a loop that knows what it has seen -/
theorem wp_pre {F : Nat → List D → M D} {α : Type} {tg : Tg} {e : E} {t r : S} {ρ ρ1 : Env} {Q : Option Out → Prop} (I : List α → Env → Prop) (xs : List α) (k : α → D) (hv : frz (vars e) ρ = ρ1) (he : evI F e ρ1 = some (.ok (xs.map k))) (h0 : I [] ρ1) (hs : ∀ pre x suf ρ, xs = pre ++ x :: suf → I pre ρ → Nx (I (pre ++ [x])) (forB tg (evS F t) (k x) ρ)) (h : ∀ ρ, I xs ρ → Q (evS F r ρ)) : Q (evS F (.seq (.for_ tg e t) r) ρ) := by
  obtain ⟨ρ2, h1, h2⟩ := forX_pre (body := fun x => forB tg (evS F t) (k x)) I xs hs xs [] ρ1 rfl h0
  exact (st_for hv he h1) ▸ h ρ2 h2
theorem bps_snoc (k : Disk) (ns : List Nm) (n : Nm) : bps k (ns ++ [n]) = bpl k (bps k ns) n := by simp [bps]
theorem bps_bd0 (k : Disk) : ∀ (ns : List Nm) (acc : List (Tx × List Nm)) (m : Nat), acc.length ≤ m → (∀ q ∈ acc, q.2.length ≤ m) → (ns.foldl (bpl k) acc).length ≤ m + ns.length ∧ ∀ q ∈ ns.foldl (bpl k) acc, q.2.length ≤ m + ns.length
  | [], acc, m, h1, h2 => ⟨h1, h2⟩
  | n :: ns, acc, m, h1, h2 => by
    have z := bps_bd0 k ns (bpl k acc n) (m + 1) (Nat.le_trans (bpl_len k n _) (Nat.succ_le_succ h1)) (bpl_le k n _ h2)
    rw [List.foldl_cons, List.length_cons]
    rw [show m + (ns.length + 1) = m + 1 + ns.length by omega]
    exact z
theorem bps_bd (k : Disk) (ns : List Nm) : (bps k ns).length ≤ ns.length ∧ ∀ q ∈ bps k ns, q.2.length ≤ ns.length := by
  have z := bps_bd0 k ns [] 0 (Nat.le_refl _) fun _ h => nomatch h
  rw [Nat.zero_add] at z
  exact z
theorem sp_by_places (k : Disk) (ns : List Nm) (hn : ns.length ≤ 1000) : Fx i_by_places [k.e, nt ns] = some (.ok (bpD (bps k ns))) := by
  refine fx_ret rfl (by decide) rfl ?_
  refine wp_asg (.dct [] []) rfl (by simp) ?_
  refine wp_pre (fun pre ρ => ∃ c3 c4 : Cl, ρ = [.sh k.e, .sh (nt ns), .ow (bpD (bps k pre)), c3, c4]) ns (fun n => .str n.x) rfl (by simp [start]) ⟨.no, .no, rfl⟩ ?_ ?_
  · rintro pre n suf ρ e ⟨c3, c4, rfl⟩
    have hp : pre.length ≤ 1000 := by rw [e] at hn; simp at hn; omega
    obtain ⟨b1, b2⟩ := bps_bd k pre
    have hlim : lim = 16777216 := rfl
    have ha := atP_le (k.pl n.x) _ b2
    rw [forB_1]
    refine wp_asg (.str (k.pl n.x)) rfl (by simp) ?_
    refine wp_putD ((bps k pre).map (·.1)) ((bps k pre).map fun q => nt q.2) (nt (atP (k.pl n.x) (bps k pre) ++ [n])) (k.pl n.x) rfl rfl ?_ rfl (by rw [List.length_map]; omega) ?_
    · have e1 := assoc_bp (k.pl n.x) (bps k pre)
      have e2 := add_nt (atP (k.pl n.x) (bps k pre)) n (by omega)
      simp [bpD, rcv, mthO, e1, e2, limE]
    · rw [put_bp, ← bps_snoc]
      exact ⟨_, rfl, _, _, rfl⟩
  · rintro ρ ⟨c3, c4, rfl⟩
    refine wp_ret (bpD (bps k ns)) ?_ rfl
    rfl
theorem bps_keys (k : Disk) : ∀ (ns : List Nm) (acc : List (Tx × List Nm)) (p : Tx), p ∈ (ns.foldl (bpl k) acc).map (·.1) ↔ p ∈ acc.map (·.1) ∨ p ∈ ns.map fun n => k.pl n.x
  | [], acc, p => by simp
  | n :: ns, acc, p => by
    rw [List.foldl_cons, bps_keys k ns, bpl_fst, List.map_cons, List.mem_cons]
    split
    · rename_i h
      constructor
      · rintro (z | z)
        · exact .inl z
        · exact .inr (.inr z)
      · rintro (z | z | z)
        · exact .inl z
        · exact .inl (z ▸ h)
        · exact .inr z
    · simp only [List.mem_append, List.mem_singleton]
      constructor
      · rintro ((z | z) | z)
        · exact .inl z
        · exact .inr (.inl z)
        · exact .inr (.inr z)
      · rintro (z | z | z)
        · exact .inl (.inl z)
        · exact .inl (.inr z)
        · exact .inr z
theorem bps_cnt (k : Disk) : ∀ (ns : List Nm) (acc : List (Tx × List Nm)), (ns.foldl (bpl k) acc).length ≤ acc.length + ns.length ∧ ((ns.foldl (bpl k) acc).length = acc.length + ns.length ↔ (ns.map fun n => k.pl n.x).Nodup ∧ ∀ n ∈ ns, k.pl n.x ∉ acc.map (·.1))
  | [], acc => by simp
  | n :: ns, acc => by
    obtain ⟨h1, h2⟩ := bps_cnt k ns (bpl k acc n)
    have e := congrArg List.length (bpl_fst k n acc)
    rw [List.length_map] at e
    rw [List.foldl_cons, List.length_cons]
    have ef := bpl_fst k n acc
    split at e
    · rename_i h
      rw [if_pos h] at ef
      rw [List.length_map] at e
      refine ⟨by omega, ⟨fun z => by omega, fun z => absurd h (z.2 n List.mem_cons_self)⟩⟩
    · rename_i h
      rw [if_neg h] at ef
      rw [List.length_append, List.length_map, List.length_singleton] at e
      refine ⟨by omega, ?_⟩
      rw [e] at h2
      rw [show acc.length + (ns.length + 1) = acc.length + 1 + ns.length by omega, h2, ef, List.map_cons, List.nodup_cons]
      simp only [List.mem_append, List.mem_singleton, List.mem_cons, List.mem_map, not_or, forall_eq_or_imp]
      constructor
      · rintro ⟨a, b⟩
        refine ⟨⟨?_, a⟩, by simpa using h, fun m hm => (b m hm).1⟩
        rintro ⟨m, hm, e⟩
        exact (b m hm).2.1 e
      · rintro ⟨⟨a, b⟩, c, d⟩
        exact ⟨b, fun m hm => ⟨d m hm, fun e => a ⟨m, hm, e⟩, fun z => nomatch z⟩⟩
theorem d_notIn (x : Tx) (ks : List Tx) (vs : List D) : cmpO .notIn (.str x) (.dct ks vs) = some (!decide (x ∈ ks)) := by
  show _ = _
  simp [cmpO, inO]
theorem d_len (ks : List Tx) (vs : List D) : bltO .len [.dct ks vs] = some (.int ks.length) := rfl
theorem sp_are_safe (k : Disk) (ns : List Nm) (hn : ns.length ≤ 1000) : Fx i_are_safe [k.e, nt ns] = some (.ok (.bl (decide (Sf k ns)))) := by
  rw [fx i_are_safe _ rfl (by decide) rfl]
  have e1 := bps_keys k ns [] []
  have e2 := (bps_cnt k ns []).2
  simp only [List.map_nil, List.not_mem_nil, false_or, List.length_nil, Nat.zero_add, not_false_eq_true, implies_true, and_true] at e1 e2
  have e3 : decide (Sf k ns) = (!decide ([] ∈ (bps k ns).map (·.1)) && decide ((bps k ns).length = ns.length)) := by
    have q1 : ([] ∈ (bps k ns).map (·.1)) ↔ [] ∈ ns.map fun n => k.pl n.x := e1
    have q2 : (bps k ns).length = ns.length ↔ (ns.map fun n => k.pl n.x).Nodup := e2
    rw [Bool.eq_iff_iff]
    simp only [Sf, q1, q2, decide_eq_true_eq, Bool.and_eq_true, Bool.not_eq_true', decide_eq_false_iff_not]
    exact decide_eq_true_iff
  rw [e3]
  simp only [b_are_safe, start]
  simp [sp_by_places k ns hn, bpD, d_notIn, d_len]
  congr 1
  exact decide_eq_decide.mpr (by omega)
/-! disks -/
def ld (ks : List Disk) : D := .lst (ks.map fun k => k.e)
@[simp] theorem ld_i (ks : List Disk) : items (ld ks) = some (ks.map fun k => k.e) := rfl
@[simp] theorem ld_t (ks : List Disk) : isiO .list (ld ks) = some true := rfl
@[simp] theorem ld_l (ks : List Disk) : bltO .len [ld ks] = some (.int ks.length) := by simp [ld]
theorem sp_safe_on_all (ks : List Disk) (ns : List Nm) (hn : ns.length ≤ 1000) : Fx i_safe_on_all [ld ks, nt ns] = some (.ok (.bl (ks.all fun k => decide (Sf k ns)))) := by
  rw [fx i_safe_on_all _ rfl (by decide) rfl]
  simp [b_safe_on_all, start, sp_are_safe _ ns hn]
theorem sp_check_disks (ks : List Disk) (h1 : 1 ≤ ks.length) (h2 : ks.length ≤ 3) : Fx i_check_disks [ld ks] = some (.ok .non) := by
  rw [fx i_check_disks _ rfl (by decide) rfl]
  have q1 : (1 : Int) ≤ ks.length := by omega
  have q2 : (ks.length : Int) ≤ 3 := by omega
  have q3 : (ks.all fun _ => true) = true := List.all_eq_true.mpr fun _ _ => rfl
  simp [b_check_disks, start, q1, q2, q3]
theorem sp_check_both (ks : List Disk) (ns : List Nm) (h1 : 1 ≤ ks.length) (h2 : ks.length ≤ 3) (h3 : ns.length ≤ 8) (h4 : IncT (ns.map (·.x)) = true) : Fx i_check_both [ld ks, nt ns] = some (.ok .non) := by
  rw [fx i_check_both _ rfl (by decide) rfl]
  simp [b_check_both, start, sp_check_disks ks h1 h2, sp_check_names ns h3 h4]
/-! parts -/
def subs (found : List (List Nm)) (n : Nm) : List (List Nm) := found ++ found.map fun p => p ++ [n]
def allP (ns : List Nm) : List (List Nm) := ns.foldl subs [[]]
theorem allP_snoc (ns : List Nm) (n : Nm) : allP (ns ++ [n]) = subs (allP ns) n := by simp [allP]
theorem subs_bd0 : ∀ (ns : List Nm) (acc : List (List Nm)) (m : Nat), (∀ q ∈ acc, q.length ≤ m) → (∀ q ∈ ns.foldl subs acc, q.length ≤ m + ns.length) ∧ (ns.foldl subs acc).length = acc.length * 2 ^ ns.length
  | [], acc, m, h => ⟨h, by simp⟩
  | n :: ns, acc, m, h => by
    obtain ⟨z1, z2⟩ := subs_bd0 ns (subs acc n) (m + 1) (fun q hq => by
      rcases List.mem_append.mp hq with z | z
      · have := h q z; omega
      · obtain ⟨p, hp, rfl⟩ := List.mem_map.mp z
        have := h p hp
        simp; omega)
    rw [List.foldl_cons, List.length_cons]
    refine ⟨fun q hq => by have := z1 q hq; omega, ?_⟩
    rw [z2]
    simp [subs, Nat.pow_succ]
    rw [Nat.mul_comm (2 ^ ns.length) 2, ← Nat.mul_assoc]
    congr 1
    omega
theorem allP_bd (ns : List Nm) : (∀ q ∈ allP ns, q.length ≤ ns.length) ∧ (allP ns).length = 2 ^ ns.length := by
  have z := subs_bd0 ns [[]] 0 (by simp)
  simpa [allP] using z
theorem sortO_parts (l : List (List Nm)) (h : l.head? = some []) : sortO (l.map nt) = some (sortS (l.map nt)) := by
  have k : kindOk (.all .s) (l.map nt) = true := by
    unfold kindOk
    rw [Bool.and_eq_true]
    constructor
    · rw [List.all_eq_true]
      intro d hd
      obtain ⟨p, _, rfl⟩ := List.mem_map.mp hd
      show (p.map fun n => D.str n.x).all (okK .s) = true
      rw [List.all_eq_true]
      intro d hd
      obtain ⟨n, _, rfl⟩ := List.mem_map.mp hd
      rfl
    · cases l with
      | nil => cases h
      | cons a l =>
        cases h
        rw [Bool.or_eq_true]
        exact .inr rfl
  unfold sortO
  rw [if_pos (by rw [k]; simp)]
theorem allP_head (ns : List Nm) : (allP ns).head? = some [] := by
  have : ∀ (ns : List Nm) (acc : List (List Nm)), acc.head? = some [] → (ns.foldl subs acc).head? = some [] := by
    intro ns
    induction ns with
    | nil => exact fun acc h => h
    | cons n ns ih =>
      intro acc h
      refine ih _ ?_
      cases acc with
      | nil => cases h
      | cons a acc => exact h
  exact this ns _ rfl
theorem sp_parts (ns : List Nm) (hn : ns.length ≤ 8) : Fx i_parts [nt ns] = some (.ok (.lst (sortS ((allP ns).map nt)))) := by
  refine fx_ret rfl (by decide) rfl ?_
  refine wp_asg (.lst [.tup []]) rfl (by simp [limE]) ?_
  refine wp_pre (fun pre ρ => ∃ c2 c3 : Cl, ρ = [.sh (nt ns), .ow (.lst ((allP pre).map nt)), c2, c3]) ns (fun n => .str n.x) rfl (by simp [start]) ⟨.no, .no, rfl⟩ ?_ ?_
  · rintro pre n suf ρ e ⟨c2, c3, rfl⟩
    have hp : pre.length ≤ 8 := by rw [e] at hn; simp at hn; omega
    obtain ⟨b1, b2⟩ := allP_bd pre
    have hlim : lim = 16777216 := rfl
    have b3 : (allP pre).length ≤ 256 := by rw [b2]; exact Nat.pow_le_pow_right (by decide) hp
    rw [forB_1]
    refine wp_asg (.lst ((allP (pre ++ [n])).map nt)) rfl ?_ ⟨_, rfl, _, _, rfl⟩
    have add : ∀ p ∈ allP pre, binO .add (nt p) (.tup [.str n.x]) = some (nt (p ++ [n])) := fun p hp' => add_nt p n (by have := b1 p hp'; omega)
    have l2 : (allP pre).length + (allP pre).length ≤ 16777216 := by omega
    simp [limE]
    rw [compX_map (g := fun p => nt (p ++ [n])) (fun p hp' => by simp [add p hp'])]
    simp [allP_snoc, subs, limE, binO, l2, Function.comp_def]
  · rintro ρ ⟨c2, c3, rfl⟩
    refine wp_ret (.lst (sortS ((allP ns).map nt))) ?_ rfl
    have e := sortO_parts (allP ns) (allP_head ns)
    simp [bltO, e]
/-! sorted parts -/
def insN (x : List Nm) : List (List Nm) → List (List Nm)
  | [] => [x]
  | y :: ys => if ltS (nt y) (nt x) then y :: insN x ys else x :: y :: ys
def srtN : List (List Nm) → List (List Nm)
  | [] => []
  | x :: xs => insN x (srtN xs)
theorem insF_nt (x : List Nm) : ∀ ys : List (List Nm), insF (nt x) (ys.map nt) = (insN x ys).map nt
  | [] => rfl
  | y :: ys => by
    simp only [List.map_cons, insF, insN]
    split
    · rw [List.map_cons, insF_nt x ys]
    · rfl
theorem sortS_nt : ∀ l : List (List Nm), sortS (l.map nt) = (srtN l).map nt
  | [] => rfl
  | x :: xs => by
    simp only [List.map_cons, sortS, srtN]
    rw [sortS_nt xs, insF_nt]
theorem insN_perm (x : List Nm) : ∀ ys : List (List Nm), (insN x ys).Perm (x :: ys)
  | [] => .refl _
  | y :: ys => by
    unfold insN
    split
    · exact ((insN_perm x ys).cons y).trans (.swap _ _ _)
    · exact .refl _
theorem srtN_perm : ∀ l : List (List Nm), (srtN l).Perm l
  | [] => .refl _
  | x :: xs => (insN_perm x _).trans ((srtN_perm xs).cons x)
theorem sp_parts' (ns : List Nm) (hn : ns.length ≤ 8) : Fx i_parts [nt ns] = some (.ok (.lst ((srtN (allP ns)).map nt))) := by
  rw [sp_parts ns hn, sortS_nt]
theorem inL_nt (x : Tx) : ∀ ns : List Nm, inL (.str x) (ns.map fun n => D.str n.x) = decide (x ∈ ns.map (·.x))
  | [] => rfl
  | n :: ns => by
    have ih := inL_nt x ns
    simp only [List.map_cons, inL, ih, eqD]
    by_cases h : x = n.x
    · simp [h]
    · have h' : ¬ n.x = x := fun e => h e.symm
      simp [h, h']
theorem nt_flat (ns : List Nm) : (ns.map fun n => D.str n.x).all flat = true := by
  rw [List.all_eq_true]
  intro d hd
  obtain ⟨n, _, rfl⟩ := List.mem_map.mp hd
  rfl
@[simp] theorem nt_in (x : Tx) (ns : List Nm) : cmpO .isIn (.str x) (nt ns) = some (decide (x ∈ ns.map (·.x))) := by
  show inO (.str x) (nt ns) = _
  simp only [nt, inO, nt_flat, inL_nt]
  rfl
@[simp] theorem nt_notIn (x : Tx) (ns : List Nm) : cmpO .notIn (.str x) (nt ns) = some (!decide (x ∈ ns.map (·.x))) := by
  show (inO (.str x) (nt ns)).map (!·) = _
  have := nt_in x ns
  have e : inO (.str x) (nt ns) = some (decide (x ∈ ns.map (·.x))) := this
  rw [e]
  rfl
/-! find_renamed -/
def rst (ns part : List Nm) : List Nm := ns.filter fun n => !decide (n.x ∈ part.map (·.x))
def row (p : List Nm) : D := .tup [.int p.length, nt p]
def okR (ks : List Disk) (ns p : List Nm) : Bool := ks.all fun k => decide (Sf k (rst ns p))
theorem rst_le (ns p : List Nm) : (rst ns p).length ≤ ns.length := List.length_filter_le _ _
/-- the least row, as min finds it -/
def minN (m : List Nm) : List (List Nm) → List Nm
  | [] => m
  | x :: xs => minN (if ltS (row x) (row m) then x else m) xs
theorem minL_row : ∀ (xs : List (List Nm)) (m : List Nm), minL (row m) (xs.map row) = row (minN m xs)
  | [], m => rfl
  | x :: xs, m => by
    simp only [List.map_cons, minL, minN]
    rw [← minL_row xs]
    split <;> rfl
theorem okMin_row (l : List (List Nm)) : okMin (l.map row) = true := by
  unfold okMin
  rw [Bool.or_eq_true]
  refine .inr ?_
  rw [List.all_eq_true]
  intro d hd
  obtain ⟨p, _, rfl⟩ := List.mem_map.mp hd
  show (okK .i (.int p.length) && okK (.all .s) (nt p)) = true
  show (p.map fun n => D.str n.x).all (okK .s) = true
  rw [List.all_eq_true]
  intro d hd
  obtain ⟨n, _, rfl⟩ := List.mem_map.mp hd
  rfl
def goodP (ks : List Disk) (ns : List Nm) (l : List (List Nm)) : List (List Nm) := l.filter fun p => okR ks ns p
theorem sp_find_renamed0 (ks : List Disk) (ns : List Nm) (hn : ns.length ≤ 8) (g : List Nm) (gs : List (List Nm)) (hg : goodP ks ns (srtN (allP ns)) = g :: gs) : Fx i_find_renamed [ld ks, nt ns] = some (.ok (nt (minN g gs))) := by
  have hlim : lim = 16777216 := rfl
  have b3 : (srtN (allP ns)).length ≤ 256 := by
    rw [(srtN_perm _).length_eq, (allP_bd ns).2]
    exact Nat.pow_le_pow_right (by decide) hn
  refine fx_ret rfl (by decide) rfl ?_
  refine wp_asg (.lst []) rfl (by simp [limE]) ?_
  refine wp_pre (fun pre ρ => ∃ c3 : Cl, ρ = [.sh (ld ks), .sh (nt ns), .ow (.lst ((goodP ks ns pre).map row)), c3, .no]) (srtN (allP ns)) nt rfl (by simp [start, sp_parts' ns hn]) ⟨.no, rfl⟩ ?_ ?_
  · rintro pre p suf ρ e ⟨c3, rfl⟩
    have hp : (goodP ks ns pre).length < lim := by
      have h1 : (goodP ks ns pre).length ≤ pre.length := List.length_filter_le _ _
      have h2 := congrArg List.length e
      simp at h2
      omega
    rw [forB_1]
    have q := sp_safe_on_all ks (rst ns p) (by have := rst_le ns p; omega)
    refine wp_if (c := okR ks ns p) rfl (by
      simp [okR]
      rw [← q]
      show Fx i_safe_on_all [ld ks, .tup ((ns.filter _).map _)] = Fx i_safe_on_all [ld ks, .tup ((ns.filter _).map _)]
      congr 5
      refine congrArg (fun f => ns.filter f) ?_
      funext n
      rw [Bool.eq_iff_iff]
      simp) ?_
    cases ho : okR ks ns p with
    | true =>
      simp only [if_true]
      have hp' : (pre.filter fun p => okR ks ns p).length < 16777216 := hp
      simp [goodP, ho, limE, row, hp']
    | false =>
      simp [goodP, ho]
  · rintro ρ ⟨c3, rfl⟩
    refine wp_ret (nt (minN g gs)) ?_ rfl
    rw [hg]
    have e1 := okMin_row (g :: gs)
    have e2 := minL_row gs g
    have e1' : okMin (row g :: gs.map row) = true := e1
    have e3 : idxO (row (minN g gs)) (.int 1) = some (nt (minN g gs)) := by simp [row]
    simp [bltO, e1', e2, e3]
theorem all_mem : ∀ (ns : List Nm) (acc : List (List Nm)) (p : List Nm), p ∈ acc → p ++ ns ∈ ns.foldl subs acc
  | [], acc, p, h => by simpa using h
  | n :: ns, acc, p, h => by
    have z := all_mem ns (subs acc n) (p ++ [n]) (List.mem_append.mpr (.inr (List.mem_map.mpr ⟨p, h, rfl⟩)))
    simpa using z
theorem self_allP (ns : List Nm) : ns ∈ allP ns := by
  have := all_mem ns [[]] [] (by simp)
  simpa [allP] using this
theorem rst_self (ns : List Nm) : rst ns ns = [] := by
  unfold rst
  rw [List.filter_eq_nil_iff]
  intro n hn
  simp
  exact ⟨n, hn, rfl⟩
theorem good_ne (ks : List Disk) (ns : List Nm) : ∃ g gs, goodP ks ns (srtN (allP ns)) = g :: gs := by
  have h : ns ∈ goodP ks ns (srtN (allP ns)) := by
    refine List.mem_filter.mpr ⟨(srtN_perm _).mem_iff.mpr (self_allP ns), ?_⟩
    unfold okR
    rw [rst_self, List.all_eq_true]
    intro k _
    exact decide_eq_true ⟨by simp, by simp⟩
  cases e : goodP ks ns (srtN (allP ns)) with
  | nil => rw [e] at h; cases h
  | cons g gs => exact ⟨g, gs, rfl⟩
theorem minN_mem : ∀ (xs : List (List Nm)) (m : List Nm), minN m xs ∈ m :: xs
  | [], m => by simp [minN]
  | x :: xs, m => by
    unfold minN
    have z := minN_mem xs (if ltS (row x) (row m) = true then x else m)
    rcases List.mem_cons.mp z with z | z
    · rw [z]
      split <;> simp
    · exact List.mem_cons_of_mem _ (List.mem_cons_of_mem _ z)
theorem ex_renamed (ks : List Disk) (ns : List Nm) (hn : ns.length ≤ 8) : ∃ p : List Nm, p ∈ allP ns ∧ okR ks ns p = true ∧ Fx i_find_renamed [ld ks, nt ns] = some (.ok (nt p)) := by
  obtain ⟨g, gs, e⟩ := good_ne ks ns
  have m := minN_mem gs g
  rw [← e] at m
  obtain ⟨m1, m2⟩ := List.mem_filter.mp m
  exact ⟨minN g gs, (srtN_perm _).mem_iff.mp m1, m2, sp_find_renamed0 ks ns hn g gs e⟩
end Mn
end
section
set_option linter.all false
set_option maxRecDepth 100000
set_option maxHeartbeats 1000000
/-! Lb8: texts in order; drawn sets of names; free names. -/
namespace Mn
/-! order of texts -/
theorem ltTx_irr : ∀ x : Tx, ltTx x x = false
  | [] => rfl
  | a :: x => by simp [ltTx, ltTx_irr x]
theorem ltTx_tri : ∀ x y : Tx, x ≠ y → ltTx x y = true ∨ ltTx y x = true
  | [], [], h => absurd rfl h
  | [], _ :: _, _ => .inl rfl
  | _ :: _, [], _ => .inr rfl
  | a :: x, b :: y, h => by
    by_cases h1 : a < b
    · exact .inl (by simp [ltTx, h1])
    · by_cases h2 : b < a
      · exact .inr (by simp [ltTx, h2])
      · have e : a = b := by omega
        subst e
        rcases ltTx_tri x y (fun z => h (by rw [z])) with z | z
        · exact .inl (by simp [ltTx, z])
        · exact .inr (by simp [ltTx, z])
theorem ltTx_trans : ∀ x y z : Tx, ltTx x y = true → ltTx y z = true → ltTx x z = true
  | _, _, [], _, h => by simp [ltTx] at h
  | _, [], _ :: _, h, _ => by simp [ltTx] at h
  | [], _ :: _, _ :: _, _, _ => rfl
  | a :: x, b :: y, c :: z, h1, h2 => by
    simp only [ltTx] at h1 h2 ⊢
    by_cases ab : a < b
    · by_cases bc : b < c
      · rw [if_pos (by omega)]
      · by_cases cb : c < b
        · rw [if_neg bc, if_pos cb] at h2; cases h2
        · rw [if_pos (by omega)]
    · by_cases ba : b < a
      · rw [if_neg ab, if_pos ba] at h1; cases h1
      · rw [if_neg ab, if_neg ba] at h1
        by_cases bc : b < c
        · rw [if_pos (by omega)]
        · by_cases cb : c < b
          · rw [if_neg bc, if_pos cb] at h2; cases h2
          · rw [if_neg bc, if_neg cb] at h2
            rw [if_neg (by omega), if_neg (by omega)]
            exact ltTx_trans x y z h1 h2
theorem incT_pw : ∀ {l : List Tx}, IncT l = true → l.Pairwise fun x y => ltTx x y = true
  | [], _ => List.Pairwise.nil
  | [a], _ => List.pairwise_singleton _ _
  | a :: b :: r, h => by
    have h : (ltTx a b && IncT (b :: r)) = true := h
    rw [Bool.and_eq_true] at h
    have ih := incT_pw h.2
    refine List.pairwise_cons.mpr ⟨fun z hz => ?_, ih⟩
    rcases List.mem_cons.mp hz with e | hz
    · rw [e]; exact h.1
    · exact ltTx_trans _ _ _ h.1 ((List.pairwise_cons.mp ih).1 z hz)
theorem pw_incT : ∀ {l : List Tx}, (l.Pairwise fun x y => ltTx x y = true) → IncT l = true
  | [], _ => rfl
  | [a], _ => rfl
  | a :: b :: r, h => by
    have h' := List.pairwise_cons.mp h
    show (ltTx a b && IncT (b :: r)) = true
    rw [h'.1 b List.mem_cons_self, pw_incT h'.2]
    rfl
theorem ltTx_ne {x y : Tx} (h : ltTx x y = true) : x ≠ y := fun e => by rw [e, ltTx_irr] at h; cases h
theorem incT_nodup {l : List Tx} (h : IncT l = true) : l.Nodup := (incT_pw h).imp fun h => ltTx_ne h
/-! sorted texts -/
def insT (x : Tx) : List Tx → List Tx
  | [] => [x]
  | y :: ys => if ltTx y x then y :: insT x ys else x :: y :: ys
def srtT : List Tx → List Tx
  | [] => []
  | x :: xs => insT x (srtT xs)
theorem insF_tx (x : Tx) : ∀ ys : List Tx, insF (.str x) (ys.map D.str) = (insT x ys).map D.str
  | [] => rfl
  | y :: ys => by
    simp only [List.map_cons, insF, insT, ltS]
    by_cases h : ltTx y x = true
    · simp [h, insF_tx x ys]
    · simp [h]
theorem sortS_tx : ∀ l : List Tx, sortS (l.map D.str) = (srtT l).map D.str
  | [] => rfl
  | x :: xs => by
    simp only [List.map_cons, sortS, srtT]
    rw [sortS_tx xs, insF_tx]
theorem insT_perm (x : Tx) : ∀ ys : List Tx, (insT x ys).Perm (x :: ys)
  | [] => .refl _
  | y :: ys => by
    unfold insT
    split
    · exact ((insT_perm x ys).cons y).trans (.swap _ _ _)
    · exact .refl _
theorem srtT_perm : ∀ l : List Tx, (srtT l).Perm l
  | [] => .refl _
  | x :: xs => (insT_perm x _).trans ((srtT_perm xs).cons x)
theorem insT_pw (x : Tx) : ∀ ys : List Tx, x ∉ ys → (ys.Pairwise fun x y => ltTx x y = true) → (insT x ys).Pairwise fun x y => ltTx x y = true
  | [], _, _ => List.pairwise_singleton _ _
  | y :: ys, hx, h => by
    have h' := List.pairwise_cons.mp h
    unfold insT
    split
    · rename_i hl
      refine List.pairwise_cons.mpr ⟨fun z hz => ?_, insT_pw x ys (fun z => hx (List.mem_cons_of_mem _ z)) h'.2⟩
      rcases List.mem_cons.mp ((insT_perm x ys).mem_iff.mp hz) with e | hz
      · rw [e]; exact hl
      · exact h'.1 z hz
    · rename_i hl
      have ne : x ≠ y := fun e => hx (by rw [e]; exact List.mem_cons_self)
      have lt : ltTx x y = true := by
        rcases ltTx_tri x y ne with z | z
        · exact z
        · exact absurd z hl
      refine List.pairwise_cons.mpr ⟨fun z hz => ?_, h⟩
      rcases List.mem_cons.mp hz with e | hz
      · rw [e]; exact lt
      · exact ltTx_trans _ _ _ lt (h'.1 z hz)
theorem srtT_pw : ∀ l : List Tx, l.Nodup → (srtT l).Pairwise fun x y => ltTx x y = true
  | [], _ => List.Pairwise.nil
  | x :: xs, h => by
    have h' := List.nodup_cons.mp h
    exact insT_pw x _ (fun z => h'.1 ((srtT_perm xs).mem_iff.mp z)) (srtT_pw xs h'.2)
theorem dd_mem (x : Tx) : ∀ ts : List Tx, x ∈ dedup ts ↔ x ∈ ts
  | [] => by simp [dedup]
  | t :: ts => by
    simp only [dedup, List.mem_cons, List.mem_filter, dd_mem x ts, bne_iff_ne, ne_eq]
    by_cases h : x = t <;> simp [h]
theorem dd_nodup : ∀ ts : List Tx, (dedup ts).Nodup
  | [] => List.nodup_nil
  | t :: ts => by
    simp only [dedup]
    refine List.nodup_cons.mpr ⟨by simp, (dd_nodup ts).filter _⟩
theorem dd_len : ∀ ts : List Tx, (dedup ts).length ≤ ts.length
  | [] => Nat.le_refl _
  | t :: ts => by
    simp only [dedup, List.length_cons]
    have := List.length_filter_le (fun x => x != t) (dedup ts)
    have := dd_len ts
    omega
/-- a list of texts that are names -/
theorem to_nm : ∀ l : List Tx, (∀ x ∈ l, isN x = true) → ∃ ns : List Nm, ns.map (·.x) = l
  | [], _ => ⟨[], rfl⟩
  | x :: l, h => by
    obtain ⟨ns, e⟩ := to_nm l fun y hy => h y (List.mem_cons_of_mem _ hy)
    exact ⟨⟨x, h x List.mem_cons_self⟩ :: ns, by simp [e]⟩
theorem nt_map (ns : List Nm) : (ns.map (·.x)).map D.str = ns.map fun n => D.str n.x := by rw [List.map_map]; rfl
theorem sortSet_tx (l : List Tx) (h : l.length < 4000) : vwO .sortSet (.lst (l.map D.str)) = some (.lst ((srtT (dedup l)).map D.str)) := by
  show (match strL (l.map D.str) with
    | some ts => if ts.length < 4000 then some (D.lst (sortS ((dedup ts).map .str))) else none
    | none => none) = _
  rw [strL_str]
  simp only [h, if_true, sortS_tx]
theorem lenSet_tx (l : List Tx) (h : l.length < 4000) : vwO .lenSet (.lst (l.map D.str)) = some (.int (dedup l).length) := by
  show (match strL (l.map D.str) with
    | some ts => if ts.length < 4000 then some (D.int (dedup ts).length) else none
    | none => match bools (l.map D.str) with
      | some bs => if bs.length < 4000 then some (.int (b2i (bs.contains true) + b2i (bs.contains false))) else none
      | none => none) = _
  rw [strL_str]
  simp only [h, if_true]
theorem sp_law_names (s : Scr) (at' m : Int) (h0 : 0 ≤ at') (hat : at' < 80000) (h1 : 0 ≤ m) (h2 : m ≤ 8) : ∃ ns : List Nm, (ns.length : Int) ≤ m ∧ IncT (ns.map (·.x)) = true ∧ (∀ n ∈ ns, n.x.length ≤ 4 ∧ ∀ c ∈ n.x, c ∈ NSG) ∧ Fx i__law_names [.scr s.ns, .int at', .int m] = some (.ok (nt ns)) := by
  have hv := pk_lt s at' (m + 1) (by omega) (by omega) (by omega)
  have ev := sp_pick s at' (m + 1) (by omega) (by omega) (by omega)
  generalize pk s at' (m + 1) = v at hv ev
  let g : Nat → Nm := fun i => nmF s (at' + 1 + 6 * i) 4
  have hg : ∀ i : Nat, i < 8 → NmP s (at' + 1 + 6 * i) 4 (g i) := fun i hi => nmF_spec s (at' + 1 + 6 * i) 4 (by omega) (by omega) (by omega) (by omega)
  let l : List Tx := (List.range v).map fun i => (g i).x
  have hl : l.length = v := by simp [l]
  have hm : ∀ x ∈ srtT (dedup l), x ∈ l := fun x hx => (dd_mem x l).mp ((srtT_perm _).mem_iff.mp hx)
  have hq : ∀ x ∈ l, ∃ i, i < 8 ∧ x = (g i).x := fun x hx => by
    obtain ⟨i, hi, e⟩ := List.mem_map.mp hx
    have := List.mem_range.mp hi
    exact ⟨i, by omega, e.symm⟩
  obtain ⟨ns, ens⟩ := to_nm (srtT (dedup l)) fun x hx => by
    obtain ⟨i, _, e⟩ := hq x (hm x hx)
    rw [e]; exact (g i).ok
  refine ⟨ns, ?_, ?_, ?_, ?_⟩
  · have e := congrArg List.length ens
    rw [List.length_map, (srtT_perm _).length_eq] at e
    have := dd_len l
    omega
  · rw [ens]; exact pw_incT (srtT_pw _ (dd_nodup _))
  · intro n hn
    have : n.x ∈ ns.map (·.x) := List.mem_map.mpr ⟨n, hn, rfl⟩
    rw [ens] at this
    obtain ⟨i, hi, e⟩ := hq _ (hm _ this)
    obtain ⟨a, b, _⟩ := hg i hi
    rw [e]
    exact ⟨by omega, b⟩
  · have hr := rangeO_nat v (by omega)
    have ec : compX (fun x : Nat => tkC (some (D.bl true)) (nx (Fx i__law_name_k01 [.scr s.ns, .int (at' + 1 + 6 * x), .int 4]))) (List.range v) = some ((List.range v).map fun i => D.str (g i).x) := compX_map fun i hi => by
      have hi := List.mem_range.mp hi
      rw [(hg i (by omega)).2.2]
      rfl
    have es := sortSet_tx l (by omega)
    have el : l.map D.str = (List.range v).map fun i => D.str (g i).x := by simp [l, Function.comp_def]
    rw [el] at es
    rw [fx i__law_names _ rfl (by decide) rfl]
    simp [b__law_names, start, ev, hr, ec, es]
    unfold nt
    rw [← ens, nt_map]
/-! drawn disks -/
def DskQ (k : Disk) : Prop := (∀ c ∈ k.d, c ∈ ([32, 45, 46, 97] : List Nat)) ∧ (∀ p ∈ k.ts, p.1 ∈ FEW ∧ p.2 ∈ FEW)
theorem sp_law_disks (s : Scr) (at' : Int) (h0 : 0 ≤ at') (hat : at' < 80000) : ∃ ks : List Disk, 1 ≤ ks.length ∧ ks.length ≤ 3 ∧ (∀ k ∈ ks, DskQ k) ∧ Fx i__law_disks_k33 [.scr s.ns, .int at'] = some (.ok (ld ks)) := by
  have hv := pk_lt s (at' + 95) 3 (by omega) (by omega) (by omega)
  have ev := sp_pick s (at' + 95) 3 (by omega) (by omega) (by omega)
  generalize pk s (at' + 95) 3 = v at hv ev
  have hd : ∀ i : Nat, i < 3 → DskP s (at' + 30 * i) (dkF s (at' + 30 * i)) := fun i hi => dkF_spec s _ (by omega) (by omega)
  refine ⟨(List.range (1 + v)).map fun (i : Nat) => dkF s (at' + 30 * i), by simp, by simp; omega, fun k hk => ?_, ?_⟩
  · obtain ⟨i, hi, e⟩ := List.mem_map.mp hk
    have := List.mem_range.mp hi
    obtain ⟨a, b, _⟩ := hd i (by omega)
    rw [← e]
    exact ⟨a, b⟩
  · have hr : rangeO [.int (1 + (v : Int))] = some ((List.range (1 + v)).map fun (i : Nat) => D.int i) := by
      have := rangeO_nat (1 + v) (by omega)
      rwa [Int.natCast_add] at this
    have ec : compX (fun x : Nat => tkC (some (D.bl true)) (nx (Fx i__law_disk_k01 [.scr s.ns, .int (at' + 30 * x)]))) (List.range (1 + v)) = some ((List.range (1 + v)).map fun (i : Nat) => (dkF s (at' + 30 * i)).e) := compX_map fun i hi => by
      have hi := List.mem_range.mp hi
      rw [(hd i (by omega)).2.2]
      rfl
    rw [fx i__law_disks_k33 _ rfl (by decide) rfl]
    simp [b__law_disks_k33, start, ev, hr, ec, ld, Function.comp_def]
/-! free names -/
def freeT (ks : List Disk) (ns : List Nm) (x : Tx) : Bool := !decide (x ∈ ns.map (·.x)) && (ks.all fun k => !decide (k.pl x = [])) && ks.all fun k => ns.all fun n => !k.co x n.x
/-! comprehensions of two clauses -/
def tk2 (o : Option Env) (fc : Env → M D) (fi : Env → M (List D)) (g : Env → D → Option (List D)) : Option (List D) := match o with
  | none => none
  | some ρ' => match nx (fc ρ') with
    | some (.bl true) => (match nx (fi ρ') with
      | none => none
      | some ys => compF (g ρ') ys)
    | some (.bl false) => some []
    | _ => none
def tk2C (c : Option D) (ys : Option (List D)) (g : D → Option (List D)) : Option (List D) := match c with
  | some (.bl true) => (match ys with
    | none => none
    | some ys => compF g ys)
  | some (.bl false) => some []
  | _ => none
def lstK : Option (List D) → M D
  | none => none
  | some zs => if zs.length ≤ lim then rt (.lst zs) else none
@[simp] theorem v_comp2' (F : Nat → List D → M D) (ρ : Env) (own own2 : List Nat) (tg : Tg) (it c : E) (tg2 : Tg) (it2 c2 e : E) : evE F (.comp2 own own2 tg it c tg2 it2 c2 e) ρ = bd (evI F it ρ) fun xs => lstK (compF (fun x => tk2 (bindTg tg x (wipeE ρ own)) (evE F c) (evI F it2) fun ρ' => turnK own2 tg2 (evE F c2) (evE F e) ρ') xs) := by
  rw [v_comp2]
  rfl
@[simp] theorem tk2_s (ρ : Env) (fc : Env → M D) (fi : Env → M (List D)) (g : Env → D → Option (List D)) : tk2 (some ρ) fc fi g = tk2C (nx (fc ρ)) (nx (fi ρ)) (g ρ) := rfl
@[simp] theorem tk2C_t (ys : List D) (g : D → Option (List D)) : tk2C (some (.bl true)) (some ys) g = compF g ys := rfl
@[simp] theorem tk2C_f (ys : Option (List D)) (g : D → Option (List D)) : tk2C (some (.bl false)) ys g = some [] := by cases ys <;> rfl
@[simp] theorem lstK_s (zs : List D) : lstK (some zs) = if zs.length ≤ lim then rt (.lst zs) else none := rfl
@[simp low] theorem compX_some {α : Type} (g : α → List D) (xs : List α) : compX (fun x => some (g x)) xs = some (xs.flatMap g) := compX_of fun _ _ => rfl
theorem anyB_app : ∀ x y : List D, anyB (x ++ y) = (anyB x).bind fun a => (anyB y).map fun b => a || b
  | [], y => by simp [anyB]
  | d :: x, y => by
    cases d with
    | bl b =>
      simp only [List.cons_append, anyB, anyB_app x y]
      cases anyB x <;> cases anyB y <;> simp [Bool.or_assoc]
    | _ => simp [anyB]
theorem anyB_fm {α β : Type} (p : α → β → Bool) (ys : List β) : ∀ xs : List α, anyB (xs.flatMap fun x => ys.map fun y => D.bl (p x y)) = some (xs.any fun x => ys.any (p x))
  | [] => rfl
  | x :: xs => by
    rw [List.flatMap_cons, anyB_app, anyB_fm p ys xs, anyB_m]
    rfl
@[simp] theorem vars_comp2 (o o2 : List Nat) (t : Tg) (a b : E) (t2 : Tg) (a2 b2 c : E) : vars (.comp2 o o2 t a b t2 a2 b2 c) = vars a ++ vars b ++ vars a2 ++ vars b2 ++ vars c := rfl
@[simp] theorem fr_comp2 (o o2 : List Nat) (t : Tg) (a b : E) (t2 : Tg) (a2 b2 c : E) : fresh (.comp2 o o2 t a b t2 a2 b2 c) = true := rfl
theorem fm_len {α β γ : Type} (f : α → β → γ) (ys : List β) (xs : List α) : (xs.flatMap fun x => ys.map (f x)).length = xs.length * ys.length := by
  induction xs with
  | nil => simp
  | cons x xs ih => simp [ih, Nat.succ_mul, Nat.add_comm]
theorem sp_is_free (ks : List Disk) (ns : List Nm) (x : Tx) (hx : x.length ≤ 1000) (hk : ks.length ≤ 3) (hn : ns.length ≤ 1000) : Fx i_is_free [ld ks, nt ns, .str x] = some (.ok (.bl (freeT ks ns x))) := by
  rw [fx i_is_free _ rfl (by decide) rfl]
  have e1 : ∀ k : Disk, Fx i_place_of [k.e, .str x] = some (.ok (.str (k.pl x))) := fun k => sp_place_of' k x hx
  have e2 : ∀ (k : Disk) (n : Nm), Fx i_do_collide [k.e, .str x, .str n.x] = some (.ok (.bl (k.co x n.x))) := fun k n => sp_do_collide' k x n.x hx (by have := n.len; omega)
  have l1 : ks.length * ns.length ≤ 16777216 := Nat.le_trans (Nat.mul_le_mul hk hn) (by decide)
  have l2 := fm_len (fun (k : Disk) (n : Nm) => D.bl (k.co x n.x)) ns ks
  have a1 := anyB_fm (fun (k : Disk) (n : Nm) => k.co x n.x) ns ks
  have q : (D.bl (freeT ks ns x)) = .bl (if (decide (x ∈ ns.map (·.x)) || ks.any fun k => decide (k.pl x = [])) then false else !(ks.any fun k => ns.any fun n => k.co x n.x)) := by
    congr 1
    unfold freeT
    rw [Bool.eq_iff_iff]
    cases decide (x ∈ ns.map (·.x)) with
    | true => simp
    | false =>
      cases h : ks.any fun k => decide (k.pl x = []) with
      | true =>
        simp at h ⊢
        obtain ⟨k, hk, e⟩ := h
        exact fun z => absurd e (z k hk)
      | false =>
        simp at h ⊢
        exact fun _ => h
  rw [q]
  have c1 : evE Fx (.or_ (.cmp .isIn (.bor 2) (.bor 1)) (.blt .any (.cons (.comp [3] (.one 3) (.ival (.bor 0)) (.cst (.bl true)) (.cmp .eq (.call 11 (.cons (.var 3) (.cons (.var 2) .nil))) (.cst (.str [])))) .nil))) [.sh (ld ks), .sh (nt ns), .sh (.str x), .no, .no] = some (.ok (.bl (decide (x ∈ ns.map (·.x)) || ks.any fun k => decide (k.pl x = [])))) := by
    simp [e1]
  have main : Rt (.bl (if (decide (x ∈ ns.map (·.x)) || ks.any fun k => decide (k.pl x = [])) then false else !(ks.any fun k => ns.any fun n => k.co x n.x))) (evS Fx b_is_free (start 5 [ld ks, nt ns, .str x])) := by
    refine wp_if rfl c1 ?_
    cases (decide (x ∈ ns.map (·.x)) || ks.any fun k => decide (k.pl x = [])) with
    | true => simp
    | false => simp [start, e2, l2, limE, l1, a1]
  rw [show evS Fx b_is_free (start 5 [ld ks, nt ns, .str x]) = _ from main]
  rfl
/-! loops that may end early -/
theorem forX_chk {α : Type} {body : α → Env → Option Out} (I : Env → Prop) (p : α → Bool) (d : D) : ∀ (xs : List α) (ρ : Env), (∀ x ρ, x ∈ xs → I ρ → (p x = true → Nx I (body x ρ)) ∧ (p x = false → body x ρ = some (.ret d))) → I ρ → (xs.all p = true → ∃ ρ', forX body xs ρ = some (.nx ρ') ∧ I ρ') ∧ (xs.all p = false → forX body xs ρ = some (.ret d))
  | [], ρ, _, h => ⟨fun _ => ⟨ρ, rfl, h⟩, fun z => by simp at z⟩
  | x :: xs, ρ, hs, h => by
    obtain ⟨h1, h2⟩ := hs x ρ List.mem_cons_self h
    cases hp : p x with
    | true =>
      obtain ⟨ρ1, e1, i1⟩ := h1 hp
      have ih := forX_chk I p d xs ρ1 (fun y ρ hy => hs y ρ (List.mem_cons_of_mem _ hy)) i1
      rw [List.all_cons, hp, Bool.true_and, forX, e1]
      exact ih
    | false =>
      rw [List.all_cons, hp, Bool.false_and, forX, h2 hp]
      exact ⟨fun z => by simp at z, fun _ => rfl⟩
theorem wp_chk {F : Nat → List D → M D} {α : Type} {tg : Tg} {e : E} {t r : S} {ρ ρ1 : Env} {Q : Option Out → Prop} (I : Env → Prop) (p : α → Bool) (d : D) (xs : List α) (k : α → D) (hv : frz (vars e) ρ = ρ1) (he : evI F e ρ1 = some (.ok (xs.map k))) (h0 : I ρ1) (hs : ∀ x ρ, x ∈ xs → I ρ → (p x = true → Nx I (forB tg (evS F t) (k x) ρ)) ∧ (p x = false → forB tg (evS F t) (k x) ρ = some (.ret d))) (hT : xs.all p = true → ∀ ρ, I ρ → Q (evS F r ρ)) (hF : xs.all p = false → Q (some (.ret d))) : Q (evS F (.seq (.for_ tg e t) r) ρ) := by
  obtain ⟨h1, h2⟩ := forX_chk (body := fun x => forB tg (evS F t) (k x)) I p d xs ρ1 hs h0
  cases h : xs.all p with
  | true =>
    obtain ⟨ρ2, e2, i2⟩ := h1 h
    exact (st_for hv he e2) ▸ hT h ρ2 i2
  | false =>
    have e2 := h2 h
    rw [s_seq', s_for', hv, he, go_ok, forF_map, e2, seqK_r]
    exact hF h
/-! the first free sign -/
def frees (ks : List Disk) (ns : List Nm) : List Nat := g_SIGNS.filter fun c => freeT ks ns [c]
theorem sp_find_new (ks : List Disk) (ns : List Nm) (hk : ks.length ≤ 3) (hn : ns.length ≤ 1000) (c : Nat) (r : List Nat) (h : frees ks ns = c :: r) : Fx i_find_new [ld ks, nt ns] = some (.ok (.str [c])) := by
  have e : ∀ c : Nat, Fx i_is_free [ld ks, nt ns, .str [c]] = some (.ok (.bl (freeT ks ns [c]))) := fun c => sp_is_free ks ns [c] (by simp) hk hn
  rw [fx i_find_new _ rfl (by decide) rfl]
  have h' : (g_SIGNS.filter fun c => freeT ks ns [c]) = c :: r := h
  simp [b_find_new, start, e, h']
theorem sign_nm (c : Nat) (h : c ∈ g_SIGNS) : isN [c] = true := by simp [isN, h]
theorem sp_law_free (ks : List Disk) (ns : List Nm) (x : Nm) : Fx i__law_free [ld ks, nt ns, .str x.x] = some (.ok (.bl (freeT ks ns x.x))) := by
  refine fx_ret rfl (by decide) rfl ?_
  refine wp_if (c := decide (x.x ∈ ns.map (·.x))) rfl (by simp [start]) ?_
  cases h : decide (x.x ∈ ns.map (·.x)) with
  | true =>
    have : freeT ks ns x.x = false := by unfold freeT; rw [h]; rfl
    simp [this]
  | false =>
    simp only [Bool.false_eq_true, if_false, s_skip', seqK_n]
    refine wp_chk (fun ρ => ∃ c3 c4 : Cl, ρ = [.sh (ld ks), .sh (nt ns), .sh (.str x.x), c3, c4, .no]) (fun k : Disk => !decide (k.pl x.x = []) && ns.all fun n => !k.co x.x n.x) (.bl false) ks (fun k => k.e) rfl (by simp [start]) ⟨.no, .no, rfl⟩ ?_ ?_ ?_
    · rintro k ρ hk ⟨c3, c4, rfl⟩
      rw [forB_1]
      have e1 := in_strL (k.pl x.x) (fun n : Nm => k.pl n.x) ns
      have main : evS Fx (bodyOf (nextOf b__law_free)) [.sh (ld ks), .sh (nt ns), .sh (.str x.x), .sh k.e, c4, .no] = if (!decide (k.pl x.x = []) && ns.all fun n => !k.co x.x n.x) then some (.nx [.sh (ld ks), .sh (nt ns), .sh (.str x.x), .sh k.e, .sh (.str (k.pl x.x)), .no]) else some (.ret (.bl false)) := by
        have q : (!decide (k.pl x.x = []) && ns.all fun n => !k.co x.x n.x) = !(decide (k.pl x.x = []) || decide (k.pl x.x ∈ ns.map fun n => k.pl n.x)) := by
          rw [Bool.eq_iff_iff]
          simp [Disk.co]
          intro _
          exact ⟨fun z n hn e => z n hn e.symm, fun z n hn e => z n hn e.symm⟩
        rw [q]
        refine Eq.trans (st_asg (d := .str (k.pl x.x)) rfl (by simp)) (Eq.trans (st_if (c := decide (k.pl x.x = []) || decide (k.pl x.x ∈ ns.map fun n => k.pl n.x)) rfl (by
          simp only [v_or, v_cmp, v_bor, v_cst, v_comp, v_ival, v_call, v_cons, v_nil, v_var]
          simp [e1])) ?_)
        cases (decide (k.pl x.x = []) || decide (k.pl x.x ∈ ns.map fun n => k.pl n.x)) <;> simp
      constructor
      · intro hp
        rw [if_pos hp] at main
        exact ⟨_, main, _, _, rfl⟩
      · intro hp
        rw [hp] at main
        exact main
    · rintro hA ρ ⟨c3, c4, rfl⟩
      have : freeT ks ns x.x = true := by
        unfold freeT
        rw [h]
        simp at hA ⊢
        exact ⟨fun k hk => (hA k hk).1, fun k hk => (hA k hk).2⟩
      simp [this]
    · intro hA
      have : freeT ks ns x.x = false := by
        unfold freeT
        rw [h]
        cases hc : (!false && (ks.all fun k => !decide (k.pl x.x = [])) && ks.all fun k => ns.all fun n => !k.co x.x n.x) with
        | false => rfl
        | true =>
          rw [← Bool.not_eq_true] at hA
          refine absurd ?_ hA
          simp at hc ⊢
          exact fun k hk => ⟨hc.1 k hk, hc.2 k hk⟩
      simp [this]
theorem sp_law_first (ks : List Disk) (ns : List Nm) (c : Nat) (r : List Nat) (h : frees ks ns = c :: r) : Fx i__law_first [ld ks, nt ns] = some (.ok (.str [c])) := by
  have e : compX (fun x : Nat => tkC (nx (Fx i__law_free [ld ks, nt ns, .str [x]])) (some (.str [x]))) g_SIGNS = some ((g_SIGNS.filter fun c => freeT ks ns [c]).map fun c => D.str [c]) := compX_fmap fun c hc => by
    rw [sp_law_free ks ns ⟨[c], sign_nm c hc⟩]
    simp
  rw [fx i__law_first _ rfl (by decide) rfl]
  have h' : (g_SIGNS.filter fun c => freeT ks ns [c]) = c :: r := h
  simp [b__law_first, start, e, h']
end Mn
end
section
set_option linter.all false
set_option maxRecDepth 100000
set_option maxHeartbeats 1000000
/-! Lb9: there is a free sign; renaming. -/
namespace Mn
theorem nd_sub_len {α : Type} [BEq α] [LawfulBEq α] : ∀ (l m : List α), l.Nodup → (∀ c ∈ l, c ∈ m) → l.length ≤ m.length
  | [], m, _, _ => Nat.zero_le _
  | a :: l, m, h, hs => by
    have h' := List.nodup_cons.mp h
    have ha := hs a List.mem_cons_self
    have z := nd_sub_len l (m.erase a) h'.2 fun c hc => by
      have ne : c ≠ a := fun e => h'.1 (e ▸ hc)
      exact (List.mem_erase_of_ne ne).mpr (hs c (List.mem_cons_of_mem _ hc))
    rw [List.length_erase_of_mem ha] at z
    have : 0 < m.length := List.length_pos_of_mem ha
    rw [List.length_cons]
    omega
theorem pigeon (l m : List Nat) (h : l.Nodup) (hl : m.length < l.length) : ∃ c ∈ l, c ∉ m := by
  rcases Classical.em (∃ c ∈ l, c ∉ m) with z | z
  · exact z
  · exfalso
    have := nd_sub_len l m h fun c hc => by
      rcases Classical.em (c ∈ m) with q | q
      · exact q
      · exact absurd ⟨c, hc, q⟩ z
    omega
def DIG : List Nat := [48, 49, 50, 51, 52, 53, 54, 55, 56, 57]
theorem dig_few : ∀ c ∈ DIG, c ∉ FEW ∧ c ∉ ([32, 45, 46, 97] : List Nat) ∧ c ∈ g_SIGNS := by decide
theorem cap_dig : ∀ a ∈ g_CAPITAL, a + 32 ∉ DIG := by decide
theorem fnd_mem {ts : List (Nat × Nat)} {c b : Nat} (h : b ∈ fnd ts c) : (c, b) ∈ ts := by
  unfold fnd at h
  obtain ⟨p, hp, e⟩ := List.mem_map.mp h
  obtain ⟨h1, h2⟩ := List.mem_filter.mp hp
  have : p.1 = c := of_decide_eq_true h2
  rw [← this, ← e]
  exact h1
theorem img_dig {k : Disk} (hq : DskQ k) {c : Nat} (hc : c ∈ DIG) (a : Nat) (h : k.img a = c) : a = c := by
  unfold Disk.img imgR at h
  obtain ⟨h1, h2, h3⟩ := dig_few c hc
  cases e : fnd k.ts (low k.f a) with
  | cons b r =>
    rw [e] at h
    have hb : b = c := h
    have m : b ∈ fnd k.ts (low k.f a) := by rw [e]; exact List.mem_cons_self
    exact absurd (hb ▸ (hq.2 _ (fnd_mem m)).2) h1
  | nil =>
    rw [e] at h
    have hb : low k.f a = c := h
    unfold low at hb
    split at hb
    · rename_i z
      exact absurd (hb ▸ hc) (cap_dig a z.2)
    · exact hb
theorem dig_img {k : Disk} (hq : DskQ k) {c : Nat} (hc : c ∈ DIG) : k.img c = c := by
  obtain ⟨h1, h2, h3⟩ := dig_few c hc
  have hl : low k.f c = c := by
    unfold low
    rw [if_neg fun z => ?_]
    have : ∀ c ∈ DIG, c ∉ g_CAPITAL := by decide
    exact this c hc z.2
  unfold Disk.img imgR
  rw [hl]
  cases e : fnd k.ts c with
  | nil => rfl
  | cons b r =>
    have m : b ∈ fnd k.ts c := by rw [e]; exact List.mem_cons_self
    exact absurd (hq.2 _ (fnd_mem m)).1 h1
theorem dig_pl {k : Disk} (hq : DskQ k) {c : Nat} (hc : c ∈ DIG) : k.pl [c] = [c] := by
  have hl := k.l1
  have nd : c ∉ k.d := fun z => (dig_few c hc).2.1 (hq.1 c z)
  unfold Disk.pl
  rw [List.map_cons, List.map_nil, dig_img hq hc, List.take_of_length_le (by simpa using hl)]
  have := strip_snoc k.d [] c
  rw [if_neg nd] at this
  exact this
theorem co_dig {k : Disk} (hq : DskQ k) {c : Nat} (hc : c ∈ DIG) (x : Tx) (h : k.pl x = [c]) : x.head? = some c := by
  obtain ⟨y, e, _⟩ := strip_pre k.d ((x.map k.img).take k.l)
  have h : strip k.d ((x.map k.img).take k.l) = [c] := h
  rw [h] at e
  cases x with
  | nil => simp at e
  | cons a r =>
    have hl := k.l1
    cases hk : k.l with
    | zero => omega
    | succ m =>
      rw [hk] at e
      simp at e
      rw [img_dig hq hc a e.1]
      rfl
theorem free_ex (ks : List Disk) (hq : ∀ k ∈ ks, DskQ k) (ns : List Nm) (hn : ns.length ≤ 9) : ∃ c r, frees ks ns = c :: r := by
  obtain ⟨c, hc, hm⟩ := pigeon DIG (ns.map fun n => n.x.headD 0) (by decide) (by simp [DIG]; omega)
  have hd : ∀ n ∈ ns, n.x.head? ≠ some c := fun n hn e => hm (List.mem_map.mpr ⟨n, hn, by
    cases hx : n.x with
    | nil => rw [hx] at e; cases e
    | cons a r => rw [hx] at e; simpa using e⟩)
  have hf : freeT ks ns [c] = true := by
    unfold freeT
    simp only [Bool.and_eq_true, Bool.not_eq_true', decide_eq_false_iff_not, List.all_eq_true]
    refine ⟨⟨fun z => ?_, fun k hk => ?_⟩, fun k hk n hn => ?_⟩
    · obtain ⟨n, hn, e⟩ := List.mem_map.mp z
      exact hd n hn (by rw [e]; rfl)
    · rw [dig_pl (hq k hk) hc]; simp
    · unfold Disk.co
      rw [dig_pl (hq k hk) hc]
      exact decide_eq_false fun e => hd n hn (co_dig (hq k hk) hc n.x e.symm)
  have hm : c ∈ frees ks ns := List.mem_filter.mpr ⟨(dig_few c hc).2.2, hf⟩
  cases e : frees ks ns with
  | nil => rw [e] at hm; cases hm
  | cons c r => exact ⟨c, r, rfl⟩
/-! new names, one after the other -/
def nfN (ks : List Disk) (ns : List Nm) : Nm := if h : isN [(frees ks ns).headD 97] = true then ⟨_, h⟩ else ⟨[97], by decide⟩
theorem nfN_spec {ks : List Disk} {ns : List Nm} {c : Nat} {r : List Nat} (h : frees ks ns = c :: r) : (nfN ks ns).x = [c] ∧ freeT ks ns [c] = true := by
  have hm : c ∈ frees ks ns := by rw [h]; exact List.mem_cons_self
  obtain ⟨h1, h2⟩ := List.mem_filter.mp hm
  have e : (frees ks ns).headD 97 = c := by rw [h]; rfl
  unfold nfN
  simp only [e]
  rw [dif_pos (sign_nm c h1)]
  exact ⟨rfl, h2⟩
def rnF (ks : List Disk) (kn : List Nm) (olds : List Nm) : List (Nm × Nm) := olds.foldl (fun acc n => acc ++ [(n, nfN ks (kn ++ acc.map (·.2)))]) []
theorem rnF_snoc (ks : List Disk) (kn olds : List Nm) (n : Nm) : rnF ks kn (olds ++ [n]) = rnF ks kn olds ++ [(n, nfN ks (kn ++ (rnF ks kn olds).map (·.2)))] := by simp [rnF]
theorem rnF_fst (ks : List Disk) (kn : List Nm) : ∀ olds : List Nm, (rnF ks kn olds).map (·.1) = olds := by
  intro olds
  have : ∀ (l acc : List Nm) (a : List (Nm × Nm)), a.map (·.1) = acc → (l.foldl (fun acc n => acc ++ [(n, nfN ks (kn ++ acc.map (·.2)))]) a).map (·.1) = acc ++ l := by
    intro l
    induction l with
    | nil => intro acc a h; simpa using h
    | cons n l ih =>
      intro acc a h
      rw [List.foldl_cons, ih (acc ++ [n]) _ (by simp [h])]
      simp
  simpa [rnF] using this olds [] [] rfl
theorem rnF_len (ks : List Disk) (kn olds : List Nm) : (rnF ks kn olds).length = olds.length := by
  have := congrArg List.length (rnF_fst ks kn olds)
  simpa using this
def pr (p : Nm × Nm) : D := .tup [.str p.1.x, .str p.2.x]
theorem sub_allP : ∀ (ns : List Nm) (acc : List (List Nm)) (p : List Nm), p ∈ ns.foldl subs acc → ∃ q ∈ acc, ∃ r, p = q ++ r ∧ r.Sublist ns
  | [], acc, p, h => ⟨p, h, [], by simp⟩
  | n :: ns, acc, p, h => by
    obtain ⟨q, hq, r, e, hr⟩ := sub_allP ns _ p h
    rcases List.mem_append.mp hq with hq | hq
    · exact ⟨q, hq, r, e, hr.cons n⟩
    · obtain ⟨t, ht, e2⟩ := List.mem_map.mp hq
      exact ⟨t, ht, n :: r, by rw [e, ← e2]; simp, hr.cons₂ n⟩
theorem allP_sub {ns p : List Nm} (h : p ∈ allP ns) : p.Sublist ns := by
  obtain ⟨q, hq, r, e, hr⟩ := sub_allP ns _ p h
  have : q = [] := by simpa using hq
  rw [e, this]
  simpa using hr
theorem filter_two {α : Type} (f : α → Bool) : ∀ l : List α, (l.filter f).length + (l.filter fun x => !f x).length = l.length
  | [] => rfl
  | a :: l => by
    have := filter_two f l
    cases h : f a <;> simp [h] <;> omega
theorem rst_len {ns p : List Nm} (hs : p.Sublist ns) (hd : (ns.map (·.x)).Nodup) : (rst ns p).length + p.length ≤ ns.length := by
  have h1 : p.length ≤ (ns.filter fun n => decide (n.x ∈ p.map (·.x))).length := by
    have := nd_sub_len (p.map (·.x)) ((ns.filter fun n => decide (n.x ∈ p.map (·.x))).map (·.x)) ((hs.map (·.x)).nodup hd) fun c hc => by
      obtain ⟨n, hn, e⟩ := List.mem_map.mp hc
      exact List.mem_map.mpr ⟨n, List.mem_filter.mpr ⟨hs.subset hn, decide_eq_true (List.mem_map.mpr ⟨n, hn, rfl⟩)⟩, e⟩
    simpa using this
  have := filter_two (fun n : Nm => decide (n.x ∈ p.map (·.x))) ns
  unfold rst
  omega
@[simp] theorem mkCl_nt (b : Bool) (ns : List Nm) : mkCl b (nt ns) = .sh (nt ns) := by cases b <;> rfl
@[simp] theorem mkCl_e (b : Bool) (k : Disk) : mkCl b k.e = .sh k.e := by cases b <;> rfl
theorem nm_inj (a b : Nm) (h : a.x = b.x) : a = b := by
  cases a; cases b; cases h; rfl
theorem enc_nm : Enc 0 (fun n : Nm => D.str n.x) := enc_str.comp (fun n : Nm => n.x) nm_inj
theorem enc_nt : Enc 1 nt := enc_nm.tup
theorem enc_pr : Enc 1 pr := enc_nm.pair enc_nm
/-- the names that remain, as the code collects them -/
theorem ev_rst (F : Nat → List D → M D) (ns p : List Nm) (ρ : Env) (i j k : Nat) (h1 : rBo ρ[i]? = some (.ok (nt ns))) (h2 : (ρ.set k .no)[j]? = ρ[j]?) (hk : j ≠ k) (hlt : k < ρ.length) (h3 : rBo ρ[j]? = some (.ok (nt p))) : evE F (.blt .tuple (.cons (.comp [k] (.one k) (.ival (.bor i)) (.cmp .notIn (.bor k) (.bor j)) (.var k)) .nil)) ρ = some (.ok (nt (rst ns p))) := by
  have e1 : ∀ x : D, ((ρ.set k .no).set k (.sh x))[k]? = some (.sh x) := fun x => by simp [hlt]
  have e2 : ∀ x : D, ((ρ.set k .no).set k (.sh x))[j]? = ρ[j]? := fun x => by
    rw [List.getElem?_set_ne (Ne.symm hk), h2]
  simp only [v_blt, v_cons, v_nil, v_comp, v_ival, v_bor, h1, bd_ok, nt_i, li_some, compF_map, turnK_d, wipeE_c, wipeE_n, bind_one, tkK_s, v_cmp, v_var, e1, e2, h3, rBo_sh, rSh_sh, nt_notIn, bK_s, nx_ok, tkC_b, compX_filt]
  simp only [Option.map_some, li_some, bd_ok, b_tuple, Bool.decide_eq_true]
  rfl
theorem sp_renaming (ks : List Disk) (hk1 : 1 ≤ ks.length) (hk : ks.length ≤ 3) (hq : ∀ k ∈ ks, DskQ k) (ns : List Nm) (hn : ns.length ≤ 8) (hi : IncT (ns.map (·.x)) = true) (p : List Nm) (hp : p ∈ allP ns) (ep : Fx i_find_renamed [ld ks, nt ns] = some (.ok (nt p))) : Fx i_renaming [ld ks, nt ns] = some (.ok (.lst ((rnF ks (rst ns p) p).map pr))) := by
  have hlen := rst_len (allP_sub hp) (incT_nodup hi)
  refine fx_ret rfl (by decide) rfl ?_
  refine wp_exp .non rfl (by simp [start, sp_check_both ks ns hk1 hk hn hi]) ?_
  refine wp_par (nt p) (.lst []) rfl (by simp [start, ep]) (by simp [start, limE]) ?_
  refine wp_asg (nt (rst ns p)) rfl (ev_rst _ _ _ _ _ _ _ rfl rfl (by decide) (show 5 < 7 by decide) rfl) ?_
  refine wp_pre (fun pre ρ => ∃ c5 c6 : Cl, ρ = [.sh (ld ks), .sh (nt ns), .sh (nt p), .ow (.lst ((rnF ks (rst ns p) pre).map pr)), .sh (nt (rst ns p ++ (rnF ks (rst ns p) pre).map (·.2))), c5, c6]) p (fun n => .str n.x) rfl (by simp [start]) ⟨.no, .no, by simp [rnF]; rfl⟩ ?_ ?_
  · rintro pre n suf ρ e ⟨c5, c6, rfl⟩
    have hl : pre.length + 1 ≤ p.length := by rw [e]; simp
    have el := rnF_len ks (rst ns p) pre
    have hkn : (rst ns p ++ (rnF ks (rst ns p) pre).map (·.2)).length ≤ 8 := by simp [el]; omega
    obtain ⟨c, r, ec⟩ := free_ex ks hq (rst ns p ++ (rnF ks (rst ns p) pre).map (·.2)) (by omega)
    have e1 := sp_find_new ks _ hk (by omega) c r ec
    have e2 := (nfN_spec ec).1
    rw [← e2] at e1
    have hs := rnF_snoc ks (rst ns p) pre n
    have hw : (rnF ks (rst ns p) pre).length < 16777216 := by omega
    have ea := add_nt (rst ns p ++ (rnF ks (rst ns p) pre).map (·.2)) (nfN ks (rst ns p ++ (rnF ks (rst ns p) pre).map (·.2))) (by rw [limE]; omega)
    generalize ez : nfN ks (rst ns p ++ (rnF ks (rst ns p) pre).map (·.2)) = z at *
    rw [forB_1]
    refine wp_asg (.str z.x) rfl (by simp [e1]) ?_
    refine wp_app ((rnF ks (rst ns p) pre).map pr) (.tup [.str n.x, .str z.x]) rfl rfl (by simp [limE]) (by simp [limE, hw]) ?_
    refine wp_asg (nt (rst ns p ++ (rnF ks (rst ns p) pre).map (·.2) ++ [z])) rfl (by
      simp only [v_bin, v_tup, v_cons, v_nil, v_var, v_bor]
      simp [limE]
      rw [List.append_assoc] at ea
      simp [ea]) ?_
    rw [hs]
    simp [pr]
  · rintro ρ ⟨c5, c6, rfl⟩
    refine wp_ret (.lst ((rnF ks (rst ns p) p).map pr)) ?_ rfl
    simp
end Mn
end
section
set_option linter.all false
set_option maxRecDepth 100000
set_option maxHeartbeats 1000000
/-! Lb10: strict total orders, sorting, least ones; the laws' own clean sets. -/
namespace Mn
structure Sto {α : Type} (lt : α → α → Bool) : Prop where
  irr : ∀ x, lt x x = false
  tr : ∀ x y z, lt x y = true → lt y z = true → lt x z = true
  tri : ∀ x y, x ≠ y → lt x y = true ∨ lt y x = true
section
variable {α : Type} {lt : α → α → Bool}
theorem Sto.asy (h : Sto lt) {x y : α} (a : lt x y = true) : lt y x = false := by
  cases e : lt y x with
  | false => rfl
  | true => have := h.tr _ _ _ a e; rw [h.irr] at this; cases this
theorem Sto.eq (h : Sto lt) {x y : α} (a : lt x y = false) (b : lt y x = false) : x = y := by
  rcases Classical.em (x = y) with z | z
  · exact z
  · rcases h.tri x y z with q | q
    · rw [a] at q; cases q
    · rw [b] at q; cases q
/-- not after, step by step -/
theorem Sto.le_tr (h : Sto lt) {x y z : α} (a : lt y x = false) (b : lt z y = false) : lt z x = false := by
  cases e : lt z x with
  | false => rfl
  | true =>
    rcases Classical.em (x = y) with q | q
    · rw [q, b] at e; cases e
    · rcases h.tri x y q with q | q
      · have := h.tr _ _ _ e q
        rw [b] at this; cases this
      · rw [a] at q; cases q
def insG (lt : α → α → Bool) (x : α) : List α → List α
  | [] => [x]
  | y :: ys => if lt y x then y :: insG lt x ys else x :: y :: ys
def srtG (lt : α → α → Bool) : List α → List α
  | [] => []
  | x :: xs => insG lt x (srtG lt xs)
theorem insG_perm (x : α) : ∀ ys : List α, (insG lt x ys).Perm (x :: ys)
  | [] => .refl _
  | y :: ys => by
    unfold insG
    split
    · exact ((insG_perm x ys).cons y).trans (.swap _ _ _)
    · exact .refl _
theorem srtG_perm : ∀ l : List α, (srtG lt l).Perm l
  | [] => .refl _
  | x :: xs => (insG_perm x _).trans ((srtG_perm xs).cons x)
theorem insG_pw (h : Sto lt) (x : α) : ∀ ys : List α, (ys.Pairwise fun a b => lt b a = false) → (insG lt x ys).Pairwise fun a b => lt b a = false
  | [], _ => List.pairwise_singleton _ _
  | y :: ys, hp => by
    have h' := List.pairwise_cons.mp hp
    unfold insG
    split
    · rename_i hl
      refine List.pairwise_cons.mpr ⟨fun z hz => ?_, insG_pw h x ys h'.2⟩
      rcases List.mem_cons.mp ((insG_perm x ys).mem_iff.mp hz) with e | hz
      · rw [e]; exact h.asy hl
      · exact h'.1 z hz
    · rename_i hl
      have hl : lt y x = false := by simpa using hl
      refine List.pairwise_cons.mpr ⟨fun z hz => ?_, hp⟩
      rcases List.mem_cons.mp hz with e | hz
      · rw [e]; exact hl
      · exact h.le_tr hl (h'.1 z hz)
theorem srtG_pw (h : Sto lt) : ∀ l : List α, (srtG lt l).Pairwise fun a b => lt b a = false
  | [] => List.Pairwise.nil
  | x :: xs => insG_pw h x _ (srtG_pw h xs)
/-- sorted lists with the same members are the same -/
theorem pw_unique (h : Sto lt) : ∀ l m : List α, (l.Pairwise fun a b => lt b a = false) → (m.Pairwise fun a b => lt b a = false) → l.Perm m → l = m
  | [], m, _, _, p => by rw [List.nil_perm.mp p]
  | x :: l, [], _, _, p => by cases List.perm_nil.mp p
  | x :: l, y :: m, h1, h2, p => by
    have h1' := List.pairwise_cons.mp h1
    have h2' := List.pairwise_cons.mp h2
    have e : x = y := by
      have hx : x ∈ y :: m := p.mem_iff.mp List.mem_cons_self
      have hy : y ∈ x :: l := p.mem_iff.mpr List.mem_cons_self
      rcases List.mem_cons.mp hx with z | z
      · exact z
      · rcases List.mem_cons.mp hy with q | q
        · exact q.symm
        · exact h.eq (h2'.1 x z) (h1'.1 y q)
    subst e
    rw [pw_unique h l m h1'.2 h2'.2 (List.perm_cons _ |>.mp p)]
/-- the least, as min finds it -/
def minG (lt : α → α → Bool) (m : α) : List α → α
  | [] => m
  | x :: xs => minG lt (if lt x m then x else m) xs
theorem minG_le (h : Sto lt) : ∀ (xs : List α) (m : α), (lt m (minG lt m xs) = false) ∧ ∀ x ∈ xs, lt x (minG lt m xs) = false
  | [], m => ⟨h.irr m, fun _ z => nomatch z⟩
  | x :: xs, m => by
    unfold minG
    by_cases hx : lt x m = true
    · rw [if_pos hx]
      obtain ⟨a, b⟩ := minG_le h xs x
      refine ⟨h.le_tr a (h.asy hx), fun z hz => ?_⟩
      rcases List.mem_cons.mp hz with e | hz
      · rw [e]; exact a
      · exact b z hz
    · rw [if_neg hx]
      obtain ⟨a, b⟩ := minG_le h xs m
      refine ⟨a, fun z hz => ?_⟩
      rcases List.mem_cons.mp hz with e | hz
      · rw [e]
        exact h.le_tr a (by simpa using hx)
      · exact b z hz
theorem minG_mem : ∀ (xs : List α) (m : α), minG lt m xs ∈ m :: xs
  | [], m => by simp [minG]
  | x :: xs, m => by
    unfold minG
    have z := minG_mem xs (if lt x m = true then x else m)
    rcases List.mem_cons.mp z with z | z
    · rw [z]
      split <;> simp
    · exact List.mem_cons_of_mem _ (List.mem_cons_of_mem _ z)
/-- lexicographic -/
def ltLx [DecidableEq α] (lt : α → α → Bool) : List α → List α → Bool
  | _, [] => false
  | [], _ :: _ => true
  | x :: xs, y :: ys => if x = y then ltLx lt xs ys else lt x y
theorem Sto.lx [DecidableEq α] (h : Sto lt) : Sto (ltLx lt) where
  irr := by
    intro x
    induction x with
    | nil => rfl
    | cons a x ih => simp [ltLx, ih]
  tri := by
    intro x
    induction x with
    | nil =>
      intro y hy
      cases y with
      | nil => exact absurd rfl hy
      | cons b y => exact .inl rfl
    | cons a x ih =>
      intro y hy
      cases y with
      | nil => exact .inr rfl
      | cons b y =>
        by_cases e : a = b
        · subst e
          have := ih y fun z => hy (by rw [z])
          simpa [ltLx] using this
        · have e' : ¬ b = a := fun z => e z.symm
          have := h.tri a b e
          simpa [ltLx, e, e'] using this
  tr := by
    intro x
    induction x with
    | nil =>
      intro y z h1 h2
      cases z with
      | nil => simp [ltLx] at h2
      | cons c z => rfl
    | cons a x ih =>
      intro y z h1 h2
      cases y with
      | nil => simp [ltLx] at h1
      | cons b y =>
        cases z with
        | nil => simp [ltLx] at h2
        | cons c z =>
          simp only [ltLx] at h1 h2 ⊢
          by_cases ab : a = b
          · subst ab
            rw [if_pos rfl] at h1
            by_cases ac : a = c
            · rw [if_pos ac] at h2 ⊢
              exact ih y z h1 h2
            · rw [if_neg ac] at h2 ⊢
              exact h2
          · rw [if_neg ab] at h1
            by_cases bc : b = c
            · subst bc
              rw [if_neg ab]; exact h1
            · rw [if_neg bc] at h2
              have t := h.tr _ _ _ h1 h2
              by_cases ac : a = c
              · rw [ac, h.irr] at t; cases t
              · rw [if_neg ac]; exact t
/-- two keys -/
theorem Sto.two {β : Type} [DecidableEq α] {lb : β → β → Bool} (h : Sto lt) (hb : Sto lb) : Sto (fun p q : α × β => if p.1 = q.1 then lb p.2 q.2 else lt p.1 q.1) where
  irr := fun p => by simp [hb.irr]
  tri := fun p q ne => by
    obtain ⟨a, b⟩ := p
    obtain ⟨c, d⟩ := q
    by_cases e : a = c
    · subst e
      have := hb.tri b d fun z => ne (by rw [z])
      simpa using this
    · have e' : ¬ c = a := fun z => e z.symm
      have := h.tri a c e
      simpa [e, e'] using this
  tr := fun p q r h1 h2 => by
    obtain ⟨a, b⟩ := p
    obtain ⟨c, d⟩ := q
    obtain ⟨e, f⟩ := r
    simp only at h1 h2 ⊢
    by_cases ac : a = c
    · subst ac
      rw [if_pos rfl] at h1
      by_cases ae : a = e
      · rw [if_pos ae] at h2 ⊢
        exact hb.tr _ _ _ h1 h2
      · rw [if_neg ae] at h2 ⊢
        exact h2
    · rw [if_neg ac] at h1
      by_cases ce : c = e
      · subst ce
        rw [if_neg ac]; exact h1
      · rw [if_neg ce] at h2
        have t := h.tr _ _ _ h1 h2
        by_cases ae : a = e
        · rw [ae, h.irr] at t; cases t
        · rw [if_neg ae]; exact t
theorem Sto.inj {β : Type} (h : Sto lt) (f : β → α) (hf : ∀ a b, f a = f b → a = b) : Sto (fun a b => lt (f a) (f b)) where
  irr := fun x => h.irr _
  tr := fun x y z => h.tr _ _ _
  tri := fun x y ne => h.tri _ _ fun z => ne (hf _ _ z)
end
theorem sto_tx : Sto ltTx := ⟨ltTx_irr, ltTx_trans, ltTx_tri⟩
theorem sto_nm : Sto (fun a b : Nm => ltTx a.x b.x) := sto_tx.inj (fun n : Nm => n.x) nm_inj
theorem sto_nat : Sto (fun a b : Nat => decide (a < b)) := ⟨fun x => by simp, fun x y z h1 h2 => by simp at h1 h2 ⊢; omega, fun x y h => by simp; omega⟩
theorem ltS_nt (a b : List Nm) : ltS (nt a) (nt b) = ltLx (fun a b : Nm => ltTx a.x b.x) a b := by
  show ltSL (a.map fun n => D.str n.x) (b.map fun n => D.str n.x) = _
  induction a generalizing b with
  | nil => cases b <;> simp [ltSL, ltLx]
  | cons x a ih =>
    cases b with
    | nil => simp [ltSL, ltLx]
    | cons y b =>
      simp only [List.map_cons, ltSL, ltLx, ih, eqD, ltS]
      by_cases e : x = y
      · simp [e]
      · have : ¬ x.x = y.x := fun z => e (nm_inj _ _ z)
        simp [e, this]
theorem sto_nt : Sto (fun a b : List Nm => ltS (nt a) (nt b)) := by
  have e : (fun a b : List Nm => ltS (nt a) (nt b)) = ltLx (fun a b : Nm => ltTx a.x b.x) := by
    funext a b; exact ltS_nt a b
  rw [e]
  exact sto_nm.lx
theorem ltS_row (a b : List Nm) : ltS (row a) (row b) = if a.length = b.length then ltS (nt a) (nt b) else decide (a.length < b.length) := by
  show ltSL [.int a.length, nt a] [.int b.length, nt b] = _
  have e := enc_nt.eq a b
  simp only [ltSL, eqD, e]
  by_cases h : a.length = b.length
  · have h' : ((a.length : Int) == b.length) = true := by simp [h]
    rw [if_pos h', if_pos h]
    by_cases q : a = b
    · subst q
      have : ltS (nt a) (nt a) = false := sto_nt.irr a
      simp [this]
    · simp [q]
  · have h' : ((a.length : Int) == b.length) = false := by simp; omega
    rw [h', if_neg h]
    simp [ltS]
theorem sto_row : Sto (fun a b : List Nm => ltS (row a) (row b)) := by
  have e : (fun a b : List Nm => ltS (row a) (row b)) = fun a b : List Nm => (fun p q : Nat × List Nm => if p.1 = q.1 then (fun a b : List Nm => ltS (nt a) (nt b)) p.2 q.2 else (fun a b : Nat => decide (a < b)) p.1 q.1) (a.length, a) (b.length, b) := by
    funext a b; exact ltS_row a b
  rw [e]
  exact (sto_nat.two sto_nt).inj (fun a : List Nm => (a.length, a)) fun a b h => by
    have := congrArg Prod.snd h
    exact this
theorem minN_G : ∀ (xs : List (List Nm)) (m : List Nm), minN m xs = minG (fun a b : List Nm => ltS (row a) (row b)) m xs
  | [], m => rfl
  | x :: xs, m => by
    unfold minN minG
    exact minN_G xs _
theorem insF_row (x : List Nm) : ∀ ys : List (List Nm), insF (row x) (ys.map row) = (insG (fun a b : List Nm => ltS (row a) (row b)) x ys).map row
  | [] => rfl
  | y :: ys => by
    simp only [List.map_cons, insF, insG]
    split
    · rw [List.map_cons, insF_row x ys]
    · rfl
theorem sortS_row : ∀ l : List (List Nm), sortS (l.map row) = (srtG (fun a b : List Nm => ltS (row a) (row b)) l).map row
  | [] => rfl
  | x :: xs => by
    simp only [List.map_cons, sortS, srtG]
    rw [sortS_row xs, insF_row]
theorem sortO_row (l : List (List Nm)) : sortO (l.map row) = some ((srtG (fun a b : List Nm => ltS (row a) (row b)) l).map row) := by
  have k : kindOk (.two .i (.all .s)) (l.map row) = true := by
    unfold kindOk
    rw [Bool.and_eq_true]
    have h : ∀ d ∈ l.map row, okK (.two .i (.all .s)) d = true ∧ tupNe d = true := fun d hd => by
      obtain ⟨p, _, rfl⟩ := List.mem_map.mp hd
      refine ⟨?_, rfl⟩
      show (okK .i (.int p.length) && okK (.all .s) (nt p)) = true
      show (p.map fun n => D.str n.x).all (okK .s) = true
      rw [List.all_eq_true]
      intro d hd
      obtain ⟨n, _, rfl⟩ := List.mem_map.mp hd
      rfl
    refine ⟨List.all_eq_true.mpr fun d hd => (h d hd).1, ?_⟩
    rw [Bool.or_eq_true]
    exact .inl (List.all_eq_true.mpr fun d hd => (h d hd).2)
  unfold sortO
  rw [if_pos (by rw [k]; simp), sortS_row]
/-- the first good one of the sorted rows is the least good part -/
theorem first_row (f : List Nm → Bool) (l m : List (List Nm)) (hp : m.Perm l) (g : List Nm) (gs : List (List Nm)) (hg : m.filter f = g :: gs) : ∃ r, (srtG (fun a b : List Nm => ltS (row a) (row b)) l).filter f = minN g gs :: r := by
  have hpm := srtG_perm (lt := fun a b : List Nm => ltS (row a) (row b)) l
  have hpw := (srtG_pw sto_row l).filter f
  have hmem : ∀ x, x ∈ (srtG (fun a b : List Nm => ltS (row a) (row b)) l).filter f ↔ x ∈ g :: gs := fun x => by
    rw [← hg, List.mem_filter, List.mem_filter, hpm.mem_iff, hp.mem_iff]
  cases e : (srtG (fun a b : List Nm => ltS (row a) (row b)) l).filter f with
  | nil =>
    have := (hmem g).mpr List.mem_cons_self
    rw [e] at this; cases this
  | cons h r =>
    refine ⟨r, ?_⟩
    rw [e] at hpw hmem
    obtain ⟨a, b⟩ := minG_le sto_row gs g
    have hm := minG_mem (lt := fun a b : List Nm => ltS (row a) (row b)) gs g
    rw [minN_G]
    congr 1
    have hh := (hmem h).mp List.mem_cons_self
    have q1 : ltS (row h) (row (minG (fun a b : List Nm => ltS (row a) (row b)) g gs)) = false := by
      rcases List.mem_cons.mp hh with z | z
      · rw [z]; exact a
      · exact b h z
    rcases List.mem_cons.mp ((hmem _).mpr hm) with z | z
    · exact z.symm
    · exact sto_row.eq q1 ((List.pairwise_cons.mp hpw).1 _ z)
/-! clean sets -/
theorem dd_eq : ∀ l : List Tx, (dedup l).length = l.length ↔ l.Nodup
  | [] => by simp [dedup]
  | x :: l => by
    have ih := dd_eq l
    have h1 := dd_len l
    have h2 := List.length_filter_le (fun y => y != x) (dedup l)
    simp only [dedup, List.length_cons, List.nodup_cons]
    constructor
    · intro h
      have h3 : ((dedup l).filter fun y => y != x).length = (dedup l).length := by omega
      refine ⟨fun hm => ?_, ih.mp (by omega)⟩
      have := List.length_filter_eq_length_iff.mp h3 x ((dd_mem x l).mpr hm)
      simp at this
    · rintro ⟨h3, h4⟩
      have h5 := ih.mpr h4
      have h6 : ((dedup l).filter fun y => y != x) = dedup l := List.filter_eq_self.mpr fun y hy => by
        have := (dd_mem y l).mp hy
        simp
        exact fun e => h3 (e ▸ this)
      rw [h6, h5]
theorem sp_law_clean (ks : List Disk) (ns : List Nm) (d : D) (hd : items d = some (ns.map fun n => .str n.x)) (hn : ns.length < 4000) : Fx i__law_clean [ld ks, d] = some (.ok (.bl (ks.all fun k => decide (Sf k ns)))) := by
  refine fx_ret rfl (by decide) rfl ?_
  refine wp_chk (fun ρ => ∃ c2 c3 : Cl, ρ = [.sh (ld ks), .sh d, c2, c3, .no]) (fun k : Disk => decide (Sf k ns)) (.bl false) ks (fun k => k.e) rfl (by simp [start]) ⟨.no, .no, rfl⟩ ?_ ?_ ?_
  · rintro k ρ hk ⟨c3, c4, rfl⟩
    rw [forB_1]
    let l : List Tx := ns.map fun n => k.pl n.x
    have hl : l.length < 4000 := by simpa [l] using hn
    have e0 : (ns.map fun n => D.str (k.pl n.x)) = l.map D.str := by simp [l, Function.comp_def]
    have e1 := in_strL' [] l
    have e2 := lenSet_tx l hl
    have q : decide (Sf k ns) = !(decide ([] ∈ l) || decide ((dedup l).length < l.length)) := by
      have h1 := dd_eq l
      have h2 := dd_len l
      rw [Bool.eq_iff_iff]
      have : Sf k ns ↔ [] ∉ l ∧ l.Nodup := Iff.rfl
      rw [decide_eq_true_iff, this, ← h1]
      simp
      omega
    have main : evS Fx (bodyOf b__law_clean) [.sh (ld ks), .sh d, .sh k.e, c4, .no] = if decide (Sf k ns) then some (.nx [.sh (ld ks), .sh d, .sh k.e, .ow (.lst (l.map D.str)), .no]) else some (.ret (.bl false)) := by
      rw [q]
      refine Eq.trans (st_asg (d := .lst (l.map D.str)) rfl (by simp [hd, e0])) (Eq.trans (st_if (c := decide ([] ∈ l) || decide ((dedup l).length < l.length)) rfl (by
          simp only [v_or, v_cmp, v_bor, v_cst, v_vw, v_blt, v_cons, v_nil, mkCl_l, fr_comp]
          simp [e1, e2])) ?_)
      cases (decide ([] ∈ l) || decide ((dedup l).length < l.length)) <;> simp [hd]
    constructor
    · intro hp
      rw [if_pos hp] at main
      exact ⟨_, main, _, _, rfl⟩
    · intro hp
      rw [hp] at main
      exact main
  · rintro hA ρ ⟨c3, c4, rfl⟩
    simp only [hA]
    simp
  · intro hA
    rw [hA]
    rfl
end Mn
end
section
set_option linter.all false
set_option maxRecDepth 100000
set_option maxHeartbeats 1000000
/-! Ld1: what a script draws (second family). -/
namespace Mn
def RtV (m : Nat) (o : Option Out) : Prop := ∃ v : Nat, v < m ∧ o = some (.ret (.int v))
theorem drawn_tail (ns : List Int) (k m : Nat) (hm : 0 < m) (c : Int) (c4 c5 : Cl) : RtV m (evS Fx (nextOf (nextOf b__law_drawn)) [.sh (.scr ns), .sh (.int k), .sh (.int m), .sh (.int c), c4, c5]) := by
  have hm' : (0 : Int) < m := by omega
  obtain ⟨a, ha, ea⟩ := mod_nat (c % 2147483563 * 69069 + 104723 * ((k : Int) + 1)) 2147483563 (by decide)
  obtain ⟨b, hb, eb⟩ := mod_nat ((a : Int) * a + (a : Int) / 3) 2147483399 (by decide)
  obtain ⟨v, hv, ev⟩ := mod_nat (((b : Int) * b + (b : Int) / 7) % 2147483647 / 11) m hm
  have ea' : (c % 2147483563 * 69069 + 104723 * ((k : Int) + 1)) % 2147483563 = a := ea
  have eb' : ((a : Int) * a + (a : Int) / 3) % 2147483399 = b := eb
  refine ⟨v, hv, ?_⟩
  have ha' : a < 9223372036854775808 := by omega
  have hb' : b < 9223372036854775808 := by omega
  simp [nextOf, b__law_drawn, ea', eb', ha', hb', hm, ev]
theorem drawn_loop (F : Nat → List D → M D) (c0 c1 c2 c3 : Cl) : ∀ (fuel : Nat) (r a : Int), 0 ≤ a → a.toNat < fuel → ∃ r' a' : Int, whlF (cWhl [] (evE F (.and_ (.cmp .gt (.bor 5) (.cst (.int 0))) (.cmp .gt (.bor 4) (.cst (.int 0)))))) (evS F (.seq (.asg 5 (.bin .fdiv (.bor 5) (.cst (.int 1000000)))) (.seq (.asg 4 (.bin .sub (.bor 4) (.cst (.int 1)))) .skip))) fuel [c0, c1, c2, c3, .sh (.int a), .sh (.int r)] = some (.nx [c0, c1, c2, c3, .sh (.int a'), .sh (.int r')])
  | 0, _, _, _, h => by omega
  | k + 1, r, a, h0, h => by
    by_cases h1 : 0 < r
    · by_cases h2 : 0 < a
      · obtain ⟨r', a', ih⟩ := drawn_loop F c0 c1 c2 c3 k (r / 1000000) (a - 1) (by omega) (by omega)
        refine ⟨r', a', ?_⟩
        simp [whlF, cWhl, h1, h2]
        exact ih
      · exact ⟨r, a, by simp [whlF, cWhl, h2]⟩
    · exact ⟨r, a, by simp [whlF, cWhl, h1]⟩
theorem wp_seqK {Q : Option Out → Prop} {o : Option Out} {k : Env → Option Out} (ρ : Env) (h : o = some (.nx ρ)) (hq : Q (k ρ)) : Q (seqK o k) := by rw [h, seqK_n]; exact hq
theorem sp_drawn0 (ns : List Int) (k m : Nat) (hk : k < 1000000) (hm : 0 < m) (hn : ns.length ≤ 63) : ∃ v : Nat, v < m ∧ Fx i__law_drawn [.scr ns, .int k, .int m] = some (.ok (.int v)) := by
  have fin : RtV m (evS Fx b__law_drawn (start 6 [.scr ns, .int k, .int m])) := by
    have hm' : (0 : Int) < m := by omega
    refine wp_asg (.int (7 * k)) rfl (by simp [start]) ?_
    by_cases h : ns = []
    · refine wp_if (c := false) rfl (by simp [start, scr_ne, h]) ?_
      exact drawn_tail ns k m hm (7 * k) .no .no
    · have hl : 0 < ns.length := List.length_pos_iff.mpr h
      obtain ⟨j, hj, ej⟩ := mod_nat k ns.length hl
      obtain ⟨c, hc⟩ := scr_ix ns j hj
      have hl' : (0 : Int) < ns.length := by omega
      have hb : (ns.length : Int) < 9223372036854775808 := by omega
      refine wp_if (c := true) rfl (by simp [start, scr_ne, h]) ?_
      have last : ∀ (c4 c5 : Cl), RtV m (seqK (evS Fx (.seq (.asg 3 (.bin .add (.bor 3) (.bin .mul (.cst (.int 6553)) (.bin .fdiv (.bor 1) (.blt .len (.cons (.bor 0) .nil)))))) .skip) [.sh (.scr ns), .sh (.int k), .sh (.int m), .sh (.int c), c4, c5]) (evS Fx (nextOf (nextOf b__law_drawn)))) := fun c4 c5 => by
        have e : evS Fx (.seq (.asg 3 (.bin .add (.bor 3) (.bin .mul (.cst (.int 6553)) (.bin .fdiv (.bor 1) (.blt .len (.cons (.bor 0) .nil)))))) .skip) [.sh (.scr ns), .sh (.int k), .sh (.int m), .sh (.int c), c4, c5] = some (.nx [.sh (.scr ns), .sh (.int k), .sh (.int m), .sh (.int (c + 6553 * ((k : Int) / ns.length))), c4, c5]) := by
          simp [hl, hb]
        exact wp_seqK _ e (drawn_tail ns k m hm _ c4 c5)
      rw [if_pos rfl, s_seq', s_asg']
      have e1 : evE Fx (.idx (.bor 0) (.bin .mod (.bor 1) (.blt .len (.cons (.bor 0) .nil)))) [.sh (.scr ns), .sh (.int k), .sh (.int m), .sh (.int (7 * k)), .no, .no] = some (.ok (.int c)) := by
        simp [hl, ej, hc]
      show RtV m (seqK (seqK (go _ (evE Fx (.idx (.bor 0) (.bin .mod (.bor 1) (.blt .len (.cons (.bor 0) .nil)))) [.sh (.scr ns), .sh (.int k), .sh (.int m), .sh (.int (7 * k)), .no, .no]) _) _) _)
      rw [e1, go_ok, seqK_n, s_seq', s_asg']
      show RtV m (seqK (seqK (go _ (evE Fx (.bin .fdiv (.bor 1) (.blt .len (.cons (.bor 0) .nil))) [.sh (.scr ns), .sh (.int k), .sh (.int m), .sh (.int c), .no, .no]) _) _) _)
      have e2 : evE Fx (.bin .fdiv (.bor 1) (.blt .len (.cons (.bor 0) .nil))) [.sh (.scr ns), .sh (.int k), .sh (.int m), .sh (.int c), .no, .no] = some (.ok (.int ((k : Int) / ns.length))) := by
        simp [hl, hb]
      rw [e2, go_ok, seqK_n, s_seq', s_ife']
      show RtV m (seqK (seqK (go _ (evE Fx (.and_ (.cmp .ge (.bor 3) (.bin .pow (.cst (.int 10)) (.cst (.int 18)))) (.cmp .lt (.bor 4) (.cst (.int 60)))) [.sh (.scr ns), .sh (.int k), .sh (.int m), .sh (.int c), .sh (.int ((k : Int) / ns.length)), .no]) _) _) _)
      have e3 : evE Fx (.and_ (.cmp .ge (.bor 3) (.bin .pow (.cst (.int 10)) (.cst (.int 18)))) (.cmp .lt (.bor 4) (.cst (.int 60)))) [.sh (.scr ns), .sh (.int k), .sh (.int m), .sh (.int c), .sh (.int ((k : Int) / ns.length)), .no] = some (.ok (.bl (decide (1000000000000000000 ≤ c) && decide ((k : Int) / ns.length < 60)))) := by
        simp
      rw [e3, go_ok]
      cases (decide (1000000000000000000 ≤ c) && decide ((k : Int) / ns.length < 60)) with
      | false =>
        rw [ifK_f, s_skip', seqK_n]
        exact last _ _
      | true =>
        rw [ifK_t]
        obtain ⟨r', a', hw⟩ := drawn_loop Fx (.sh (.scr ns)) (.sh (.int k)) (.sh (.int m)) (.sh (.int c)) loops (c / 10 ^ 18) ((k : Int) / ns.length) (Int.ediv_nonneg (by omega) (by omega)) (by
          have := loops_eq
          have : (k : Int) / ns.length ≤ k := Int.ediv_le_self _ (by omega)
          omega)
        obtain ⟨v1, hv1, e4⟩ := mod_nat (r' % 1000000) m hm
        have e5 : evE Fx (.bin .fdiv (.bor 3) (.bin .pow (.cst (.int 10)) (.cst (.int 18)))) [.sh (.scr ns), .sh (.int k), .sh (.int m), .sh (.int c), .sh (.int ((k : Int) / ns.length)), .no] = some (.ok (.int (c / 10 ^ 18))) := by
          simp
        rw [s_seq', s_asg']
        show RtV m (seqK (seqK (seqK (go _ (evE Fx (.bin .fdiv (.bor 3) (.bin .pow (.cst (.int 10)) (.cst (.int 18)))) [.sh (.scr ns), .sh (.int k), .sh (.int m), .sh (.int c), .sh (.int ((k : Int) / ns.length)), .no]) _) _) _) _)
        rw [e5, go_ok, seqK_n, s_seq', s_whl']
        show RtV m (seqK (seqK (seqK (whlF _ _ loops [.sh (.scr ns), .sh (.int k), .sh (.int m), .sh (.int c), .sh (.int ((k : Int) / ns.length)), .sh (.int (c / 10 ^ 18))]) _) _) _)
        rw [show whlF (cWhl (vars (.and_ (.cmp .gt (.bor 5) (.cst (.int 0))) (.cmp .gt (.bor 4) (.cst (.int 0))))) (evE Fx (.and_ (.cmp .gt (.bor 5) (.cst (.int 0))) (.cmp .gt (.bor 4) (.cst (.int 0)))))) (evS Fx (.seq (.asg 5 (.bin .fdiv (.bor 5) (.cst (.int 1000000)))) (.seq (.asg 4 (.bin .sub (.bor 4) (.cst (.int 1)))) .skip))) loops [.sh (.scr ns), .sh (.int k), .sh (.int m), .sh (.int c), .sh (.int ((k : Int) / ns.length)), .sh (.int (c / 10 ^ 18))] = _ from hw, seqK_n]
        by_cases hr : 0 < r'
        · refine ⟨v1, hv1, ?_⟩
          simp [hr, hm, e4]
        · have e6 : evS Fx (.seq (.ife (.cmp .gt (.bor 5) (.cst (.int 0))) (.seq (.ret (.bin .mod (.bin .mod (.bor 5) (.cst (.int 1000000))) (.bor 2))) .skip) .skip) .skip) [.sh (.scr ns), .sh (.int k), .sh (.int m), .sh (.int c), .sh (.int a'), .sh (.int r')] = some (.nx [.sh (.scr ns), .sh (.int k), .sh (.int m), .sh (.int c), .sh (.int a'), .sh (.int r')]) := by
            simp [hr]
          rw [e6, seqK_n]
          exact last _ _
  obtain ⟨v, hv, e⟩ := fin
  exact ⟨v, hv, fx_ret rfl (by decide) rfl e⟩
theorem drawn_ex (s : Scr) (k m : Int) (h0 : 0 ≤ k) (hk : k < 1000000) (hm : 0 < m) : ∃ v : Nat, (v : Int) < m ∧ Fx i__law_drawn [.scr s.ns, .int k, .int m] = some (.ok (.int v)) := by
  obtain ⟨v, h1, h2⟩ := sp_drawn0 s.ns k.toNat m.toNat (by omega) (by omega) s.ok
  rw [show ((k.toNat : Nat) : Int) = k by omega, show ((m.toNat : Nat) : Int) = m by omega] at h2
  exact ⟨v, by omega, h2⟩
open Classical in
noncomputable def dr (s : Scr) (k m : Int) : Nat := if h : ∃ v : Nat, (v : Int) < m ∧ Fx i__law_drawn [.scr s.ns, .int k, .int m] = some (.ok (.int v)) then Classical.choose h else 0
theorem dr_spec (s : Scr) (k m : Int) (h0 : 0 ≤ k) (hk : k < 1000000) (hm : 0 < m) : (dr s k m : Int) < m ∧ Fx i__law_drawn [.scr s.ns, .int k, .int m] = some (.ok (.int (dr s k m))) := by
  have h := drawn_ex s k m h0 hk hm
  unfold dr
  rw [dif_pos h]
  exact Classical.choose_spec h
theorem sp_drawn (s : Scr) (k m : Int) (h0 : 0 ≤ k) (hk : k < 1000000) (hm : 0 < m) : Fx i__law_drawn [.scr s.ns, .int k, .int m] = some (.ok (.int (dr s k m))) := (dr_spec s k m h0 hk hm).2
theorem dr_lt (s : Scr) (k m : Int) (h0 : 0 ≤ k) (hk : k < 1000000) (hm : 0 < m) : (dr s k m : Int) < m := (dr_spec s k m h0 hk hm).1
end Mn
end
section
set_option linter.all false
set_option maxRecDepth 100000
set_option maxHeartbeats 1000000
/-! Ld2: drawn names and disks (second family). -/
namespace Mn
def NS2 : Tx := [97, 65, 98, 66, 46, 95, 32, 45, 97]
theorem ns2_sign : ∀ c ∈ NS2, c ∈ g_SIGNS := by decide
def Nm2P (s : Scr) (at' m : Int) (n : Nm) : Prop := (n.x.length : Int) ≤ m ∧ (∀ c ∈ n.x, c ∈ NS2) ∧ Fx i__law_name_k52 [.scr s.ns, .int at', .int m] = some (.ok (.str n.x))
theorem sp_law_name2 (s : Scr) (at' m : Int) (h0 : 0 ≤ at') (hat : at' < 90000) (h1 : 0 < m) (h2 : m ≤ 12) : ∃ n, Nm2P s at' m n := by
  have hv := dr_lt s at' m (by omega) (by omega) (by omega)
  have ev := sp_drawn s at' m (by omega) (by omega) (by omega)
  generalize dr s at' m = v at hv ev
  let g : Nat → Nat := fun i => NS2.getD (dr s (at' + 1 + i) 9) 97
  have hg : ∀ i : Nat, i < 12 → g i ∈ NS2 ∧ idxO (.str NS2) (.int (dr s (at' + 1 + i) 9)) = some (.str [g i]) := fun i hi => by
    have hp := dr_lt s (at' + 1 + i) 9 (by omega) (by omega) (by omega)
    have hp' : dr s (at' + 1 + i) 9 < NS2.length := by simp [NS2]; omega
    have e : g i = NS2[dr s (at' + 1 + i) 9] := by
      show NS2.getD _ _ = _
      rw [List.getD_eq_getElem?_getD, List.getElem?_eq_getElem hp']
      rfl
    rw [e]
    exact ⟨List.getElem_mem hp', x_str NS2 _ hp'⟩
  have okn : isN ((List.range (1 + v)).map g) = true := isN_iff.mpr ⟨by simp, by simp; omega, fun c hc => by
    obtain ⟨i, hi, e⟩ := List.mem_map.mp hc
    have := List.mem_range.mp hi
    rw [← e]
    exact ns2_sign _ (hg i (by omega)).1⟩
  refine ⟨⟨(List.range (1 + v)).map g, okn⟩, by simp; omega, fun c hc => by
    obtain ⟨i, hi, e⟩ := List.mem_map.mp hc
    have := List.mem_range.mp hi
    rw [← e]
    exact (hg i (by omega)).1, ?_⟩
  have hr : rangeO [.int (1 + (v : Int))] = some ((List.range (1 + v)).map fun (i : Nat) => D.int i) := by
    have := rangeO_nat (1 + v) (by omega)
    rwa [Int.natCast_add] at this
  refine fx_ret rfl (by decide) rfl ?_
  refine wp_asg (.str []) rfl (by simp) ?_
  refine wp_pre (fun pre ρ => ∃ c4 : Cl, ρ = [.sh (.scr s.ns), .sh (.int at'), .sh (.int m), .sh (.str (pre.map g)), c4]) (List.range (1 + v)) (fun (i : Nat) => .int i) rfl (by simp [start, ev, hr]) ⟨.no, rfl⟩ ?_ ?_
  · rintro pre i suf ρ e ⟨c4, rfl⟩
    have hi : i < 1 + v := by
      have : i ∈ List.range (1 + v) := by rw [e]; simp
      exact List.mem_range.mp this
    have hl := congrArg List.length e
    simp at hl
    have e1 := sp_drawn s (at' + 1 + i) 9 (by omega) (by omega) (by omega)
    have e2 := (hg i (by omega)).2
    unfold NS2 at e2
    have hw : pre.length + 1 ≤ 16777216 := by omega
    rw [forB_1]
    simp [e1, e2, limE, hw]
  · rintro ρ ⟨c4, rfl⟩
    simp
/-! disks -/
def PRS : List (Nat × Nat) := [(97, 98), (98, 97), (65, 97), (95, 32), (32, 95), (98, 66), (46, 45), (97, 97)]
theorem prs_ix (v : Nat) (h : v < 8) : ∃ p ∈ PRS, idxO (.lst (PRS.map tu)) (.int v) = some (tu p) := by
  have hv : v < (PRS.map tu).length := by simp [PRS]; omega
  refine ⟨PRS[v]'(by simpa using hv), List.getElem_mem _, ?_⟩
  rw [x_lst _ v hv]
  simp
theorem look_ok (c : Nat) : ∀ ts : List (Nat × Nat), c ∈ ts.map (·.1) → ∃ b, (c, b) ∈ ts ∧ assocD [c] (ts.map fun p => [p.1]) (ts.map fun p => D.str [p.2]) = some (.str [b])
  | [], h => nomatch h
  | p :: ts, h => by
    by_cases e : p.1 = c
    · refine ⟨p.2, ?_, by simp [assocD, e]⟩
      rw [← e]
      exact List.mem_cons_self
    · obtain ⟨b, h1, h2⟩ := look_ok c ts (by
        rcases List.mem_cons.mp (show c ∈ p.1 :: ts.map (·.1) from h) with z | z
        · exact absurd z.symm e
        · exact z)
      refine ⟨b, List.mem_cons_of_mem _ h1, ?_⟩
      simp [assocD, e, h2]
theorem srtT_one : ∀ l : List Nat, srtT (l.map fun c => [c]) = (srtG (fun a b : Nat => decide (a < b)) l).map fun c => [c]
  | [] => rfl
  | a :: l => by
    have ins : ∀ (l : List Nat), insT [a] (l.map fun c => [c]) = (insG (fun a b : Nat => decide (a < b)) a l).map fun c => [c] := by
      intro l
      induction l with
      | nil => rfl
      | cons b l ih =>
        simp only [List.map_cons, insT, insG, ltTx_one]
        by_cases h : b < a <;> simp [h, ih]
    simp only [List.map_cons, srtT, srtG]
    rw [srtT_one l, ins]
theorem pw_lt {l : List Nat} (h : l.Nodup) : (srtG (fun a b : Nat => decide (a < b)) l).Pairwise (· < ·) := by
  have h1 := srtG_pw sto_nat l
  have h2 : (srtG (fun a b : Nat => decide (a < b)) l).Nodup := (srtG_perm l).nodup_iff.mpr h
  have h3 := h1.and h2
  refine h3.imp fun {a b} h => ?_
  simp at h
  omega
def LMS : List Nat := [12, 1, 2, 3, 8, 12]
/-- what is known of a drawn disk -/
def DkQ2 (k : Disk) : Prop := (∀ c ∈ k.d, c ∈ ([32, 45, 46, 95] : List Nat)) ∧ (∀ p ∈ k.ts, p ∈ PRS)
theorem okD_sub2 {d : Tx} (h : d.Sublist [32, 45, 46, 95]) : okD d = true := by
  refine okD_iff.mpr ⟨by simpa using h.length_le, fun c hc => ?_, lt_inc (List.Pairwise.sublist h (by decide))⟩
  have := h.subset hc
  have z : ∀ c ∈ ([32, 45, 46, 95] : List Nat), c ∈ g_SIGNS := by decide
  exact z c this
theorem prs_sign : ∀ p ∈ PRS, p.1 ∈ g_SIGNS ∧ p.2 ∈ g_SIGNS := by decide
theorem lim_ix2 (v : Nat) (h : v < 6) : ∃ l : Nat, 1 ≤ l ∧ l ≤ 12 ∧ idxO (.lst [.int 12, .int 1, .int 2, .int 3, .int 8, .int 12]) (.int v) = some (.int l) := by
  have cs : v = 0 ∨ v = 1 ∨ v = 2 ∨ v = 3 ∨ v = 4 ∨ v = 5 := by omega
  rcases cs with rfl | rfl | rfl | rfl | rfl | rfl
  · exact ⟨12, by decide, by decide, rfl⟩
  · exact ⟨1, by decide, by decide, rfl⟩
  · exact ⟨2, by decide, by decide, rfl⟩
  · exact ⟨3, by decide, by decide, rfl⟩
  · exact ⟨8, by decide, by decide, rfl⟩
  · exact ⟨12, by decide, by decide, rfl⟩
def RtK (o : Option Out) : Prop := ∃ k : Disk, DkQ2 k ∧ o = some (.ret k.e)
def Dk2P (s : Scr) (at' : Int) (k : Disk) : Prop := DkQ2 k ∧ Fx i__law_disk_k52 [.scr s.ns, .int at'] = some (.ok k.e)
theorem sp_law_disk2 (s : Scr) (at' : Int) (h0 : 0 ≤ at') (hat : at' < 90000) : ∃ k : Disk, Dk2P s at' k := by
  have hv := dr_lt s at' 4 (by omega) (by omega) (by omega)
  have ev := sp_drawn s at' 4 (by omega) (by omega) (by omega)
  generalize dr s at' 4 = v at hv ev
  have hr := rangeO_nat v (by omega)
  have hw := dr_lt s (at' + 5) 6 (by omega) (by omega) (by omega)
  have ew := sp_drawn s (at' + 5) 6 (by omega) (by omega) (by omega)
  generalize dr s (at' + 5) 6 = w at hw ew
  obtain ⟨l, l1, l2, el⟩ := lim_ix2 w (by omega)
  have eu := sp_drawn s (at' + 10) 2 (by omega) (by omega) (by omega)
  generalize dr s (at' + 10) 2 = u at eu
  suffices h : RtK (evS Fx b__law_disk_k52 (start 10 [.scr s.ns, .int at'])) by
    obtain ⟨k, h1, h2⟩ := h
    exact ⟨k, h1, fx_ret rfl (by decide) rfl h2⟩
  refine wp_asg (.lst ((PRS.take 7).map tu)) rfl (by simp [start, limE, PRS, tu]) ?_
  refine wp_asg (.lst (PRS.map tu)) rfl (by simp [start, limE, PRS, tu, binO]) ?_
  refine wp_asg (.dct [] []) rfl (by simp) ?_
  refine wp_pre (fun pre ρ => ∃ (ts : List (Nat × Nat)) (c4 c7 c8 : Cl), ts.length ≤ pre.length ∧ (ts.map (·.1)).Nodup ∧ (∀ p ∈ ts, p ∈ PRS) ∧ ρ = [.sh (.scr s.ns), .sh (.int at'), .ow (.lst (PRS.map tu)), .ow (.dct (ts.map fun p => [p.1]) (ts.map fun p => D.str [p.2])), c4, .no, .no, c7, c8, .no]) (List.range v) (fun (i : Nat) => .int i) rfl (by simp [start, ev, hr]) ⟨[], .no, .no, .no, by simp, by simp, by simp, rfl⟩ ?_ ?_
  · rintro pre i suf ρ e ⟨ts, c4, c7, c8, h1, h2, h3, rfl⟩
    have hi : i < v := by
      have : i ∈ List.range v := by rw [e]; simp
      exact List.mem_range.mp this
    have hl := congrArg List.length e
    simp at hl
    have hx := dr_lt s (at' + 1 + i) 8 (by omega) (by omega) (by omega)
    have ex := sp_drawn s (at' + 1 + i) 8 (by omega) (by omega) (by omega)
    generalize dr s (at' + 1 + i) 8 = x at hx ex
    obtain ⟨p, hp, ep⟩ := prs_ix x (by omega)
    rw [forB_1]
    refine wp_unp [.str [p.1], .str [p.2]] rfl (by simp [ex, ep, tu]) rfl ?_
    refine wp_putD (ts.map fun p => [p.1]) (ts.map fun p => D.str [p.2]) (.str [p.2]) [p.1] rfl rfl (by simp) (by simp) (by rw [limE]; simp; omega) ?_
    rw [upT_put, s_skip', Nx_nx]
    refine ⟨upT ts p, .sh (.int i), .sh (.str [p.1]), .sh (.str [p.2]), ?_, upT_nodup p ts h2, fun q hq => ?_, by simp⟩
    · have : ∀ ts : List (Nat × Nat), (upT ts p).length ≤ ts.length + 1 := by
        intro ts
        induction ts with
        | nil => simp [upT]
        | cons q ts ih =>
          unfold upT
          split
          · simp
          · simp; exact ih
      have := this ts
      simp
      omega
    · rcases upT_mem p ts q hq with z | z
      · exact h3 q z
      · rw [z]; exact hp
  · rintro ρ ⟨ts, c4, c7, c8, h1, h2, h3, rfl⟩
    simp at h1
    refine wp_asg (.int l) rfl (by simp [ew, el, limE]) ?_
    have ed : ∃ d : Tx, d.Sublist [32, 45, 46, 95] ∧ evE Fx (.mth .join (.cst (.str [])) (.cons (.comp [9] (.one 9) (.ival (.cst (.str [32, 45, 46, 95]))) (.cmp .eq (.call i__law_drawn (.cons (.var 0) (.cons (.bin .add (.bin .add (.bor 1) (.cst (.int 6))) (.mth .index (.cst (.str [32, 45, 46, 95])) (.cons (.bor 9) .nil))) (.cons (.cst (.int 4)) .nil)))) (.cst (.int 0))) (.var 9)) .nil)) [.sh (.scr s.ns), .sh (.int at'), .ow (.lst (PRS.map tu)), .ow (.dct (ts.map fun p => [p.1]) (ts.map fun p => D.str [p.2])), c4, .sh (.int l), .no, c7, c8, .no] = some (.ok (.str d)) := by
      obtain ⟨d, hd, ed⟩ := compX_sub (xs := ([32, 45, 46, 95] : Tx)) (g := fun c => D.str [c]) (f := fun x => tkK (bindTg (.one 9) (.str [x]) (wipeE [.sh (.scr s.ns), .sh (.int at'), .ow (.lst (PRS.map tu)), .ow (.dct (ts.map fun p => [p.1]) (ts.map fun p => D.str [p.2])), c4, .sh (.int l), .no, c7, c8, .no] [9])) (evE Fx (.cmp .eq (.call i__law_drawn (.cons (.var 0) (.cons (.bin .add (.bin .add (.bor 1) (.cst (.int 6))) (.mth .index (.cst (.str [32, 45, 46, 95])) (.cons (.bor 9) .nil))) (.cons (.cst (.int 4)) .nil)))) (.cst (.int 0)))) (evE Fx (.var 9))) (fun c hc => by
        have hj : ∃ j : Nat, j < 4 ∧ findC c [32, 45, 46, 95] 0 = some j := by
          have : ∀ c ∈ ([32, 45, 46, 95] : List Nat), ∃ j : Fin 4, findC c [32, 45, 46, 95] 0 = some j.val := by decide
          obtain ⟨j, e⟩ := this c hc
          exact ⟨j.val, j.isLt, e⟩
        obtain ⟨j, hj, ej⟩ := hj
        have e := sp_drawn s (at' + 6 + j) 4 (by omega) (by omega) (by omega)
        exact ⟨decide (dr s (at' + 6 + j) 4 = 0), by simp [mthO, ej, e]⟩)
      refine ⟨d, hd, ?_⟩
      have hl : d.length ≤ lim := by
        have := hd.length_le
        rw [limE]
        simp at this
        omega
      simp only [v_mth, v_cst, bd_ok, rcv_j, if_true, v_cons, v_nil, v_comp, v_ival, it_s, li_some, compF_map, turnK_d]
      rw [ed]
      simp [hl]
    obtain ⟨d, hd, ed⟩ := ed
    refine wp_asg (.str d) rfl ed ?_
    -- the turns
    let K : List Nat := srtG (fun a b : Nat => decide (a < b)) (ts.map (·.1))
    have hK : ∀ c ∈ K, c ∈ ts.map (·.1) := fun c hc => (srtG_perm _).mem_iff.mp hc
    let bf : Nat → Nat := fun c => if h : c ∈ ts.map (·.1) then Classical.choose (look_ok c ts h) else 0
    have hbf : ∀ c ∈ K, (c, bf c) ∈ ts ∧ assocD [c] (ts.map fun p => [p.1]) (ts.map fun p => D.str [p.2]) = some (.str [bf c]) := fun c hc => by
      have h := hK c hc
      have : bf c = Classical.choose (look_ok c ts h) := by
        show (if h : c ∈ ts.map (·.1) then Classical.choose (look_ok c ts h) else 0) = _
        rw [dif_pos h]
      rw [this]
      exact Classical.choose_spec (look_ok c ts h)
    let T : List (Nat × Nat) := K.map fun c => (c, bf c)
    have hT1 : T.map (·.1) = K := by simp [T, Function.comp_def]
    have hlK : K.length = ts.length := by rw [(srtG_perm _).length_eq]; simp
    have okt : okT T = true := by
      refine okT_iff.mpr ⟨by simp [T, hlK]; omega, fun p hp => ?_, ?_⟩
      · obtain ⟨c, hc, rfl⟩ := List.mem_map.mp hp
        exact prs_sign _ (h3 _ (hbf c hc).1)
      · rw [hT1]
        exact lt_inc (pw_lt h2)
    refine ⟨⟨decide ((u : Int) = 1), T, l, d, okt, l1, l2, okD_sub2 hd⟩, ⟨fun c hc => hd.subset hc, fun p hp => ?_⟩, ?_⟩
    · obtain ⟨c, hc, rfl⟩ := List.mem_map.mp hp
      exact h3 _ (hbf c hc).1
    · have es : bltO .sorted [.dct (ts.map fun p => [p.1]) (ts.map fun p => D.str [p.2])] = some (.lst (K.map fun c => D.str [c])) := by
        show some (D.lst (sortS ((ts.map fun p => [p.1]).map D.str))) = _
        rw [sortS_tx, show (ts.map fun p => [p.1]) = (ts.map (·.1)).map (fun c => [c]) by simp [Function.comp_def], srtT_one]
        simp [K, Function.comp_def]
      have ec : ∀ ρ : Env, ρ = [.sh (.scr s.ns), .sh (.int at'), .sh (.lst (PRS.map tu)), .sh (.dct (ts.map fun p => [p.1]) (ts.map fun p => D.str [p.2])), shut c4, .sh (.int l), .sh (.str d), shut c7, shut c8, .no] → evE Fx (.comp [7] (.one 7) (.ival (.blt .sorted (.cons (.bor 3) .nil))) (.cst (.bl true)) (.tup (.cons (.var 7) (.cons (.idx (.bor 3) (.bor 7)) .nil)))) ρ = some (.ok (.lst (T.map tu))) := by
        rintro ρ rfl
        simp only [v_comp, v_ival, v_blt, v_cons, v_nil, v_bor, List.getElem?_cons_succ, List.getElem?_cons_zero, rBo_sh, bd_ok, es, li_some, it_l, compF_map, turnK_d]
        rw [compX_map (g := fun c => tu (c, bf c)) fun c hc => by
          have := (hbf c hc).2
          simp [idxO, this, limE, tu]]
        simp [T, Function.comp_def]
      show evS Fx (.seq (.ret _) .skip) [.sh (.scr s.ns), .sh (.int at'), .ow (.lst (PRS.map tu)), .ow (.dct (ts.map fun p => [p.1]) (ts.map fun p => D.str [p.2])), c4, .sh (.int l), .sh (.str d), c7, c8, .no] = _
      refine wp_ret (Q := fun o => o = some (.ret _)) _ ?_ rfl
      simp only [frzAll_c, frzAll_n, shut_s, shut_o, shut_n, v_tup, v_cons, v_blt]
      rw [ec _ rfl]
      simp [eu, limE, Disk.e, tD]
open Classical in
noncomputable def dkG (s : Scr) (at' : Int) : Disk := if h : ∃ k, Dk2P s at' k then Classical.choose h else plainD
theorem dkG_spec (s : Scr) (at' : Int) (h0 : 0 ≤ at') (hat : at' < 90000) : Dk2P s at' (dkG s at') := by
  have h : ∃ k, Dk2P s at' k := sp_law_disk2 s at' h0 hat
  unfold dkG
  rw [dif_pos h]
  exact Classical.choose_spec h
theorem sp_dk2 (s : Scr) (at' : Int) (h0 : 0 ≤ at') (hat : at' < 90000) : Fx i__law_disk_k52 [.scr s.ns, .int at'] = some (.ok (dkG s at').e) := (dkG_spec s at' h0 hat).2
open Classical in
noncomputable def nmG (s : Scr) (at' m : Int) : Nm := if h : ∃ n, Nm2P s at' m n then Classical.choose h else ⟨[97], by decide⟩
theorem nmG_spec (s : Scr) (at' m : Int) (h0 : 0 ≤ at') (hat : at' < 90000) (h1 : 0 < m) (h2 : m ≤ 12) : Nm2P s at' m (nmG s at' m) := by
  have h := sp_law_name2 s at' m h0 hat h1 h2
  unfold nmG
  rw [dif_pos h]
  exact Classical.choose_spec h
theorem sp_nm2 (s : Scr) (at' m : Int) (h0 : 0 ≤ at') (hat : at' < 90000) (h1 : 0 < m) (h2 : m ≤ 12) : Fx i__law_name_k52 [.scr s.ns, .int at', .int m] = some (.ok (.str (nmG s at' m).x)) := (nmG_spec s at' m h0 hat h1 h2).2.2
end Mn
end
section
set_option linter.all false
set_option maxRecDepth 100000
set_option maxHeartbeats 1000000
/-! Ld3: the module journeys. -/
namespace Mn
@[simp] theorem fr_min1 (a : E) : fresh (.blt .min1 a) = false := rfl
@[simp] theorem fr_max1 (a : E) : fresh (.blt .max1 a) = false := rfl
@[simp] theorem fr_min2 (a : E) : fresh (.blt .min2 a) = false := rfl
@[simp] theorem fr_max2 (a : E) : fresh (.blt .max2 a) = false := rfl
@[simp] theorem fr_all (a : E) : fresh (.blt .all a) = false := rfl
@[simp] theorem fr_any (a : E) : fresh (.blt .any a) = false := rfl
@[simp] theorem fr_neg (a : E) : fresh (.neg a) = false := rfl
@[simp] theorem fr_not (a : E) : fresh (.not_ a) = false := rfl
@[simp] theorem fr_isi (t : Ty) (a : E) : fresh (.isi t a) = false := rfl
@[simp] theorem fr_get (a b c : E) : fresh (.get a b c) = false := rfl
@[simp] theorem fr_pow (a b : E) : fresh (.bin .pow a b) = false := rfl
@[simp] theorem fr_lenSet (a : E) : fresh (.vw .lenSet a) = false := rfl
@[simp] theorem fr_bor (i : Nat) : fresh (.bor i) = false := rfl
@[simp] theorem compX_filtN {α : Type} (P : α → Prop) [∀ x, Decidable (P x)] (g : α → D) (xs : List α) : compX (fun x => some (if P x then [] else [g x])) xs = some ((xs.filter fun x => !decide (P x)).map g) := by
  refine compX_fmap fun x _ => ?_
  by_cases h : P x <;> simp [h]
abbrev Leg := Disk × Bool
def lg (p : Leg) : D := .tup [p.1.e, .bl p.2]
def jn (js : List Leg) : D := .lst (js.map lg)
@[simp] theorem mkCl_jn (js : List Leg) : mkCl true (jn js) = .ow (jn js) := rfl
@[simp] theorem lg_t (p : Leg) : isiO .tuple (lg p) = some true := rfl
@[simp] theorem lg_l (p : Leg) : bltO .len [lg p] = some (.int 2) := rfl
@[simp] theorem lg_0 (p : Leg) : idxO (lg p) (.int 0) = some p.1.e := by simp [lg]
@[simp] theorem lg_1 (p : Leg) : idxO (lg p) (.int 1) = some (.bl p.2) := by simp [lg]
@[simp] theorem lg_b (p : Leg) (i j : Nat) (ρ : Env) : bindTg (.many [i, j]) (lg p) ρ = some ((ρ.set i (.sh p.1.e)).set j (.sh (.bl p.2))) := by simp [lg]
@[simp] theorem jn_i (js : List Leg) : items (jn js) = some (js.map lg) := rfl
@[simp] theorem jn_t (js : List Leg) : isiO .list (jn js) = some true := rfl
@[simp] theorem jn_l (js : List Leg) : bltO .len [jn js] = some (.int js.length) := by simp [jn]
@[simp] theorem sp_is_leg (p : Leg) : Fx i_is_leg [lg p] = some (.ok (.bl true)) := by
  rw [fx i_is_leg _ rfl (by decide) rfl]
  simp [b_is_leg, start]
theorem sp_check_journey (js : List Leg) (h1 : 1 ≤ js.length) (h2 : js.length ≤ 5) : Fx i_check_journey [jn js] = some (.ok .non) := by
  rw [fx i_check_journey _ rfl (by decide) rfl]
  have q1 : (1 : Int) ≤ js.length := by omega
  have q2 : (js.length : Int) ≤ 5 := by omega
  have q3 : (js.all fun _ => true) = true := List.all_eq_true.mpr fun _ _ => rfl
  simp [b_check_journey, start, q1, q2, q3]
def nxt (p : Leg) (x : Tx) : Tx := if p.2 then p.1.pl x else x
def stp : List Leg → Tx → List Tx
  | [], _ => []
  | p :: r, x => if p.1.pl x = [] then [] else nxt p x :: stp r (nxt p x)
def aft : List Leg → Tx → Option Tx
  | [], x => some x
  | p :: r, x => if p.1.pl x = [] then none else aft r (nxt p x)
theorem pl_len (k : Disk) (x : Tx) : (k.pl x).length ≤ x.length := by
  have := strip_len k.d ((x.map k.img).take k.l)
  unfold Disk.pl
  simp at this
  omega
theorem nxt_len (p : Leg) (x : Tx) : (nxt p x).length ≤ x.length := by
  unfold nxt
  split
  · exact pl_len _ _
  · exact Nat.le_refl _
theorem stp_le : ∀ (js : List Leg) (x : Tx), (stp js x).length ≤ js.length
  | [], _ => Nat.le_refl _
  | p :: r, x => by
    unfold stp
    split
    · simp
    · have := stp_le r (nxt p x)
      simp; exact this
theorem stp_aft : ∀ (js : List Leg) (x : Tx), (stp js x).length = js.length ↔ (aft js x).isSome = true
  | [], x => by simp [stp, aft]
  | p :: r, x => by
    unfold stp aft
    split
    · simp
    · have := stp_aft r (nxt p x)
      simp; exact this
theorem stp_last : ∀ (js : List Leg) (x y : Tx), js ≠ [] → aft js x = some y → (stp js x).getLast? = some y
  | [], _, _, h, _ => absurd rfl h
  | [p], x, y, _, h => by
    unfold aft at h
    unfold stp
    split at h
    · cases h
    · rename_i z
      have h : nxt p x = y := by simpa [aft] using h
      simp [z, stp, h]
  | p :: q :: r, x, y, _, h => by
    unfold aft at h
    unfold stp
    split at h
    · cases h
    · rename_i z
      have ih := stp_last (q :: r) (nxt p x) y (by simp) h
      simp only [z, if_false]
      rw [List.getLast?_cons, ih]
      rfl
theorem wp_forO {F : Nat → List D → M D} {α : Type} {tg : Tg} {e : E} {t r : S} {ρ ρ1 : Env} {Q : Option Out → Prop} (o : Option Out) (xs : List α) (k : α → D) (hv : frz (vars e) ρ = ρ1) (he : evI F e ρ1 = some (.ok (xs.map k))) (hf : forX (fun x => forB tg (evS F t) (k x)) xs ρ1 = o) (h : Q (seqK o (evS F r))) : Q (evS F (.seq (.for_ tg e t) r) ρ) := by
  rw [s_seq', s_for', hv, he, go_ok, forF_map, hf]
  exact h
theorem steps_loop (J : D) : ∀ (js : List Leg) (x : Tx) (acc : List Tx) (c3 c4 c5 : Cl), x.length ≤ 12 → acc.length + js.length ≤ 100 → forX (fun p => forB (.many [3, 4]) (evS Fx (bodyOf (nextOf b_find_steps))) (lg p)) js [.sh J, .sh (.str x), .ow (.lst (acc.map D.str)), c3, c4, c5] = some (.ret (.lst ((acc ++ stp js x).map D.str))) ∨ ∃ y d3 d4 d5, forX (fun p => forB (.many [3, 4]) (evS Fx (bodyOf (nextOf b_find_steps))) (lg p)) js [.sh J, .sh (.str x), .ow (.lst (acc.map D.str)), c3, c4, c5] = some (.nx [.sh J, .sh (.str y), .ow (.lst ((acc ++ stp js x).map D.str)), d3, d4, d5])
  | [], x, acc, c3, c4, c5, _, _ => .inr ⟨x, c3, c4, c5, by simp [forX, stp]⟩
  | p :: r, x, acc, c3, c4, c5, hx, hl => by
    have e1 := sp_place_of' p.1 x (by omega)
    have hl2 : acc.length < 16777216 := by simp at hl; omega
    by_cases h : p.1.pl x = []
    · left
      have eb : forB (.many [3, 4]) (evS Fx (bodyOf (nextOf b_find_steps))) (lg p) [.sh J, .sh (.str x), .ow (.lst (acc.map D.str)), c3, c4, c5] = some (.ret (.lst (acc.map D.str))) := by
        simp [bodyOf, nextOf, b_find_steps, e1, h]
      unfold forX
      rw [eb]
      simp [stp, h]
    · have eb : forB (.many [3, 4]) (evS Fx (bodyOf (nextOf b_find_steps))) (lg p) [.sh J, .sh (.str x), .ow (.lst (acc.map D.str)), c3, c4, c5] = some (.nx [.sh J, .sh (.str (nxt p x)), .ow (.lst ((acc ++ [nxt p x]).map D.str)), .sh p.1.e, .sh (.bl p.2), .sh (.str (p.1.pl x))]) := by
        unfold nxt
        cases hb : p.2 <;> simp [bodyOf, nextOf, b_find_steps, e1, h, hb, limE, hl2]
      unfold forX
      rw [eb]
      have ih := steps_loop J r (nxt p x) (acc ++ [nxt p x]) (.sh p.1.e) (.sh (.bl p.2)) (.sh (.str (p.1.pl x))) (by have := nxt_len p x; omega) (by simp at hl ⊢; omega)
      have es : acc ++ stp (p :: r) x = acc ++ [nxt p x] ++ stp r (nxt p x) := by simp [stp, h]
      rw [es]
      exact ih
theorem sp_find_steps (js : List Leg) (x : Tx) (hj : js.length ≤ 50) (hx : x.length ≤ 12) : Fx i_find_steps [jn js, .str x] = some (.ok (.lst ((stp js x).map D.str))) := by
  refine fx_ret rfl (by decide) rfl ?_
  refine wp_asg (.lst []) rfl (by simp [start, limE]) ?_
  have z := steps_loop (jn js) js x [] .no .no .no hx (by simp; omega)
  simp only [List.nil_append, List.map_nil] at z
  rcases z with z | ⟨y, c3, c4, c5, z⟩
  · exact wp_forO _ js lg rfl (by simp [start]) z rfl
  · refine wp_forO _ js lg rfl (by simp [start]) z ?_
    simp
theorem sp_find_after (js : List Leg) (x : Tx) (h1 : js ≠ []) (hj : js.length ≤ 50) (hx : x.length ≤ 12) : Fx i_find_after [jn js, .str x] = some (.ok (match aft js x with | some y => .str y | none => .non)) := by
  rw [fx i_find_after _ rfl (by decide) rfl]
  have e := sp_find_steps js x hj hx
  have ha := stp_aft js x
  cases h : aft js x with
  | none =>
    have : ¬ (stp js x).length = js.length := fun z => by rw [ha, h] at z; cases z
    have : ¬ ((stp js x).length : Int) = js.length := by omega
    simp [b_find_after, start, e, this]
  | some y =>
    have h2 : (stp js x).length = js.length := ha.mpr (by rw [h]; rfl)
    have h3 := stp_last js x y h1 h
    have h4 : stp js x ≠ [] := fun z => by rw [z] at h3; cases h3
    have h5 : idxO (.lst ((stp js x).map D.str)) (.int (-1)) = some (.str y) := by
      rw [x_lastL _ (by simpa using h4)]
      rw [List.getLast_map]
      have := List.getLast?_eq_some_getLast h4
      rw [this] at h3
      rw [Option.some.inj h3]
    simp [b_find_after, start, e, h2, h5]
def oD : Option Tx → D
  | some y => .str y
  | none => .non
theorem oD_m (o : Option Tx) : (match o with | some y => D.str y | none => .non) = oD o := by cases o <;> rfl
theorem sp_steps (js : List Leg) (n : Nm) (h1 : 1 ≤ js.length) (h2 : js.length ≤ 5) : Fx i_steps [jn js, .str n.x] = some (.ok (.lst ((stp js n.x).map D.str))) := by
  rw [fx i_steps _ rfl (by decide) rfl]
  simp [b_steps, start, sp_check_journey js h1 h2, sp_find_steps js n.x (by omega) n.len]
theorem sp_after (js : List Leg) (n : Nm) (h1 : 1 ≤ js.length) (h2 : js.length ≤ 5) : Fx i_after [jn js, .str n.x] = some (.ok (oD (aft js n.x))) := by
  rw [fx i_after _ rfl (by decide) rfl]
  have := sp_find_after js n.x (by intro z; rw [z] at h1; simp at h1) (by omega) n.len
  rw [oD_m] at this
  simp [b_after, start, sp_check_journey js h1 h2, this]
theorem oD_eq (o : Option Tx) (x : Tx) : cmpO .eq (oD o) (.str x) = some (decide (o = some x)) := by
  cases o with
  | none => rfl
  | some y => simp [oD]
theorem oD_ne (o : Option Tx) (x : Tx) : cmpO .ne (oD o) (.str x) = some (!decide (o = some x)) := by
  cases o with
  | none => rfl
  | some y => simp [oD]
theorem oD_ne2 (o p : Option Tx) : cmpO .ne (oD o) (oD p) = some (!decide (o = p)) := by
  cases o with
  | none => cases p <;> rfl
  | some y =>
    cases p with
    | none => rfl
    | some z => simp [oD]
theorem oD_non (o : Option Tx) : isNon (oD o) = o.isNone := by cases o <;> rfl
theorem sp_comes_back (js : List Leg) (n : Nm) (h1 : 1 ≤ js.length) (h2 : js.length ≤ 5) : Fx i_comes_back [jn js, .str n.x] = some (.ok (.bl (decide (aft js n.x = some n.x)))) := by
  rw [fx i_comes_back _ rfl (by decide) rfl]
  simp [b_comes_back, start, sp_after js n h1 h2, oD_eq]
/-! names that change -/
def chg (js : List Leg) : List Nat := g_SIGNS.filter fun c => !decide (aft js [c] = some [c])
def lms (js : List Leg) : List Nat := (js.filter (·.2)).map (·.1.l)
def minI (m : Nat) : List Nat → Nat
  | [] => m
  | x :: xs => minI (if x < m then x else m) xs
theorem minL_nat : ∀ (xs : List Nat) (m : Nat), minL (.int m) (xs.map fun (x : Nat) => D.int x) = .int (minI m xs)
  | [], m => rfl
  | x :: xs, m => by
    simp only [List.map_cons, minL, minI, ltS]
    rw [← minL_nat xs]
    congr 1
    by_cases h : x < m
    · have h' : (x : Int) < m := by omega
      simp [h]
    · have h' : ¬ (x : Int) < m := by omega
      simp [h]
theorem minI_le : ∀ (xs : List Nat) (m : Nat), minI m xs ≤ m ∧ (∀ x ∈ xs, minI m xs ≤ x) ∧ (minI m xs = m ∨ minI m xs ∈ xs)
  | [], m => ⟨Nat.le_refl _, (fun _ h => nomatch h), .inl rfl⟩
  | x :: xs, m => by
    obtain ⟨a, b, c⟩ := minI_le xs (if x < m then x else m)
    unfold minI
    have h1 : (if x < m then x else m) ≤ m := by split <;> omega
    have h2 : (if x < m then x else m) ≤ x := by split <;> omega
    refine ⟨Nat.le_trans a h1, fun y hy => ?_, ?_⟩
    · rcases List.mem_cons.mp hy with e | hy
      · rw [e]; exact Nat.le_trans a h2
      · exact b y hy
    · rcases c with c | c
      · by_cases h : x < m
        · rw [if_pos h] at c ⊢
          exact .inr (by rw [c]; exact List.mem_cons_self)
        · rw [if_neg h] at c ⊢
          exact .inl c
      · exact .inr (List.mem_cons_of_mem _ c)
/-- the least limit of the disks that store, at most 12 -/
def lst12 (js : List Leg) : Nat := match lms js ++ [12] with
  | [] => 12
  | x :: xs => minI x xs
theorem lst12_spec (js : List Leg) : lst12 js ≤ 12 ∧ (∀ p ∈ js, p.2 = true → lst12 js ≤ p.1.l) ∧ (lst12 js = 12 ∨ ∃ p ∈ js, p.2 = true ∧ p.1.l = lst12 js) := by
  unfold lst12
  have hm : ∀ p ∈ js, p.2 = true → p.1.l ∈ lms js := fun p hp hb => List.mem_map.mpr ⟨p, List.mem_filter.mpr ⟨hp, hb⟩, rfl⟩
  have hm2 : ∀ l ∈ lms js, ∃ p ∈ js, p.2 = true ∧ p.1.l = l := fun l hl => by
    obtain ⟨p, hp, e⟩ := List.mem_map.mp hl
    obtain ⟨h1, h2⟩ := List.mem_filter.mp hp
    exact ⟨p, h1, h2, e⟩
  cases h : lms js with
  | nil =>
    refine ⟨Nat.le_refl _, fun p hp hb => ?_, .inl rfl⟩
    have := hm p hp hb
    rw [h] at this
    cases this
  | cons x xs =>
    obtain ⟨a, b, c⟩ := minI_le (xs ++ [12]) x
    show minI x (xs ++ [12]) ≤ 12 ∧ (∀ p ∈ js, p.2 = true → minI x (xs ++ [12]) ≤ p.1.l) ∧ (minI x (xs ++ [12]) = 12 ∨ ∃ p ∈ js, p.2 = true ∧ p.1.l = minI x (xs ++ [12]))
    refine ⟨b 12 (by simp), fun p hp hb => ?_, ?_⟩
    · have := hm p hp hb
      rw [h] at this
      rcases List.mem_cons.mp this with e | e
      · rw [e]; exact a
      · exact b _ (List.mem_append.mpr (.inl e))
    · rcases c with c | c
      · exact .inr (hm2 _ (by rw [h, c]; exact List.mem_cons_self))
      · rcases List.mem_append.mp c with c | c
        · exact .inr (hm2 _ (by rw [h]; exact List.mem_cons_of_mem _ c))
        · exact .inl (by simpa using c)
theorem okMin_nat (l : List Nat) : okMin (l.map fun (x : Nat) => D.int x) = true := by
  unfold okMin
  rw [Bool.or_eq_true, Bool.or_eq_true]
  refine .inl (.inl (List.all_eq_true.mpr fun d hd => ?_))
  obtain ⟨x, _, rfl⟩ := List.mem_map.mp hd
  rfl
def fch (js : List Leg) : Option Tx := match chg js with
  | c :: _ => some [c]
  | [] => if lst12 js = 12 then none else some (repL [122] (lst12 js + 1))
theorem sp_find_changed (js : List Leg) (h1 : js ≠ []) (h2 : js.length ≤ 50) : Fx i_find_changed [jn js] = some (.ok (oD (fch js))) := by
  have e : ∀ c : Nat, Fx i_find_after [jn js, .str [c]] = some (.ok (oD (aft js [c]))) := fun c => by
    have := sp_find_after js [c] h1 h2 (by simp)
    rwa [oD_m] at this
  have hl := (lst12_spec js).1
  refine fx_ret rfl (by decide) rfl ?_
  refine wp_asg (.lst ((chg js).map fun c => .str [c])) rfl (by simp [start, e, oD_ne, chg]) ?_
  cases h : chg js with
  | cons c r =>
    have hc := ne_strs (fun c : Nat => [c]) (c :: r)
    refine wp_if (c := true) rfl (by
      simp at hc
      simp [start, limE, hc]) ?_
    simp [start, fch, h, oD]
  | nil =>
    refine wp_if (c := false) rfl (by
      have hc := ne_strs (fun c : Nat => [c]) []
      simp at hc
      simp [start, limE, hc]) ?_
    simp only [Bool.false_eq_true, if_false, s_skip', seqK_n]
    have em : bltO .min1 [.lst ((lms js ++ [12]).map fun (x : Nat) => D.int x)] = some (.int (lst12 js)) := by
      have ok := okMin_nat (lms js ++ [12])
      unfold lst12
      cases hx : lms js ++ [12] with
      | nil => simp at hx
      | cons x xs =>
        rw [hx] at ok
        simp only [List.map_cons] at ok ⊢
        simp only [bltO, ok, if_true, minL_nat]
    have hlen : (lms js).length ≤ js.length := by
      unfold lms
      rw [List.length_map]
      exact List.length_filter_le _ _
    have el : (js.filter fun x => x.2).map (fun x => D.int (x.1.l : Int)) = (lms js).map fun (x : Nat) => D.int x := by
      unfold lms
      rw [List.map_map]
      rfl
    refine wp_asg (.int (lst12 js)) rfl (by
      simp [start, limE]
      rw [el]
      have l2 : (lms js).length + 1 ≤ 16777216 := by omega
      simp at em
      simp [binO, limE, l2, em]) ?_
    refine wp_ret (oD (fch js)) ?_ rfl
    have z : idxO (.str g_SIGNS) (.int (-1)) = some (.str [122]) := rfl
    by_cases h12 : lst12 js = 12
    · simp [start, h12, fch, h, oD]
    · have h12' : ¬ (lst12 js : Int) = 12 := by omega
      have q1 : (0 : Int) ≤ (lst12 js : Int) + 1 := by omega
      have q2 : (lst12 js : Int) + 1 ≤ 1000 := by omega
      simp [start, h12, h12', fch, h, oD, z, q1, q2]
theorem sp_all_come_back (js : List Leg) (h1 : 1 ≤ js.length) (h2 : js.length ≤ 5) : Fx i_all_come_back [jn js] = some (.ok (.bl (fch js).isNone)) := by
  rw [fx i_all_come_back _ rfl (by decide) rfl]
  have := sp_find_changed js (by intro z; rw [z] at h1; simp at h1) (by omega)
  simp [b_all_come_back, start, sp_check_journey js h1 h2, this, oD_non]
theorem sp_changed_name (js : List Leg) (h1 : 1 ≤ js.length) (h2 : js.length ≤ 5) : Fx i_changed_name [jn js] = some (.ok (oD (fch js))) := by
  rw [fx i_changed_name _ rfl (by decide) rfl]
  have := sp_find_changed js (by intro z; rw [z] at h1; simp at h1) (by omega)
  simp [b_changed_name, start, sp_check_journey js h1 h2, this]
end Mn
end
section
set_option linter.all false
set_option maxRecDepth 100000
set_option maxHeartbeats 1000000
/-! K03a: whole sets: groups, safe parts, the greatest of them. -/
namespace Mn
theorem insF_map {α : Type} (e : α → D) (x : α) : ∀ ys : List α, insF (e x) (ys.map e) = (insG (fun a b => ltS (e a) (e b)) x ys).map e
  | [] => rfl
  | y :: ys => by
    simp only [List.map_cons, insF, insG]
    split
    · rw [List.map_cons, insF_map e x ys]
    · rfl
theorem sortS_map {α : Type} (e : α → D) : ∀ l : List α, sortS (l.map e) = (srtG (fun a b => ltS (e a) (e b)) l).map e
  | [] => rfl
  | x :: xs => by
    simp only [List.map_cons, sortS, srtG]
    rw [sortS_map e xs, insF_map]
/-! groups -/
def gro (p : Tx × List Nm) : D := .tup [.str p.1, nt p.2]
theorem enc_gro : Enc 2 gro := enc_str.pair enc_nt
theorem zip_gro : ∀ acc : List (Tx × List Nm), zipKV (acc.map (·.1)) (acc.map fun q => nt q.2) = acc.map gro
  | [] => rfl
  | p :: r => by
    simp only [List.map_cons, zipKV, zip_gro r]
    rfl
def srtGr (acc : List (Tx × List Nm)) : List (Tx × List Nm) := srtG (fun a b => ltS (gro a) (gro b)) acc
theorem okK_nt (p : List Nm) : okK (.all .s) (nt p) = true := by
  show (p.map fun n => D.str n.x).all (okK .s) = true
  rw [List.all_eq_true]
  intro d hd
  obtain ⟨n, _, rfl⟩ := List.mem_map.mp hd
  rfl
theorem sortO_gro (l : List (Tx × List Nm)) : sortO (l.map gro) = some ((srtGr l).map gro) := by
  have k : kindOk (.two .s (.all .s)) (l.map gro) = true := by
    unfold kindOk
    rw [Bool.and_eq_true]
    have h : ∀ d ∈ l.map gro, okK (.two .s (.all .s)) d = true ∧ tupNe d = true := fun d hd => by
      obtain ⟨p, _, rfl⟩ := List.mem_map.mp hd
      refine ⟨?_, rfl⟩
      show (okK .s (.str p.1) && okK (.all .s) (nt p.2)) = true
      rw [okK_nt]
      rfl
    refine ⟨List.all_eq_true.mpr fun d hd => (h d hd).1, ?_⟩
    rw [Bool.or_eq_true]
    exact .inl (List.all_eq_true.mpr fun d hd => (h d hd).2)
  unfold sortO
  rw [if_pos (by rw [k]; simp), sortS_map]
  rfl
theorem items_bp (acc : List (Tx × List Nm)) : vwO .sortItems (bpD acc) = some (.lst ((srtGr acc).map gro)) := by
  show (sortO (zipKV (acc.map (·.1)) (acc.map fun q => nt q.2))).map D.lst = _
  rw [zip_gro, sortO_gro]
  rfl
theorem sp_groups (k : Disk) (ns : List Nm) (h1 : ns.length ≤ 8) (h2 : IncT (ns.map (·.x)) = true) : Fx i_groups [k.e, nt ns] = some (.ok (.lst ((srtGr (bps k ns)).map gro))) := by
  rw [fx i_groups _ rfl (by decide) rfl]
  simp [b_groups, start, sp_check_names ns h1 h2, sp_by_places k ns (by omega), items_bp]
theorem sp_is_safe (k : Disk) (ns : List Nm) (h1 : ns.length ≤ 8) (h2 : IncT (ns.map (·.x)) = true) : Fx i_is_safe [k.e, nt ns] = some (.ok (.bl (decide (Sf k ns)))) := by
  rw [fx i_is_safe _ rfl (by decide) rfl]
  simp [b_is_safe, start, sp_check_names ns h1 h2, sp_are_safe k ns (by omega)]
theorem sf_bps (k : Disk) (ns : List Nm) : (!decide ([] ∈ (bps k ns).map (·.1)) && decide ((bps k ns).length = ns.length)) = decide (Sf k ns) := by
  have e1 := bps_keys k ns [] []
  have e2 := (bps_cnt k ns []).2
  simp only [List.map_nil, List.not_mem_nil, false_or, List.length_nil, Nat.zero_add, not_false_eq_true, implies_true, and_true] at e1 e2
  have q1 : ([] ∈ (bps k ns).map (·.1)) ↔ [] ∈ ns.map fun n => k.pl n.x := e1
  have q2 : (bps k ns).length = ns.length ↔ (ns.map fun n => k.pl n.x).Nodup := e2
  rw [Bool.eq_iff_iff]
  simp only [Sf, q1, q2, decide_eq_true_eq, Bool.and_eq_true, Bool.not_eq_true', decide_eq_false_iff_not]
  exact decide_eq_true_iff.symm
/-! the greatest of some numbers -/
def mxN : List Nat → Nat
  | [] => 0
  | x :: xs => max x (mxN xs)
theorem mxN_le : ∀ {l : List Nat} {x : Nat}, x ∈ l → x ≤ mxN l
  | y :: l, x, h => by
    rcases List.mem_cons.mp h with z | z
    · rw [z]; exact Nat.le_max_left _ _
    · exact Nat.le_trans (mxN_le z) (Nat.le_max_right _ _)
theorem mxN_mem : ∀ {l : List Nat}, l ≠ [] → mxN l ∈ l
  | [], h => absurd rfl h
  | [x], _ => by simp [mxN]
  | x :: y :: l, _ => by
    have ih := mxN_mem (l := y :: l) (by simp)
    show max x (mxN (y :: l)) ∈ _
    rcases Nat.le_total x (mxN (y :: l)) with z | z
    · rw [Nat.max_eq_right z]; exact List.mem_cons_of_mem _ ih
    · rw [Nat.max_eq_left z]; exact List.mem_cons_self
theorem mxN_eq {l : List Nat} {m : Nat} (h1 : m ∈ l) (h2 : ∀ x ∈ l, x ≤ m) : mxN l = m :=
  Nat.le_antisymm (h2 _ (mxN_mem fun z => by rw [z] at h1; cases h1)) (mxN_le h1)
theorem mxN_perm {l m : List Nat} (h : l.Perm m) : mxN l = mxN m := by
  by_cases z : l = []
  · subst z
    rw [List.nil_perm.mp h]
  · exact (mxN_eq (h.mem_iff.mp (mxN_mem z)) fun x hx => mxN_le (h.mem_iff.mpr hx)).symm
theorem mxN_snoc (x : Nat) : ∀ l : List Nat, mxN (l ++ [x]) = max (mxN l) x
  | [] => by simp [mxN]
  | y :: l => by
    simp only [List.cons_append, mxN, mxN_snoc x l, Nat.max_assoc]
theorem maxL_int : ∀ (xs : List Nat) (x : Nat), maxL (.int x) (xs.map fun (n : Nat) => D.int n) = .int (mxN (x :: xs) : Nat)
  | [], x => by simp [maxL, mxN]
  | y :: xs, x => by
    simp only [List.map_cons, maxL]
    have e : (if ltS (.int (x : Int)) (.int (y : Int)) then D.int (y : Int) else .int (x : Int)) = .int ((max x y : Nat) : Int) := by
      simp only [ltS]
      by_cases h : x < y
      · have : (x : Int) < y := by omega
        simp [this, Nat.max_eq_right (Nat.le_of_lt h)]
      · have : ¬ (x : Int) < y := by omega
        simp [this, Nat.max_eq_left (Nat.le_of_not_lt h)]
    rw [e, maxL_int xs (max x y)]
    congr 2
    simp only [mxN, Nat.max_assoc]
theorem max1_int (l : List Nat) (h : l ≠ []) : bltO .max1 [.lst (l.map fun (n : Nat) => D.int n)] = some (.int (mxN l : Nat)) := by
  cases l with
  | nil => exact absurd rfl h
  | cons x xs =>
    have ok : okMin ((x :: xs).map fun (n : Nat) => D.int n) = true := by
      unfold okMin
      rw [Bool.or_eq_true, Bool.or_eq_true]
      refine .inl (.inl ?_)
      rw [List.all_eq_true]
      intro d hd
      obtain ⟨n, _, rfl⟩ := List.mem_map.mp hd
      rfl
    show (if okMin ((x :: xs).map fun (n : Nat) => D.int n) then some (maxL (.int x) (xs.map fun (n : Nat) => D.int n)) else none) = _
    rw [if_pos ok, maxL_int]
/-! safe parts -/
def gdP (k : Disk) (l : List (List Nm)) : List (List Nm) := l.filter fun p => decide (Sf k p)
def mxP (l : List (List Nm)) : Nat := mxN (l.map List.length)
def bestP (l : List (List Nm)) (m : Nat) : List (List Nm) := l.filter fun p => decide (p.length = m)
theorem srtN_G : ∀ l : List (List Nm), srtN l = srtG (fun a b : List Nm => ltS (nt a) (nt b)) l := by
  have ins : ∀ (x : List Nm) (ys : List (List Nm)), insN x ys = insG (fun a b : List Nm => ltS (nt a) (nt b)) x ys := fun x ys => by
    induction ys with
    | nil => rfl
    | cons y ys ih => simp only [insN, insG, ih]
  intro l
  induction l with
  | nil => rfl
  | cons x l ih => simp only [srtN, srtG, ih, ins]
theorem srtN_filter (f : List Nm → Bool) (l : List (List Nm)) : srtN (l.filter f) = (srtN l).filter f := by
  rw [srtN_G, srtN_G]
  exact pw_unique sto_nt _ _ (srtG_pw sto_nt _) ((srtG_pw sto_nt l).filter f) ((srtG_perm _).trans ((srtG_perm l).filter f).symm)
theorem nil_allP (ns : List Nm) : [] ∈ allP ns := List.mem_of_mem_head? (by rw [allP_head]; rfl)
theorem sf_nil (k : Disk) : Sf k [] := ⟨by simp, by simp⟩
theorem gd_ne (k : Disk) (ns : List Nm) : gdP k (allP ns) ≠ [] := fun z => by
  have : [] ∈ gdP k (allP ns) := List.mem_filter.mpr ⟨nil_allP ns, decide_eq_true (sf_nil k)⟩
  rw [z] at this; cases this
theorem sp_safe_parts (k : Disk) (ns : List Nm) (h1 : ns.length ≤ 8) (h2 : IncT (ns.map (·.x)) = true) : Fx i_safe_parts [k.e, nt ns] = some (.ok (.lst ((srtN (bestP (gdP k (allP ns)) (mxP (gdP k (allP ns))))).map nt))) := by
  have e0 : gdP k (srtN (allP ns)) = srtN (gdP k (allP ns)) := (srtN_filter _ _).symm
  have hm : mxP (gdP k (srtN (allP ns))) = mxP (gdP k (allP ns)) := by
    rw [e0]
    exact mxN_perm ((srtN_perm _).map _)
  have hne : (gdP k (srtN (allP ns))).map List.length ≠ [] := fun z => by
    have z := List.map_eq_nil_iff.mp z
    rw [e0] at z
    have q := (srtN_perm (gdP k (allP ns))).length_eq
    rw [z] at q
    exact gd_ne k ns (List.eq_nil_of_length_eq_zero q.symm)
  have e1 := max1_int _ hne
  have e1 : bltO .max1 [.lst ((gdP k (srtN (allP ns))).map fun p => D.int p.length)] = some (.int (mxP (gdP k (allP ns)) : Nat)) := by
    rw [← hm]
    rw [List.map_map] at e1
    exact e1
  have hl : ∀ p ∈ srtN (allP ns), p.length ≤ 1000 := fun p hp => by
    have := (allP_bd ns).1 p ((srtN_perm _).mem_iff.mp hp)
    omega
  have ec : compX (fun p : List Nm => tkC (nx (Fx i_are_safe [k.e, nt p])) (some (nt p))) (srtN (allP ns)) = some ((gdP k (srtN (allP ns))).map nt) := compX_fmap fun p hp => by
    rw [sp_are_safe k p (hl p hp)]
    cases decide (Sf k p) <;> rfl
  have eb : bestP (gdP k (srtN (allP ns))) (mxP (gdP k (allP ns))) = srtN (bestP (gdP k (allP ns)) (mxP (gdP k (allP ns)))) := by
    rw [e0]
    exact (srtN_filter _ _).symm
  rw [← eb]
  generalize mxP (gdP k (allP ns)) = M at *
  generalize eA : gdP k (srtN (allP ns)) = A at *
  have b1 : ∀ p : List Nm, decide ((p.length : Int) = (M : Int)) = decide (p.length = M) := fun p => decide_eq_decide.mpr (by omega)
  have fm : ∀ as : E, fresh (.blt .max1 as) = false := fun _ => rfl
  rw [fx i_safe_parts _ rfl (by decide) rfl]
  simp [b_safe_parts, start, sp_check_names ns h1 h2, sp_parts' ns h1, ec, e1, bestP, fm, b1]
/-! how many they are -/
def keyN (k : Disk) (ns : List Nm) : List Tx := ((bps k ns).map (·.1)).filter fun x => decide (x ≠ [])
theorem bps_nodup (k : Disk) : ∀ (ns : List Nm) (acc : List (Tx × List Nm)), (acc.map (·.1)).Nodup → ((ns.foldl (bpl k) acc).map (·.1)).Nodup
  | [], acc, h => h
  | n :: ns, acc, h => by
    refine bps_nodup k ns _ ?_
    rw [bpl_fst]
    split
    · exact h
    · rename_i z
      exact List.nodup_append.mpr ⟨h, by simp, fun a ha b hb => by
        rw [List.mem_singleton.mp hb]
        exact fun e => z (e ▸ ha)⟩
theorem best_ex (k : Disk) (ns : List Nm) : ∃ p ∈ allP ns, (p.map fun n => k.pl n.x) = keyN k ns := by
  have rev : ∀ (m : Nat) (ns : List Nm), ns.length = m → ∃ p ∈ allP ns, (p.map fun n => k.pl n.x) = keyN k ns := by
    intro m
    induction m with
    | zero =>
      intro ns h
      obtain rfl := List.eq_nil_of_length_eq_zero h
      exact ⟨[], nil_allP [], rfl⟩
    | succ m ih =>
      intro ns h
      have hne : ns ≠ [] := fun z => by rw [z] at h; simp at h
      obtain ⟨pre, n, rfl⟩ : ∃ pre n, ns = pre ++ [n] := ⟨ns.dropLast, ns.getLast hne, (List.dropLast_concat_getLast hne).symm⟩
      obtain ⟨p, hp, ep⟩ := ih pre (by simpa using h)
      have ek : (bps k (pre ++ [n])).map (·.1) = if k.pl n.x ∈ (bps k pre).map (·.1) then (bps k pre).map (·.1) else (bps k pre).map (·.1) ++ [k.pl n.x] := by
        rw [bps_snoc, bpl_fst]
      rw [allP_snoc]
      by_cases z : k.pl n.x ∈ (bps k pre).map (·.1)
      · rw [if_pos z] at ek
        exact ⟨p, List.mem_append.mpr (.inl hp), by rw [ep]; unfold keyN; rw [ek]⟩
      · rw [if_neg z] at ek
        by_cases y : k.pl n.x = []
        · refine ⟨p, List.mem_append.mpr (.inl hp), ?_⟩
          rw [ep]; unfold keyN; rw [ek, List.filter_append, y]
          simp
        · refine ⟨p ++ [n], List.mem_append.mpr (.inr (List.mem_map.mpr ⟨p, hp, rfl⟩)), ?_⟩
          rw [List.map_append, ep]; unfold keyN; rw [ek, List.filter_append]
          simp [y]
  exact rev _ ns rfl
theorem best_len (k : Disk) (ns : List Nm) : mxP (gdP k (allP ns)) = (keyN k ns).length := by
  have nd : (keyN k ns).Nodup := (bps_nodup k ns [] (by simp)).filter _
  obtain ⟨p, hp, ep⟩ := best_ex k ns
  have sp : Sf k p := ⟨by rw [ep]; unfold keyN; simp, by rw [ep]; exact nd⟩
  unfold mxP
  refine mxN_eq (List.mem_map.mpr ⟨p, List.mem_filter.mpr ⟨hp, decide_eq_true sp⟩, ?_⟩) ?_
  · rw [← ep, List.length_map]
  · intro x hx
    obtain ⟨q, hq, rfl⟩ := List.mem_map.mp hx
    obtain ⟨hq, sq⟩ := List.mem_filter.mp hq
    have sq := of_decide_eq_true sq
    have sub := allP_sub hq
    have := nd_sub_len (q.map fun n => k.pl n.x) (keyN k ns) sq.2 fun c hc => by
      refine List.mem_filter.mpr ⟨?_, decide_eq_true fun z => sq.1 (z ▸ hc)⟩
      refine (bps_keys k ns [] c).mpr (.inr ?_)
      obtain ⟨n, hn, e⟩ := List.mem_map.mp hc
      exact List.mem_map.mpr ⟨n, sub.subset hn, e⟩
    rw [List.length_map] at this
    exact this
end Mn
end
section
set_option linter.all false
set_option maxRecDepth 100000
set_option maxHeartbeats 1000000
/-! K03: whole sets. -/
namespace Mn
theorem evK {F : Nat → List D → M D} {i : Nat} {own : List Nat} {tg : Tg} {c e : E} {ρ : Env} {ks : List Tx} {ds : List D} (zs : List D) (h : ρ[i]? = some (.ow (.dct ks ds))) (hc : compF (turnK own tg (evE F c) (evE F e) (ρ.set i (.sh (.dct ks ds)))) (ks.map .str) = some zs) (hn : noD (.lst zs) = true) : evE F (.compK own tg i c e) ρ = some (.ok (.lst zs)) := by
  rw [v_compK, h]
  simp only [compKK, hc, hn, if_true]
theorem noDs_all : ∀ xs : List D, (∀ x ∈ xs, noD x = true) → noD.noDs xs = true
  | [], _ => rfl
  | x :: xs, h => by
    simp only [noD.noDs, h x List.mem_cons_self, noDs_all xs fun y hy => h y (List.mem_cons_of_mem _ hy), Bool.and_self]
theorem noD_nt (p : List Nm) : noD (nt p) = true := by
  show noD.noDs _ = true
  refine noDs_all _ fun x hx => ?_
  obtain ⟨n, _, rfl⟩ := List.mem_map.mp hx
  rfl
theorem noD_gro (l : List (Tx × List Nm)) : noD (.lst (l.map gro)) = true := by
  show noD.noDs _ = true
  refine noDs_all _ fun x hx => ?_
  obtain ⟨p, _, rfl⟩ := List.mem_map.mp hx
  show noD.noDs [.str p.1, nt p.2] = true
  simp only [noD.noDs, noD_nt, noD, Bool.and_self]
theorem noD_str (l : List Tx) : noD (.lst (l.map D.str)) = true := by
  show noD.noDs _ = true
  refine noDs_all _ fun x hx => ?_
  obtain ⟨p, _, rfl⟩ := List.mem_map.mp hx
  rfl
theorem assoc_at : ∀ (acc : List (Tx × List Nm)), (acc.map (·.1)).Nodup → ∀ p ∈ acc, assocD p.1 (acc.map (·.1)) (acc.map fun q => nt q.2) = some (nt p.2)
  | [], _, _, h => nomatch h
  | q :: r, nd, p, h => by
    have nd' := List.nodup_cons.mp (show (q.1 :: r.map (·.1)).Nodup from nd)
    simp only [List.map_cons, assocD]
    rcases List.mem_cons.mp h with z | z
    · rw [z]; simp
    · have : ¬ q.1 = p.1 := fun e => nd'.1 (by rw [e]; exact List.mem_map.mpr ⟨p, z, rfl⟩)
      simp [this, assoc_at r nd'.2 p z]
theorem sortO_best (l : List (List Nm)) (m : Nat) (h : ∀ p ∈ l, p.length = m) : sortO (l.map nt) = some ((srtN l).map nt) := by
  have k : kindOk (.all .s) (l.map nt) = true := by
    unfold kindOk
    rw [Bool.and_eq_true]
    constructor
    · rw [List.all_eq_true]
      intro d hd
      obtain ⟨p, _, rfl⟩ := List.mem_map.mp hd
      exact okK_nt p
    · rw [Bool.or_eq_true]
      cases l with
      | nil => exact .inl rfl
      | cons a l =>
        cases m with
        | zero =>
          have : a = [] := List.eq_nil_of_length_eq_zero (h a List.mem_cons_self)
          subst this
          exact .inr rfl
        | succ m =>
          refine .inl (List.all_eq_true.mpr fun d hd => ?_)
          obtain ⟨p, hp, rfl⟩ := List.mem_map.mp hd
          have := h p hp
          cases p with
          | nil => simp at this
          | cons x p => rfl
  unfold sortO
  rw [if_pos (by rw [k]; simp), sortS_nt]
def I03 (s : Scr) (ρ : Env) : Prop := ∃ c1 c2 c3 c4 c5 c6 c7 c8 c9 c10 : Cl, ρ = [.sh (.scr s.ns), c1, c2, c3, c4, shut c5, c6, c7, c8, shut c9, c10, .no]
def J03 (s : Scr) (ρ : Env) : Prop := ∃ (k : Disk) (c1 c3 c4 c5 c6 c7 c8 c9 c10 : Cl), ρ = [.sh (.scr s.ns), c1, .sh k.e, c3, c4, shut c5, c6, c7, c8, shut c9, c10, .no]
theorem k03_body (s : Scr) (i : Nat) (hi3 : i < 3) (ρ : Env) (h : I03 s ρ) : Nx (J03 s) (forB (.one 1) (evS Fx (bodyOf b_law_k03)) (.int i) ρ) := by
  obtain ⟨c1, c2, c3, c4, c5, c6, c7, c8, c9, c10, rfl⟩ := h
  have ek := sp_dk s (90 * i) (by omega) (by omega)
  obtain ⟨ns, hn0, hi, _, en⟩ := sp_law_names s (90 * i + 25) 6 (by omega) (by omega) (by omega) (by omega)
  have hn : ns.length ≤ 6 := by omega
  generalize dkF s (90 * i) = k at *
  have eg := sp_groups k ns (by omega) hi
  have es := sp_is_safe k ns (by omega) hi
  have ep := sp_safe_parts k ns (by omega) hi
  have hl := best_len k ns
  rw [forB_1]
  refine wp_par k.e (nt ns) rfl (by simp [ek]) (by simp [en]) ?_
  refine wp_asg (.dct [] []) rfl (by simp) ?_
  refine wp_pre (fun pre ρ => ∃ c5 : Cl, ρ = [.sh (.scr s.ns), .sh (.int i), .sh k.e, .sh (nt ns), .ow (bpD (bps k pre)), shut c5, c6, c7, c8, shut c9, c10, .no]) ns (fun n => .str n.x) rfl (by simp) ⟨c5, rfl⟩ ?_ ?_
  · rintro pre n suf ρ e ⟨c5, rfl⟩
    have hp : pre.length ≤ 6 := by rw [e] at hn; simp at hn; omega
    obtain ⟨b1, b2⟩ := bps_bd k pre
    have hlim : lim = 16777216 := rfl
    have ha := atP_le (k.pl n.x) _ b2
    rw [forB_1]
    refine wp_putD ((bps k pre).map (·.1)) ((bps k pre).map fun q => nt q.2) (nt (atP (k.pl n.x) (bps k pre) ++ [n])) (k.pl n.x) rfl rfl ?_ (by simp) (by rw [List.length_map]; omega) ?_
    · have e1 := assoc_bp (k.pl n.x) (bps k pre)
      have e2 := add_nt (atP (k.pl n.x) (bps k pre)) n (by omega)
      simp [bpD, rcv, mthO, e1, e2, limE]
    · rw [put_bp, ← bps_snoc]
      exact ⟨_, rfl, .sh (.str n.x), rfl⟩
  · rintro ρ ⟨c5, rfl⟩
    have nd : ((bps k ns).map (·.1)).Nodup := bps_nodup k ns [] (by simp)
    have eK : ∀ ρ : Env, ρ[4]? = some (.ow (bpD (bps k ns))) → 11 < ρ.length → evE Fx (.compK [11] (.one 11) 4 (.cst (.bl true)) (.tup (.cons (.var 11) (.cons (.idx (.bor 4) (.bor 11)) .nil)))) ρ = some (.ok (.lst ((bps k ns).map gro))) := fun ρ h h11 => by
      refine evK _ h ?_ (noD_gro _)
      rw [List.map_map, show (D.str ∘ fun q : Tx × List Nm => q.1) = fun q => D.str q.1 from rfl, compF_map]
      refine compX_map fun p hp => ?_
      have e4 : 4 < ρ.length := by omega
      have ea := assoc_at _ nd p hp
      simp [turnK, bindTg, wipeE, List.getElem?_set, h11, e4, idxO, ea, limE, gro]
    have eK2 : ∀ ρ : Env, ρ[4]? = some (.ow (bpD (bps k ns))) → 11 < ρ.length → evE Fx (.compK [11] (.one 11) 4 (.cmp .ne (.bor 11) (.cst (.str []))) (.var 11)) ρ = some (.ok (.lst ((keyN k ns).map D.str))) := fun ρ h h11 => by
      refine evK _ h ?_ (noD_str _)
      rw [compF_map]
      refine (compX_fmap (p := fun x : Tx => decide (x ≠ [])) fun x hx => ?_).trans rfl
      have e4 : 4 < ρ.length := by omega
      by_cases hx : x = []
      · simp [turnK, bindTg, wipeE, List.getElem?_set, h11, e4, hx]
      · simp [turnK, bindTg, wipeE, List.getElem?_set, h11, e4, hx]
    have nK := eK [.sh (.scr s.ns), .sh (.int i), .sh k.e, .sh (nt ns), .ow (bpD (bps k ns)), shut c5, c6, c7, c8, shut c9, c10, .no] rfl (by simp)
    have eG := enc_gro.lst.cne (by decide) (srtGr (bps k ns)) (srtGr (bps k ns))
    have eG : cmpO .ne (.lst ((srtGr (bps k ns)).map gro)) (.lst ((srtGr (bps k ns)).map gro)) = some false := by simpa using eG
    have hsb := sf_bps k ns
    refine wp_no rfl (by
      simp [eg, nK, bltO, sortO_gro, eG]) ?_
    refine wp_no rfl (by
      have q : decide (((bps k ns).length : Int) = ns.length) = decide ((bps k ns).length = ns.length) := decide_eq_decide.mpr (by omega)
      simp [es, bpD, d_notIn, d_len]
      rw [q]
      exact hsb.symm) ?_
    refine wp_par (.lst [.tup []]) (.int 0) rfl (by simp [limE]) (by simp) ?_
    refine wp_pre (fun pre ρ => ∃ c5 : Cl, ρ = [.sh (.scr s.ns), .sh (.int i), .sh k.e, .sh (nt ns), .ow (bpD (bps k ns)), shut c5, .ow (.lst ((allP pre).map nt)), .sh (.int 0), c8, shut c9, c10, .no]) ns (fun n => .str n.x) rfl (by simp) ⟨c5, rfl⟩ ?_ ?_
    · rintro pre n suf ρ e ⟨c5, rfl⟩
      have hp : pre.length ≤ 8 := by rw [e] at hn; simp at hn; omega
      obtain ⟨b1, b2⟩ := allP_bd pre
      have hlim : lim = 16777216 := rfl
      have b3 : (allP pre).length ≤ 256 := by rw [b2]; exact Nat.pow_le_pow_right (by decide) hp
      rw [forB_1]
      refine wp_asg (.lst ((allP (pre ++ [n])).map nt)) rfl ?_ ⟨_, rfl, .sh (.str n.x), rfl⟩
      have add : ∀ p ∈ allP pre, binO .add (nt p) (.tup [.str n.x]) = some (nt (p ++ [n])) := fun p hp' => add_nt p n (by have := b1 p hp'; omega)
      have l2 : (allP pre).length + (allP pre).length ≤ 16777216 := by omega
      simp [limE]
      rw [compX_map (g := fun p => nt (p ++ [n])) (fun p hp' => by simp [add p hp'])]
      simp [allP_snoc, subs, limE, binO, l2, Function.comp_def]
    · rintro ρ ⟨c5, rfl⟩
      obtain ⟨b1, b2⟩ := allP_bd ns
      refine wp_asg (.lst []) rfl (by simp [limE]) ?_
      refine wp_pre (fun pre ρ => ∃ c5 c9 c10 : Cl, ρ = [.sh (.scr s.ns), .sh (.int i), .sh k.e, .sh (nt ns), .ow (bpD (bps k ns)), shut c5, .sh (.lst ((allP ns).map nt)), .sh (.int (mxP (gdP k pre))), .ow (.lst ((gdP k pre).map nt)), shut c9, c10, .no]) (allP ns) nt rfl (by simp) ⟨c5, c9, c10, rfl⟩ ?_ ?_
      · rintro pre p suf ρ e ⟨c5, c9, c10, rfl⟩
        rw [forB_1]
        have hpm : p ∈ allP ns := by rw [e]; simp
        have hpl := b1 p hpm
        let l : List Tx := p.map fun n => k.pl n.x
        have e0 : (p.map fun n => D.str (k.pl n.x)) = l.map D.str := by simp [l, Function.comp_def]
        have hll : l.length < 4000 := by simp [l]; omega
        have e1 := in_strL' [] l
        have e1' : cmpO .notIn (.str []) (.lst (l.map .str)) = some (!decide ([] ∈ l)) := by
          show (inO (.str []) (.lst (l.map .str))).map (!·) = _
          have e : inO (.str []) (.lst (l.map .str)) = some (decide ([] ∈ l)) := e1
          rw [e]
          rfl
        have e2 := lenSet_tx l hll
        have q : decide (Sf k p) = (!decide ([] ∈ l) && decide (((dedup l).length : Int) = l.length)) := by
          have h1 := dd_eq l
          rw [Bool.eq_iff_iff]
          have : Sf k p ↔ [] ∉ l ∧ l.Nodup := Iff.rfl
          rw [decide_eq_true_iff, this, ← h1]
          simp
          omega
        refine wp_asg (.lst (l.map D.str)) rfl (by simp [e0]) ?_
        simp only [vars_var, vars_bor, vars_cst, vars_bin, vars_neg, vars_not, vars_and, vars_or, vars_cmp, vars_chn, vars_vw, vars_ite, vars_call, vars_blt, vars_mth, vars_idx, vars_slc, vars_isi, vars_get, vars_tup, vars_lst, vars_dct, vars_comp, vars_comp2, vars_compK, vars_nil, vars_cons, vars_ival, vars_irng, vars_izip, vars_ienum, fr_lst, fr_dct, fr_comp, fr_comp2, fr_compK, fr_slc, fr_add, fr_mul, fr_sub, fr_fdiv, fr_mod, fr_list, fr_sorted, fr_dict, fr_tuple, fr_len, fr_var, fr_cst, fr_idx, fr_ite, fr_call, fr_mth, fr_tup, fr_and, fr_or, fr_cmp, fr_min1, fr_max1, fr_min2, fr_max2, fr_all, fr_any, fr_neg, fr_not, fr_isi, fr_get, fr_pow, fr_lenSet, fr_bor, frz_n, frz_c, frzK_o, frzK_s, frzK_n, frzK_j, mkCl_f, mkCl_l, mkCl_d, mkCl_s, mkCl_t, mkCl_i, mkCl_nt, mkCl_e, setAll_n, setAll_c, frzAll_c, frzAll_n, shut_s, shut_o, shut_n, shut_2, List.set_cons_succ, List.set_cons_zero, List.getElem?_cons_succ, List.getElem?_cons_zero, List.nil_append, List.cons_append, List.append_nil, start, List.replicate, Nat.reduceAdd, Nat.reduceSub, List.map_cons, List.map_nil, List.length_cons, List.length_nil]
        refine wp_if (c := decide (Sf k p)) rfl (by
          simp [e1', e2, q]) ?_
        have hlt : (gdP k pre).length < 16777216 := by
          have h1 : (gdP k pre).length ≤ pre.length := List.length_filter_le _ _
          have h2 := congrArg List.length e
          rw [b2] at h2
          have h3 : 2 ^ ns.length ≤ 2 ^ 6 := Nat.pow_le_pow_right (by decide) hn
          simp at h2
          omega
        cases hs : decide (Sf k p) with
        | true =>
          have hg : gdP k (pre ++ [p]) = gdP k pre ++ [p] := by simp [gdP, List.filter_append, hs]
          have hx : mxP (gdP k pre ++ [p]) = max (mxP (gdP k pre)) p.length := by
            unfold mxP
            rw [List.map_append, List.map_singleton, mxN_snoc]
          rw [hg, hx]
          simp [limE, hlt]
          split <;> omega
        | false =>
          have hg : gdP k (pre ++ [p]) = gdP k pre := by simp [gdP, List.filter_append, hs]
          rw [hg]
          simp
      · rintro ρ ⟨c5, c9, c10, rfl⟩
        have nK2 := eK2 [.sh (.scr s.ns), .sh (.int i), .sh k.e, .sh (nt ns), .ow (bpD (bps k ns)), shut c5, .sh (.lst ((allP ns).map nt)), .sh (.int (mxP (gdP k (allP ns)))), .ow (.lst ((gdP k (allP ns)).map nt)), shut c9, c10, .no] rfl (by simp)
        have eB := sortO_best (bestP (gdP k (allP ns)) (mxP (gdP k (allP ns)))) (mxP (gdP k (allP ns))) fun p hp => of_decide_eq_true (List.mem_filter.mp hp).2
        have eN := enc_nt.lst.cne (by decide) (srtN (bestP (gdP k (allP ns)) (mxP (gdP k (allP ns))))) (srtN (bestP (gdP k (allP ns)) (mxP (gdP k (allP ns)))))
        have eN : cmpO .ne (.lst ((srtN (bestP (gdP k (allP ns)) (mxP (gdP k (allP ns))))).map nt)) (.lst ((srtN (bestP (gdP k (allP ns)) (mxP (gdP k (allP ns))))).map nt)) = some false := by simpa using eN
        have b1 : ∀ p : List Nm, decide ((p.length : Int) = (mxP (gdP k (allP ns)) : Int)) = decide (p.length = mxP (gdP k (allP ns))) := fun p => decide_eq_decide.mpr (by omega)
        have eb : (gdP k (allP ns)).filter (fun p => decide ((p.length : Int) = (mxP (gdP k (allP ns)) : Int))) = bestP (gdP k (allP ns)) (mxP (gdP k (allP ns))) := by
          unfold bestP
          congr 1
          funext p
          exact b1 p
        refine wp_no rfl (by
          have eS : bltO .sorted [.lst (((gdP k (allP ns)).filter fun x => decide (x.length = mxP (gdP k (allP ns)))).map nt)] = some (.lst ((srtN (bestP (gdP k (allP ns)) (mxP (gdP k (allP ns))))).map nt)) := by
            show (sortO ((bestP (gdP k (allP ns)) (mxP (gdP k (allP ns)))).map nt)).map D.lst = _
            rw [eB]
            rfl
          simp [ep, b1, eS, eN]) ?_
        simp only [vars_var, vars_bor, vars_cst, vars_bin, vars_neg, vars_not, vars_and, vars_or, vars_cmp, vars_chn, vars_vw, vars_ite, vars_call, vars_blt, vars_mth, vars_idx, vars_slc, vars_isi, vars_get, vars_tup, vars_lst, vars_dct, vars_comp, vars_comp2, vars_compK, vars_nil, vars_cons, vars_ival, vars_irng, vars_izip, vars_ienum, fr_lst, fr_dct, fr_comp, fr_comp2, fr_compK, fr_slc, fr_add, fr_mul, fr_sub, fr_fdiv, fr_mod, fr_list, fr_sorted, fr_dict, fr_tuple, fr_len, fr_var, fr_cst, fr_idx, fr_ite, fr_call, fr_mth, fr_tup, fr_and, fr_or, fr_cmp, fr_min1, fr_max1, fr_min2, fr_max2, fr_all, fr_any, fr_neg, fr_not, fr_isi, fr_get, fr_pow, fr_lenSet, fr_bor, frz_n, frz_c, frzK_o, frzK_s, frzK_n, frzK_j, mkCl_f, mkCl_l, mkCl_d, mkCl_s, mkCl_t, mkCl_i, mkCl_nt, mkCl_e, setAll_n, setAll_c, frzAll_c, frzAll_n, shut_s, shut_o, shut_n, shut_2, List.set_cons_succ, List.set_cons_zero, List.getElem?_cons_succ, List.getElem?_cons_zero, List.nil_append, List.cons_append, List.append_nil, start, List.replicate, Nat.reduceAdd, Nat.reduceSub, List.map_cons, List.map_nil, List.length_cons, List.length_nil]
        refine wp_no rfl (by
          simp only [hl] at nK2
          simp [hl, nK2]) ?_
        rw [s_skip', Nx_nx]
        exact ⟨k, _, _, _, c5, _, _, _, c9, _, rfl⟩
theorem k03_law (s : Scr) : Fx i_law_k03 [.scr s.ns] = some (.ok (.bl true)) := by
  refine fx_ret rfl (by decide) rfl ?_
  refine wp_pre (fun pre ρ => I03 s ρ ∧ (pre = [] ∨ J03 s ρ)) (List.range 3) (fun (i : Nat) => .int i) rfl (by simp) ⟨⟨.no, .no, .no, .no, .no, .no, .no, .no, .no, .no, rfl⟩, .inl rfl⟩ ?_ ?_
  · rintro pre i suf ρ e ⟨h, _⟩
    obtain ⟨ρ', e1, h1⟩ := k03_body s i (List.mem_range.mp (by rw [e]; simp)) ρ h
    refine ⟨ρ', e1, ?_, .inr h1⟩
    obtain ⟨k, c1, c3, c4, c5, c6, c7, c8, c9, c10, rfl⟩ := h1
    exact ⟨_, _, _, _, _, _, _, _, _, _, rfl⟩
  · rintro ρ ⟨_, h | h⟩
    · simp at h
    · obtain ⟨k, c1, c3, c4, c5, c6, c7, c8, c9, c10, rfl⟩ := h
      have e1 := sp_groups k [] (by simp) rfl
      have e2 := sp_is_safe k [] (by simp) rfl
      have e3 := sp_safe_parts k [] (by simp) rfl
      have t3 : srtN (bestP (gdP k (allP [])) (mxP (gdP k (allP [])))) = [[]] := by
        have h1 : gdP k (allP []) = [[]] := by
          show ([[]] : List (List Nm)).filter (fun p => decide (Sf k p)) = _
          simp [sf_nil]
        rw [h1]
        rfl
      rw [t3] at e3
      have e1 : Fx i_groups [k.e, .tup []] = some (.ok (.lst [])) := e1
      have e2 : Fx i_is_safe [k.e, .tup []] = some (.ok (.bl true)) := by
        rw [decide_eq_true (sf_nil k)] at e2
        exact e2
      have e3 : Fx i_safe_parts [k.e, .tup []] = some (.ok (.lst [.tup []])) := e3
      have q1 : cmpO .eq (.lst []) (.lst []) = some true := by decide +kernel
      have q2 : cmpO .eq (.lst [.tup []]) (.lst [.tup []]) = some true := by decide +kernel
      have q3 : cmpO .is (.bl true) (.bl true) = some true := by decide +kernel
      simp [limE, e1, e2, e3, q1, q2, q3]
end Mn
end
theorem PySem.Challenge.cw_portnames_k03_whole_sets_holds : PySem.Challenge.rw_portnames_k03_whole_sets.Holds := by
  exact Mn.K03.holds fun ns h => Mn.k03_law ⟨ns, h⟩
