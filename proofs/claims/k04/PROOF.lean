import PyProof.Rows.All
import Wide.All
import OpenK.AllK
import Wide.FinOn
import HandS.ForMost
import HandS.ForExc
import HandS.Flow
import HandS.Style
import HandS.Wide
import HandS.IsInst
import HandS.TupAny
import HandS.TupMul
import HandS.Deep
import HandS.StrMore
import HandS.Zip
import HandS.NoneIn
import HandS.Defaults
import HandS.Small
import HandS.RaiseMore
import KE.SortData
import HandS.Set
import HandS.Strs
import HandS.SetKeys
import HandS.TupSets
import HandS.Star
import KE.GoesEnum
import KE.GoesMore
import PySem.Challenge.RW_exceptionturns_k04_bases_or_none
set_option Elab.async false
set_option linter.all false
set_option maxRecDepth 100000
/-! An evaluator of a small part of the language over plain data (trees), whose soundness against the model is shown in the texts behind this one. -/
namespace Ev
open PySem PySem.Spec PyProof.Rows L2

abbrev D := PyData

/-- how a value is held: shared (never changed again), owned by one slot alone, a parameter that the callee changes for its caller -/
inductive Fl where
  | sh | ow | io
  deriving DecidableEq

inductive Bop where
  | add | sub | mul | fdiv | mod | pow
  deriving DecidableEq
inductive Cop where
  | eq | ne | lt | le | gt | ge | isin | nin | isn | notn
  deriving DecidableEq
inductive Blt where
  | len | list | tuple | abs | int | all | any | min | max | sum | str
  deriving DecidableEq
inductive Mth where
  | split | index | count | join | startswith
  deriving DecidableEq
inductive Ty where
  | list | tuple | str | bool | int | dict
  deriving DecidableEq
/-- targets -/
inductive Tg where
  | name (i : Nat) | pair (a b : Tg) | trip (a b c : Tg)
  deriving DecidableEq

mutual
inductive E where
  | bad
  | cst (d : D)
  | var (i : Nat)
  | bin (op : Bop) (a b : E)
  | neg (a : E)
  | not (a : E)
  | and (a b : E)
  | or (a b : E)
  | cmp (op : Cop) (a b : E)
  | cmp2 (op op' : Cop) (a b c : E)
  | ife (c a b : E)
  | call (f : Nat) (args : Es)
  | callK (f : Nat) (args kws : Es) (perm : List Nat)
  | blt (b : Blt) (args : Es)
  | mth (m : Mth) (o : E) (args : Es)
  | pop (i : Nat)
  | popAt (i : Nat) (k : E)
  | isi (a : E) (ts : List Ty)
  | ix (a i : E)
  | slc (a : E) (lo hi : Eo)
  | lst (es : Es)
  | tup (es : Es)
  | dct
  | dctK
  | dctK1 (k v : D)
  | rev (a : E)
  | setOf (a : E)
  | srt (a : E)
  | sset (a : E)
  | lset (a : E)
  | comp (own : List Nat) (tg : Tg) (it : It) (c : Eo) (e : E)
  | comp2 (own own1 : List Nat) (tg : Tg) (it : It) (c : Eo) (tg1 : Tg) (it1 : It) (c1 : Eo) (e : E)
inductive Es where
  | nil
  | cons (e : E) (es : Es)
  | star (e : E) (es : Es)
inductive Eo where
  | no
  | yes (e : E)
inductive It where
  | seq (e : E)
  | range1 (a : E)
  | range2 (a b : E)
  | range3 (a b c : E)
  | enum (e : E)
  | zip (a b : E)
end

inductive S where
  | bad
  | pass | brk | cnt
  | expr (e : E)
  | app (i : Nat) (e : E)
  | ext (i : Nat) (e : E)
  | set (i : Nat) (e : E)
  | asg (tg : Tg) (e : E)
  | par2 (i j : Nat) (a b : E)
  | par3 (i j k : Nat) (a b c : E)
  | put (i : Nat) (k v : E)
  | aug (op : Bop) (i : Nat) (e : E)
  | ret (e : E)
  | retN
  | ite (c : E) (a b : S)
  | for_ (tg : Tg) (it : It) (b : S)
  | while_ (c : E) (b : S)
  | seq (a b : S)

abbrev Slot := Option (D × Fl)
abbrev Env := List Slot

/-- what an expression comes to: a value, or the thing that a slot owns -/
inductive R where
  | v (d : D) (f : Fl)
  | s (i : Nat)

/-- a function's run: the values of the arguments (whether changed for the caller), the answer, and what has become of the changed ones -/
abbrev CallF := Nat → List D → Option (D × Fl × List D)

/-! ### what a result is now -/
def rd (r : R) (env : Env) : Option D :=
  match r with
  | .v d _ => some d
  | .s i => match env[i]? with
    | some (some (d, _)) => some d
    | _ => none
/-- the result is to be kept in another thing: it is shared from now on -/
def fz (r : R) (env : Env) : Option (D × Env) :=
  match r with
  | .v d _ => some (d, env)
  | .s i => match env[i]? with
    | some (some (d, .ow)) => some (d, env.set i (some (d, .sh)))
    | some (some (d, .sh)) => some (d, env)
    | _ => none

/-! ### plain data -/
abbrev LINE : Nat := 16777216
def shapedD (d : D) : Bool := SeqAt.shaped d
def eqD : D → D → Option Bool
  | .none, .none => some true
  | .none, .int _ => some false
  | .int _, .none => some false
  | .none, .bool _ => some false
  | .bool _, .none => some false
  | .none, .str _ => some false
  | .str _, .none => some false
  | .int i, .int j => some (decide (i = j))
  | .bool i, .bool j => some (decide (i = j))
  | .str i, .str j => some (decide (i = j))
  | .int _, .str _ => some false
  | .str _, .int _ => some false
  | .bool _, .str _ => some false
  | .str _, .bool _ => some false
  | a, b => if shapedD a && shapedD b then some (PyData.eqv a b) else none
def truD : D → Option Bool
  | .none => some false
  | .bool b => some b
  | .int i => some (i != 0)
  | .str y => if y.length ≤ LINE then some ((y.length : Int) != 0) else none
  | .list xs => some (!xs.isEmpty)
  | .tuple xs => some (!xs.isEmpty)
  | .dict _ => none
def okR (r : D × Fl) : Option (D × Fl) := some r
def ite' {α : Type} (c : Bool) (x : Option α) : Option α := if c = true then x else none
def binD : Bop → D → D → Option (D × Fl)
  | .add, .int i, .int j => some (.int (i + j), .sh)
  | .sub, .int i, .int j => some (.int (i - j), .sh)
  | .mul, .int i, .int j => ite' (decide ((-(2 ^ 64) < i ∧ i < 2 ^ 64) ∨ (-(2 ^ 64) < j ∧ j < 2 ^ 64))) (some (.int (i * j), .sh))
  | .fdiv, .int i, .int j => ite' (decide (0 < j ∧ j < 1073741824)) (some (.int (i / j), .sh))
  | .mod, .int i, .int j => ite' (decide (0 < j)) (some (.int (i % j), .sh))
  | .pow, .int i, .int j => ite' (decide (0 ≤ j ∧ j ≤ 1000000 ∧ i.natAbs < 2 ^ 64)) (some (.int (i ^ j.toNat), .sh))
  | .add, .str a, .str b => ite' (decide (a.length + b.length ≤ LINE)) (some (.str (a ++ b), .sh))
  | .add, .list a, .list b => ite' (decide (a.length + b.length ≤ LINE)) (some (.list (a ++ b), .ow))
  | .add, .tuple a, .tuple b => ite' (decide (a.length + b.length ≤ LINE)) (some (.tuple (a ++ b), .sh))
  | .mul, .list a, .int k => ite' (decide (-(2 ^ 63) ≤ k ∧ k < 2 ^ 63 ∧ a.length * k.toNat ≤ LINE)) (some (.list (List.replicate k.toNat a).flatten, .ow))
  | .mul, .str a, .int k => ite' (decide (0 ≤ k ∧ k ≤ 1000 ∧ a.length ≤ 1000)) (some (.str ⟨(List.replicate k.toNat a.cps).foldl (· ++ ·) #[]⟩, .sh))
  | .mul, .tuple a, .int k => ite' (!a.isEmpty && decide (2 ≤ k ∧ k ≤ 1000 ∧ a.length ≤ 1000)) (some (.tuple (List.replicate k.toNat a).flatten, .sh))
  | _, _, _ => none
def inStr (x z : Str) : Bool :=
  match x.cps.toList with
  | [c] => decide (c ∈ z.cps.toList)
  | _ => !(Builtin.Str.occurrences z x 0 z.length 1).isEmpty
def isNone : D → Bool
  | .none => true
  | _ => false
def keyD : D → Option Key
  | .int i => some (.inl i)
  | .str x => some (.inr x)
  | _ => none
def keysD : List D → Option (List Key)
  | [] => some []
  | d :: ds => match keyD d, keysD ds with
    | some k, some ks => some (k :: ks)
    | _, _ => none
/-- the tuples that the text's constants are: no keys -/
def lockD : List D → Bool
  | [.str a] => decide (a = ("**" : Str))
  | [.str a, .str b] => decide (a = ("keep" : Str)) && decide (b = ("out" : Str))
  | [.tuple [.str a]] => decide (a = ("**" : Str))
  | [.str a, .str b, .str c, .str d, .str e] => decide (a = ("put" : Str)) && decide (b = ("take" : Str))
  | _ => false
def keyT (l : List D) : Option (List Key) := if lockD l = true then none else keysD l
/-- the look-up by equal trees (keys are tuples of ints and texts) -/
def dGet (kvs : List (D × D)) (ks : List Key) : Option D :=
  match kvs with
  | [] => none
  | (k, v) :: r => match k with
    | .tuple l => if keysD l = some ks then some v else dGet r ks
    | _ => dGet r ks
def dHas (kvs : List (D × D)) (ks : List Key) : Bool :=
  kvs.any fun kv => match kv.1 with
    | .tuple l => decide (keysD l = some ks)
    | _ => false
def dSet (kvs : List (D × D)) (ks : List Key) (v : D) : List (D × D) :=
  kvs.map fun kv => match kv.1 with
    | .tuple l => if keysD l = some ks then (kv.1, v) else kv
    | _ => kv
def dPut (kvs : List (D × D)) (l : List D) (ks : List Key) (v : D) : List (D × D) :=
  if dHas kvs ks = true then dSet kvs ks v else kvs ++ [(.tuple l, v)]
/-- a dict whose keys are ints and texts bears this mark ahead of its pairs; these stand under one-tuples -/
def mkD : D × D := (.none, .none)
def unMk : List (D × D) → Option (List (D × D))
  | (.none, .none) :: r => some r
  | _ => none
def ixK (kvs : List (D × D)) (d : D) : Option D := match unMk kvs with
  | some r => (match keyD d with
    | some k => dGet r [k]
    | none => none)
  | none => (match d with
    | .tuple l => (match keyT l with
      | some ks => dGet kvs ks
      | none => none)
    | _ => none)
def hasK (kvs : List (D × D)) (d : D) : Option Bool := match unMk kvs with
  | some r => (match keyD d with
    | some k => some (dHas r [k])
    | none => none)
  | none => (match d with
    | .tuple l => (match keyT l with
      | some ks => some (dHas kvs ks)
      | none => none)
    | _ => none)
def putKD (kvs : List (D × D)) (d v : D) : Option (List (D × D)) := match unMk kvs with
  | some r => (match keyD d with
    | some k => some (mkD :: dPut r [d] [k] v)
    | none => none)
  | none => (match d with
    | .tuple l => (match keyT l with
      | some ks => some (dPut kvs l ks v)
      | none => none)
    | _ => none)
def cmpD : Cop → D → D → Option Bool
  | .eq, a, b => eqD a b
  | .ne, a, b => (eqD a b).map (!·)
  | .lt, .int i, .int j => some (decide (i < j))
  | .le, .int i, .int j => some (decide (i ≤ j))
  | .gt, .int i, .int j => some (decide (j < i))
  | .ge, .int i, .int j => some (decide (j ≤ i))
  | .lt, .str i, .str j => some (decide (i.cps.toList < j.cps.toList))
  | .isin, .str i, .str j => some (inStr i j)
  | .nin, .str i, .str j => some (!inStr i j)
  | .isin, d, .list ds => ite' (shapedD d && shapedD (.list ds)) (some (ds.any fun z => PyData.eqv z d))
  | .nin, d, .list ds => ite' (shapedD d && shapedD (.list ds)) (some (!ds.any fun z => PyData.eqv z d))
  | .isin, d, .tuple ds => ite' (shapedD d && shapedD (.tuple ds)) (some (ds.any fun z => PyData.eqv z d))
  | .nin, d, .tuple ds => ite' (shapedD d && shapedD (.tuple ds)) (some (!ds.any fun z => PyData.eqv z d))
  | .isin, d, .dict kvs => hasK kvs d
  | .nin, d, .dict kvs => (hasK kvs d).map (!·)
  | .isn, d, .none => some (isNone d)
  | .notn, d, .none => some (!isNone d)
  | _, _, _ => none
def ixD : D → D → Option D
  | .list xs, .int i => atI xs i
  | .tuple xs, .int i => atI xs i
  | .str z, .int i => if z.length ≤ LINE then (atI z.cps.toList i).map fun c => .str ⟨#[c]⟩ else none
  | .dict kvs, d => ixK kvs d
  | _, _ => none
def cutD (xs : List D) (lo hi : Option Int) : List D := (xs.drop (HT.sIx xs.length 0 lo)).take (HT.sIx xs.length xs.length hi - HT.sIx xs.length 0 lo)
def slcD : D → Option Int → Option Int → Option (D × Fl)
  | .list xs, lo, hi => some (.list (cutD xs lo hi), .ow)
  | .tuple xs, lo, hi => some (.tuple (cutD xs lo hi), .sh)
  | .str z, lo, hi => if z.length ≤ LINE then some (.str (cutS z lo hi), .sh) else none
  | _, _, _ => none
def revD : D → Option (D × Fl)
  | .list xs => some (.list xs.reverse, .ow)
  | .tuple xs => some (.tuple xs.reverse, .sh)
  | _ => none
def starD : D → Option (List D)
  | .list xs => some xs
  | .tuple xs => some xs
  | _ => none
def flatD : D → Bool
  | .none => true
  | .bool _ => true
  | .int _ => true
  | .str _ => true
  | _ => false
def intsD : List D → Option (List Int)
  | [] => some []
  | .int i :: r => (intsD r).map (i :: ·)
  | _ :: _ => none
def boolsD : List D → Option (List Bool)
  | [] => some []
  | .bool i :: r => (boolsD r).map (i :: ·)
  | _ :: _ => none
def strsD : List D → Option (List Str)
  | [] => some []
  | .str i :: r => (strsD r).map (i :: ·)
  | _ :: _ => none
def maxI : Int → List Int → Int
  | m, [] => m
  | m, x :: r => maxI (if m < x then x else m) r
def minI : Int → List Int → Int
  | m, [] => m
  | m, x :: r => minI (if x < m then x else m) r
def bltD : Blt → List D → Option (D × Fl)
  | .len, [.list xs] => some (.int xs.length, .sh)
  | .len, [.tuple xs] => some (.int xs.length, .sh)
  | .len, [.str z] => if z.length ≤ LINE then some (.int z.length, .sh) else none
  | .list, [.list xs] => some (.list xs, .ow)
  | .list, [.tuple xs] => some (.list xs, .ow)
  | .tuple, [.list xs] => some (.tuple xs, .sh)
  | .tuple, [.tuple xs] => some (.tuple xs, .sh)
  | .abs, [.int i] => some (.int (if i < 0 then -i else i), .sh)
  | .int, [.int i] => some (.int i, .sh)
  | .int, [.bool b] => some (.int (if b then 1 else 0), .sh)
  | .all, [.list xs] => (boolsD xs).map fun bs => (.bool (bs.all id), .sh)
  | .any, [.list xs] => (boolsD xs).map fun bs => (.bool (bs.any id), .sh)
  | .sum, [.list xs] => (intsD xs).map fun bs => (.int bs.sum, .sh)
  | .max, [.int i, .int j] => some (.int (if j > i then j else i), .sh)
  | .min, [.int i, .int j] => some (.int (if j < i then j else i), .sh)
  | .max, [.list xs] => match intsD xs with
    | some (x :: r) => some (.int (maxI x r), .sh)
    | _ => none
  | .min, [.list xs] => match intsD xs with
    | some (x :: r) => some (.int (minI x r), .sh)
    | _ => none
  | .str, [.str z] => some (.str z, .sh)
  | .str, [.int i] => ite' (decide (i.natAbs.log2 < 1920)) (some (.str (toString i), .sh))
  | _, _ => none
/-! ### things in order -/
section
variable {α : Type} (le : α → α → Bool)
def insS (x : α) : List α → List α
  | [] => [x]
  | y :: r => if le x y = true then x :: y :: r else y :: insS x r
def srtS : List α → List α
  | [] => []
  | x :: r => insS le x (srtS r)
end
/-- one more, if it is not there -/
def addOne {α : Type} [DecidableEq α] (L : List α) (x : α) : List α := if x ∈ L then L else L ++ [x]
def DedS {α : Type} [DecidableEq α] (xs : List α) : List α := xs.foldl addOne []
/-- Python's order of alike things -/
def leD (a b : D) : Bool := PySem.W.dataLe false id a b
/-- the order of texts -/
def leS (a b : Str) : Bool := PySem.W.dataLe false PyData.str a b
def keyDt : Key → D
  | .inl i => .int i
  | .inr x => .str x
def tupD (k : List Key) : D := .tuple (k.map keyDt)
def leT (a b : List Key) : Bool := PySem.W.dataLe false tupD a b
def isTup1 : D → Bool
  | .tuple (_ :: _) => true
  | _ => false
def noTup : D → Bool
  | .none => false
  | .tuple _ => false
  | _ => true
/-- things of one kind, which can be put in order -/
def sortOk (xs : List D) : Bool := PyData.canLayAll0 xs && ((xs.all fun d => xs.all fun e => PySem.W.alike d e) && ((xs.all isTup1 || xs.all noTup) && xs.all fun d => decide (d.depth ≤ 50)))
/-- sorted(xs) -/
def sortedD : D → Option (D × Fl)
  | .list xs => ite' (sortOk xs) (some (.list (srtS leD xs), .ow))
  | _ => none
/-- tuples of ints and texts -/
def ktupsD : List D → Option (List (List Key))
  | [] => some []
  | .tuple l :: r => match keysD l, ktupsD r with
    | some k, some ks => some (k :: ks)
    | _, _ => none
  | _ :: _ => none
/-- sorted(set(xs)) -/
def ssetD : D → Option (D × Fl)
  | .list ds => match strsD ds with
    | some ss => ite' (decide (ss.length < 4000)) (some (.list ((srtS leS (DedS ss)).map .str), .ow))
    | none => match ktupsD ds with
      | some ks => ite' (decide (ks.length < 63) && sortOk ((DedS ks).map tupD)) (some (.list ((srtS leT (DedS ks)).map tupD), .ow))
      | none => none
  | _ => none
/-- len(set(xs)) -/
def lsetD : D → Option (D × Fl)
  | .list ds => match strsD ds with
    | some ss => ite' (decide (ss.length < 4000)) (some (.int (DedS ss).length, .sh))
    | none => match ktupsD ds with
      | some ks => ite' (decide (ks.length < 63)) (some (.int (DedS ks).length, .sh))
      | none => none
  | _ => none
/-- the place of the first sign c -/
def placeOf (c : Nat) : List Nat → Option Nat
  | [] => none
  | x :: r => if x = c then some 0 else (placeOf c r).map (· + 1)
def mthD : Mth → D → List D → Option (D × Fl)
  | .split, .str a, [.str b] => ite' (decide (b.length ≠ 0 ∧ a.length + 2 ≤ LINE)) (some (.list ((Txt.split a b).map .str), .ow))
  | .startswith, .str a, [.str b] => some (.bool (Txt.startswith a b), .sh)
  | .count, .str a, [.str b] => some (.int (Txt.count a b), .sh)
  | .index, .str a, [.str b] => (Txt.index0 a b).map fun k => (.int (k : Nat), .sh)
  | .join, .str a, [.list xs] => match strsD xs with
    | some ys => ite' (decide ((ys.map (·.length)).sum + ys.length * a.length ≤ 16777216)) (some (.str (Txt.join a ys), .sh))
    | none => none
  | .join, .str a, [.tuple xs] => match strsD xs with
    | some ys => ite' (decide ((ys.map (·.length)).sum + ys.length * a.length ≤ 16777216)) (some (.str (Txt.join a ys), .sh))
    | none => none
  | _, _, _ => none
def tyD : D → Ty → Bool
  | .list _, .list => true
  | .tuple _, .tuple => true
  | .str _, .str => true
  | .bool _, .bool => true
  | .bool _, .int => true
  | .int _, .int => true
  | .dict _, .dict => true
  | _, _ => false
def isiD (d : D) (ts : List Ty) : Bool := ts.any (tyD d)

/-! ### targets -/
def store (env : Env) (i : Nat) (d : D) (f : Fl) : Option Env :=
  match env[i]? with
  | some (some (_, .io)) => none
  | some _ => some (env.set i (some (d, f)))
  | none => none
def bindT : Tg → D → Env → Option Env
  | .name i, d, env => store env i d .sh
  | .pair a b, .tuple [x, y], env => (bindT a x env).bind fun e1 => bindT b y e1
  | .pair a b, .list [x, y], env => (bindT a x env).bind fun e1 => bindT b y e1
  | .trip a b c, .tuple [x, y, z], env => (bindT a x env).bind fun e1 => (bindT b y e1).bind fun e2 => bindT c z e2
  | .trip a b c, .list [x, y, z], env => (bindT a x env).bind fun e1 => (bindT b y e1).bind fun e2 => bindT c z e2
  | _, _, _ => none

/-! ### what a loop walks -/
def strItems (z : Str) : List D := z.cps.toList.map fun c => .str ⟨#[c]⟩
def rangeD (a c : Int) : Nat → List D
  | 0 => []
  | n + 1 => .int a :: rangeD (a + c) c n
def BIG : Int := 2 ^ 62
def fitI (a : Int) : Bool := decide (-(2 ^ 62) ≤ a ∧ a < 2 ^ 62)
def enumD : Int → List D → List D
  | _, [] => []
  | n, x :: r => .tuple [.int n, x] :: enumD (n + 1) r
def zipD : List D → List D → List D
  | x :: r, y :: t => .tuple [x, y] :: zipD r t
  | _, _ => []
def seqItems : D → Option (List D)
  | .list xs => some xs
  | .tuple xs => some xs
  | .str z => some (strItems z)
  | _ => none

def wipeE (env : Env) : List Nat → Env
  | [] => env
  | v :: vs => (wipeE env vs).set v none
/-- the slots of own as they were in old -/
def backE (old env : Env) : List Nat → Env
  | [] => env
  | v :: vs => (backE old env vs).set v ((old[v]?).getD none)

def loopC (f : D → Env → Option (List D × Env)) : List D → Env → Option (List D × Env)
  | [], env => some ([], env)
  | x :: r, env => (f x env).bind fun (o, e1) => (loopC f r e1).map fun (ys, e2) => (o ++ ys, e2)

/-! ### expressions -/
section
variable (cf : CallF) (io : Nat → List Bool)

def usedBy (r : R) (is : List (Option Nat)) : Bool := match r with
  | .s i => is.contains (some i)
  | _ => false
/-- the arguments' values; those that are changed for the caller, with their slots (none: a thing of no slot) -/
def argsOf : List Bool → List R → Env → Option (List D × Env × List (Option Nat))
  | [], [], env => some ([], env, [])
  | false :: ms, r :: rs, env => (argsOf ms rs env).bind fun (ds, e1, is) => if usedBy r is = true then none else (fz r e1).map fun (d, e2) => (d :: ds, e2, is)
  | true :: ms, .s i :: rs, env => (argsOf ms rs env).bind fun (ds, e1, is) =>
      match e1[i]? with
      | some (some (d, .sh)) => none
      | some (some (d, _)) => if is.contains (some i) then none else some (d :: ds, e1, some i :: is)
      | _ => none
  | true :: ms, .v d .ow :: rs, env => (argsOf ms rs env).bind fun (ds, e1, is) => some (d :: ds, e1, none :: is)
  | _, _, _ => none
def putBack : List (Option Nat) → List D → Env → Option Env
  | [], [], env => some env
  | none :: is, _ :: ds, env => putBack is ds env
  | some i :: is, d :: ds, env => match env[i]? with
    | some (some (_, f)) => putBack is ds (env.set i (some (d, f)))
    | _ => none
  | _, _, _ => none
def fzAll : List R → Env → Option (List D × Env)
  | [], env => some ([], env)
  | r :: rs, env => (fzAll rs env).bind fun (ds, e1) => (fz r e1).map fun (d, e2) => (d :: ds, e2)
def rdAll : List R → Env → Option (List D)
  | [], _ => some []
  | r :: rs, env => (rd r env).bind fun d => (rdAll rs env).map (d :: ·)
def slotR (env : Env) (i : Nat) : Option R :=
  match env[i]? with
  | some (some (d, .sh)) => some (.v d .sh)
  | some (some _) => some (.s i)
  | _ => none
def ownL (env : Env) (i : Nat) : Option (List D × Fl) :=
  match env[i]? with
  | some (some (.list xs, .ow)) => some (xs, .ow)
  | some (some (.list xs, .io)) => some (xs, .io)
  | _ => none
def ownK (env : Env) (i : Nat) : Option (List (D × D) × Fl) :=
  match env[i]? with
  | some (some (.dict xs, .ow)) => some (xs, .ow)
  | some (some (.dict xs, .io)) => some (xs, .io)
  | _ => none
def val (x : D × Fl) (env : Env) : Option (R × Env) := some (.v x.1 x.2, env)

/-- a list that is taken some times over is a new one -/
def mulOk (op : Bop) (r : R) : Bool := match op, r with
  | .mul, .v (.list _) .ow => true
  | .mul, .v (.list _) _ => false
  | .mul, .s _ => false
  | _, _ => true
def permL {α : Type} : List Nat → List α → List α
  | [], _ => []
  | i :: r, xs => match xs[i]? with
    | some x => x :: permL r xs
    | none => permL r xs
/-- a call whose arguments are all taken by their values -/
def callV (ms : List Bool) (ds : List D) (r : Option (D × Fl × List D)) : Option (D × Fl) :=
  ite' (ms.all (fun m => !m) && decide (ds.length = ms.length)) (r.map fun x => (x.1, x.2.1))

mutual
def evE : E → Env → Option (R × Env)
  | .bad, _ => none
  | .cst d, env => some (.v d .sh, env)
  | .var i, env => (slotR env i).map (·, env)
  | .bin op a b, env => (evE a env).bind fun (r1, e1) => (evE b e1).bind fun (r2, e2) => (rd r1 e2).bind fun x => (rd r2 e2).bind fun y => ite' (mulOk op r1) ((binD op x y).bind (val · e2))
  | .neg a, env => (evE a env).bind fun (r1, e1) => match r1 with
    | .v (.int i) _ => some (.v (.int (-i)) .sh, e1)
    | _ => none
  | .not a, env => (evE a env).bind fun (r1, e1) => (rd r1 e1).bind fun x => (truD x).map fun b => (.v (.bool (!b)) .sh, e1)
  | .and a b, env => (evE a env).bind fun (r1, e1) => match r1 with
    | .v d f => (truD d).bind fun c => if c = true then evE b e1 else some (.v d f, e1)
    | _ => none
  | .or a b, env => (evE a env).bind fun (r1, e1) => match r1 with
    | .v d f => (truD d).bind fun c => if c = true then some (.v d f, e1) else evE b e1
    | _ => none
  | .cmp op a b, env => (evE a env).bind fun (r1, e1) => (evE b e1).bind fun (r2, e2) => (rd r1 e2).bind fun x => (rd r2 e2).bind fun y => (cmpD op x y).map fun c => (.v (.bool c) .sh, e2)
  | .cmp2 op op' a b c, env => (evE a env).bind fun (r1, e1) => (evE b e1).bind fun (r2, e2) => match r1, r2 with
    | .v x .sh, .v y .sh => (cmpD op x y).bind fun k => if k = true then (evE c e2).bind fun (r3, e3) => (rd r3 e3).bind fun z => (cmpD op' y z).map fun k' => (.v (.bool k') .sh, e3) else some (.v (.bool false) .sh, e2)
    | _, _ => none
  | .ife c a b, env => (evT c env).bind fun (k, e1) => if k = true then evE a e1 else evE b e1
  | .call f args, env => (evEs args env).bind fun (rs, e1) => (argsOf (io f) rs e1).bind fun (ds, e2, is) => (cf f ds).bind fun (d, fl, outs) => (putBack is outs e2).map fun e3 => (.v d fl, e3)
  | .callK f args kws perm, env => (evEs args env).bind fun (rs, e1) => (fzAll rs e1).bind fun (ds, e2) => (evEs kws e2).bind fun (rs2, e3) => (fzAll rs2 e3).bind fun (ds2, e4) =>
      (callV (io f) (permL perm (ds ++ ds2)) (cf f (permL perm (ds ++ ds2)))).bind (val · e4)
  | .blt b args, env => (evEs args env).bind fun (rs, e1) => (rdAll rs e1).bind fun ds => (bltD b ds).bind (val · e1)
  | .mth m o args, env => (evE o env).bind fun (r1, e1) => match r1 with
    | .v (.str z) .sh => (evEs args e1).bind fun (rs, e2) => (rdAll rs e2).bind fun ds => (mthD m (.str z) ds).bind (val · e2)
    | _ => none
  | .pop i, env => (ownL env i).bind fun (xs, f) => (xs[xs.length - 1]?).map fun y => (.v y .sh, env.set i (some (.list xs.dropLast, f)))
  | .popAt i k, env => (ownL env i).bind fun _ => (evE k env).bind fun (r1, e1) => match r1 with
    | .v (.int j) _ => ite' (fitI j) ((ownL e1 i).bind fun (xs, f) => (ixN xs.length j).bind fun p => (xs[p]?).map fun y => (.v y .sh, e1.set i (some (.list (xs.eraseIdx p), f))))
    | _ => none
  | .isi a ts, env => (evE a env).bind fun (r1, e1) => (rd r1 e1).map fun d => (.v (.bool (isiD d ts)) .sh, e1)
  | .ix a i, env => (evE a env).bind fun (r1, e1) => (evE i e1).bind fun (r2, e2) => (rd r1 e2).bind fun x => (rd r2 e2).bind fun y => (ixD x y).map fun d => (.v d .sh, e2)
  | .slc a lo hi, env => (evE a env).bind fun (r1, e1) => (evEo lo e1).bind fun (l, e2) => (evEo hi e2).bind fun (h, e3) => (rd r1 e3).bind fun x => (slcD x l h).bind (val · e3)
  | .lst es, env => (evEd es env).bind fun (rs, e1) => (fzAll rs e1).bind fun (ds, e2) => ite' (decide (ds.length ≤ LINE)) (some (.v (.list ds) .ow, e2))
  | .tup es, env => (evEd es env).bind fun (rs, e1) => (fzAll rs e1).bind fun (ds, e2) => ite' (decide (ds.length ≤ LINE)) (some (.v (.tuple ds) .sh, e2))
  | .dct, env => some (.v (.dict []) .ow, env)
  | .dctK, env => some (.v (.dict [mkD]) .ow, env)
  | .dctK1 k v, env => (keyD k).bind fun _ => ite' (flatD v) (some (.v (.dict [mkD, (.tuple [k], v)]) .ow, env))
  | .rev a, env => (evE a env).bind fun (r1, e1) => (rd r1 e1).bind fun x => (revD x).bind (val · e1)
  | .setOf _, _ => none
  | .srt a, env => (evE a env).bind fun (r1, e1) => (rd r1 e1).bind fun x => (sortedD x).bind (val · e1)
  | .sset a, env => (evE a env).bind fun (r1, e1) => (rd r1 e1).bind fun x => (ssetD x).bind (val · e1)
  | .lset a, env => (evE a env).bind fun (r1, e1) => (rd r1 e1).bind fun x => (lsetD x).bind (val · e1)
  | .comp own tg it c e, env => (evI it env).bind fun (xs, e1) => (loopC (fun x en => (bindT tg x (wipeE en own)).bind fun e2 => (evC c e2).bind fun (k, e3) => if k = true then (evE e e3).bind fun (r, e4) => (fz r e4).map fun (d, e5) => ([d], e5) else some ([], e3)) xs e1).bind fun (ys, e6) =>
      ite' (decide (ys.length ≤ LINE)) (some (.v (.list ys) .ow, backE e1 e6 own))
  | .comp2 own own1 tg it c tg1 it1 c1 e, env => (evI it env).bind fun (xs, e1) => (loopC (fun x en => (bindT tg x (wipeE en own)).bind fun e2 => (evC c e2).bind fun (k, e3) => if k = true then (evI it1 e3).bind fun (xs1, e4) =>
        loopC (fun x1 en1 => (bindT tg1 x1 (wipeE en1 own1)).bind fun e5 => (evC c1 e5).bind fun (k1, e6) => if k1 = true then (evE e e6).bind fun (r, e7) => (fz r e7).map fun (d, e8) => ([d], e8) else some ([], e6)) xs1 e4
      else some ([], e3)) xs e1).bind fun (ys, e9) => ite' (decide (ys.length ≤ LINE)) (some (.v (.list ys) .ow, backE e1 e9 own))
def evT : E → Env → Option (Bool × Env)
  | .not a, env => (evT a env).map fun (b, e1) => (!b, e1)
  | .and a b, env => (evT a env).bind fun (c, e1) => if c = true then evT b e1 else some (false, e1)
  | .or a b, env => (evT a env).bind fun (c, e1) => if c = true then some (true, e1) else evT b e1
  | .bad, _ => none
  | .cst d, _ => none
  | .var i, env => (slotR env i).bind fun r => (rd r env).bind fun x => (truD x).map (·, env)
  | .cmp op a b, env => (evE a env).bind fun (r1, e1) => (evE b e1).bind fun (r2, e2) => (rd r1 e2).bind fun x => (rd r2 e2).bind fun y => (cmpD op x y).map fun c => (c, e2)
  | .cmp2 op op' a b c, env => (evE a env).bind fun (r1, e1) => (evE b e1).bind fun (r2, e2) => match r1, r2 with
    | .v x .sh, .v y .sh => (cmpD op x y).bind fun k => if k = true then (evE c e2).bind fun (r3, e3) => (rd r3 e3).bind fun z => (cmpD op' y z).map fun k' => (k', e3) else some (false, e2)
    | _, _ => none
  | .isi a ts, env => (evE a env).bind fun (r1, e1) => (rd r1 e1).map fun d => (isiD d ts, e1)
  | .call f args, env => (evEs args env).bind fun (rs, e1) => (argsOf (io f) rs e1).bind fun (ds, e2, is) => (cf f ds).bind fun (d, fl, outs) => (putBack is outs e2).bind fun e3 => (truD d).map (·, e3)
  | .callK f args kws perm, env => (evEs args env).bind fun (rs, e1) => (fzAll rs e1).bind fun (ds, e2) => (evEs kws e2).bind fun (rs2, e3) => (fzAll rs2 e3).bind fun (ds2, e4) =>
      (callV (io f) (permL perm (ds ++ ds2)) (cf f (permL perm (ds ++ ds2)))).bind fun x => (truD x.1).map (·, e4)
  | .blt b args, env => (evEs args env).bind fun (rs, e1) => (rdAll rs e1).bind fun ds => (bltD b ds).bind fun x => (truD x.1).map (·, e1)
  | .mth m o args, env => (evE o env).bind fun (r1, e1) => match r1 with
    | .v (.str z) .sh => (evEs args e1).bind fun (rs, e2) => (rdAll rs e2).bind fun ds => (mthD m (.str z) ds).bind fun x => (truD x.1).map (·, e2)
    | _ => none
  | .ix a i, env => (evE a env).bind fun (r1, e1) => (evE i e1).bind fun (r2, e2) => (rd r1 e2).bind fun x => (rd r2 e2).bind fun y => (ixD x y).bind fun d => (truD d).map (·, e2)
  | _, _ => none
def evEs : Es → Env → Option (List R × Env)
  | .nil, env => some ([], env)
  | .cons e es, env => (evE e env).bind fun (r, e1) => (evEs es e1).map fun (rs, e2) => (r :: rs, e2)
  | .star _ _, _ => none
def evEd : Es → Env → Option (List R × Env)
  | .nil, env => some ([], env)
  | .cons e es, env => (evE e env).bind fun (r, e1) => (evEd es e1).map fun (rs, e2) => (r :: rs, e2)
  | .star e es, env => (evE e env).bind fun (r, e1) => (rd r e1).bind fun x => (starD x).bind fun xs => (evEd es e1).map fun (rs, e2) => (xs.map (R.v · .sh) ++ rs, e2)
def evEo : Eo → Env → Option (Option Int × Env)
  | .no, env => some (none, env)
  | .yes e, env => (evE e env).bind fun (r, e1) => match r with
    | .v (.int i) _ => some (some i, e1)
    | _ => none
def evC : Eo → Env → Option (Bool × Env)
  | .no, env => some (true, env)
  | .yes e, env => evT e env
def evI : It → Env → Option (List D × Env)
  | .seq e, env => (evE e env).bind fun (r, e1) => (fz r e1).bind fun (d, e2) => (seqItems d).map (·, e2)
  | .range1 a, env => (evE a env).bind fun (r, e1) => match r with
    | .v (.int i) _ => ite' (fitI i) (some (rangeD 0 1 i.toNat, e1))
    | _ => none
  | .range2 a b, env => (evE a env).bind fun (r, e1) => (evE b e1).bind fun (r2, e2) => match r, r2 with
    | .v (.int i) _, .v (.int j) _ => ite' (fitI i && fitI j) (some (rangeD i 1 (j - i).toNat, e2))
    | _, _ => none
  | .range3 a b c, env => (evE a env).bind fun (r, e1) => (evE b e1).bind fun (r2, e2) => (evE c e2).bind fun (r3, e3) => match r, r2, r3 with
    | .v (.int i) _, .v (.int j) _, .v (.int k) _ => ite' (fitI i && fitI j && decide (k = -1)) (some (rangeD i (-1) (i - j).toNat, e3))
    | _, _, _ => none
  | .enum e, env => (evE e env).bind fun (r, e1) => (fz r e1).bind fun (d, e2) => match d with
    | .list xs => some (enumD 0 xs, e2)
    | .tuple xs => some (enumD 0 xs, e2)
    | _ => none
  | .zip a b, env => (evE a env).bind fun (r, e1) => (evE b e1).bind fun (r2, e2) => (fz r e2).bind fun (d, e3) => (fz r2 e3).bind fun (d2, e4) => match d, d2 with
    | .list xs, .list ys => some (zipD xs ys, e4)
    | .tuple xs, .tuple ys => some (zipD xs ys, e4)
    | _, _ => none
end

/-! ### statements -/
/-- how a statement ends -/
inductive Out where
  | nx (env : Env) | bk (env : Env) | ct (env : Env) | rt (r : R) (env : Env)
def whileF (c : Env → Option (Bool × Env)) (b : Env → Option Out) : Nat → Env → Option Out
  | 0, _ => none
  | n + 1, env => (c env).bind fun (k, e1) => if k = true then (b e1).bind fun o => match o with
      | .nx e2 => whileF c b n e2
      | .ct e2 => whileF c b n e2
      | .bk e2 => some (.nx e2)
      | .rt r e2 => some (.rt r e2)
    else some (.nx e1)
def forF (tg : Tg) (b : Env → Option Out) : List D → Env → Option Out
  | [], env => some (.nx env)
  | x :: r, env => (bindT tg x env).bind fun e1 => (b e1).bind fun o => match o with
      | .nx e2 => forF tg b r e2
      | .ct e2 => forF tg b r e2
      | .bk e2 => some (.nx e2)
      | .rt r e2 => some (.rt r e2)
/-- the result is stored: owned by the slot if it is a new thing -/
def storeR (r : R) (env : Env) (i : Nat) : Option Env :=
  match r with
  | .v d f => store env i d f
  | .s _ => (fz r env).bind fun (d, e1) => store e1 i d .sh
def hasS (env : Env) (i : Nat) : Option Unit := match env[i]? with
  | some (some _) => some ()
  | _ => none
/-- the items that a list is made longer by -/
def extD (r : R) (i : Nat) (env : Env) : Option (List D) := match r with
  | .v (.list ys) .ow => some ys
  | .s j => if j = i then none else (ownL env j).map (·.1)
  | _ => none
/-- what a slot owns is shared from now on -/
def frz (r : R) (env : Env) : Option (R × Env) := match r with
  | .v d f => some (.v d f, env)
  | .s _ => (fz r env).map fun (d, e1) => (.v d .sh, e1)
def FUEL : Nat := 100000
def evS : S → Env → Option Out
  | .bad, _ => none
  | .pass, env => some (.nx env)
  | .brk, env => some (.bk env)
  | .cnt, env => some (.ct env)
  | .expr e, env => (evE cf io e env).map fun (_, e1) => .nx e1
  | .app i e, env => (ownL env i).bind fun _ => (evE cf io e env).bind fun (r, e1) => (fz r e1).bind fun (d, e2) => (ownL e2 i).bind fun (xs, f) => ite' (decide (xs.length < LINE)) (some (.nx (e2.set i (some (.list (xs ++ [d]), f)))))
  | .ext i e, env => (ownL env i).bind fun _ => (evE cf io e env).bind fun (r, e1) => (extD r i e1).bind fun ys => (ownL e1 i).bind fun (xs, f) => ite' (decide (xs.length + ys.length ≤ LINE)) (some (.nx (e1.set i (some (.list (xs ++ ys), f)))))
  | .set i e, env => (evE cf io e env).bind fun (r, e1) => (storeR r e1 i).map .nx
  | .asg tg e, env => (evE cf io e env).bind fun (r, e1) => (fz r e1).bind fun (d, e2) => (bindT tg d e2).map .nx
  | .par2 i j a b, env => (evE cf io a env).bind fun (r1, e1) => (evE cf io b e1).bind fun (r2, e2) => (frz r1 e2).bind fun (q1, e3) => (frz r2 e3).bind fun (q2, e4) => (storeR q1 e4 i).bind fun e5 => (storeR q2 e5 j).map .nx
  | .par3 i j k a b c, env => (evE cf io a env).bind fun (r1, e1) => (evE cf io b e1).bind fun (r2, e2) => (evE cf io c e2).bind fun (r3, e3) => (frz r1 e3).bind fun (q1, e4) => (frz r2 e4).bind fun (q2, e5) => (frz r3 e5).bind fun (q3, e6) =>
      (storeR q1 e6 i).bind fun e7 => (storeR q2 e7 j).bind fun e8 => (storeR q3 e8 k).map .nx
  | .put i k v, env => (evE cf io v env).bind fun (r, e1) => (hasS e1 i).bind fun _ => (evE cf io k e1).bind fun (rk, e2) => (rd rk e2).bind fun kd => (fz r e2).bind fun (d, e3) => match ownL e3 i, kd with
    | some (xs, f), .int j => (ixN xs.length j).map fun p => .nx (e3.set i (some (.list (xs.set p d), f)))
    | none, _ => (ownK e3 i).bind fun (kvs, f) => (putKD kvs kd d).bind fun kvs' => ite' (decide (kvs.length < LINE)) (some (.nx (e3.set i (some (.dict kvs', f)))))
    | _, _ => none
  | .aug op i e, env => (hasS env i).bind fun _ => (evE cf io e env).bind fun (r, e1) => match r, e1[i]? with
    | .v (.int y) _, some (some (.int x, .sh)) => (match op with
      | .add => some (.nx (e1.set i (some (.int (x + y), .sh))))
      | .sub => some (.nx (e1.set i (some (.int (x - y), .sh))))
      | _ => none)
    | _, _ => none
  | .ret e, env => (evE cf io e env).map fun (r, e1) => .rt r e1
  | .retN, env => some (.rt (.v .none .sh) env)
  | .ite c a b, env => (evT cf io c env).bind fun (k, e1) => if k = true then evS a e1 else evS b e1
  | .for_ tg it b, env => (evI cf io it env).bind fun (xs, e1) => forF tg (evS b) xs e1
  | .while_ c b, env => whileF (evT cf io c) (evS b) FUEL env
  | .seq a b, env => (evS a env).bind fun o => match o with
    | .nx e1 => evS b e1
    | o => some o
end

/-- a function of the program: how many names, which parameters it changes, the body -/
structure Fn where
  size : Nat
  io : List Bool
  body : S
def startE (size : Nat) (ms : List Bool) (ds : List D) : Env :=
  (List.zipWith (fun d m => some (d, if m = true then Fl.io else Fl.sh)) ds ms) ++ List.replicate (size - ds.length) none
def outsOf : List Bool → Env → Option (List D)
  | [], _ => some []
  | false :: ms, _ :: env => outsOf ms env
  | true :: ms, some (d, .io) :: env => (outsOf ms env).map (d :: ·)
  | _, _ => none
def endR (ms : List Bool) (r : R) (env : Env) : Option (D × Fl × List D) :=
  match r with
  | .v d f => (outsOf ms env).map fun os => (d, f, os)
  | .s i => match env[i]? with
    | some (some (d, .ow)) => (outsOf ms env).map fun os => (d, .ow, os)
    | _ => none
def runFn (cf : CallF) (io : Nat → List Bool) (fn : Fn) (ds : List D) : Option (D × Fl × List D) :=
  if ds.length = fn.io.length then
    match evS cf io fn.body (startE fn.size fn.io ds) with
    | some (.nx env) => endR fn.io (.v .none .sh) env
    | some (.rt r env) => endR fn.io r env
    | _ => none
  else none
def ioOf (tbl : List Fn) (f : Nat) : List Bool := match tbl[f]? with | some fn => fn.io | none => []
def evCall (tbl : List Fn) : Nat → CallF
  | 0, _, _ => none
  | n + 1, f, ds => match tbl[f]? with
    | some fn => runFn (evCall tbl n) (ioOf tbl) fn ds
    | none => none
end Ev


set_option Elab.async false
set_option linter.all false
set_option maxRecDepth 100000
/-! From the program's text to the evaluator's own form. -/
namespace Ev
open PySem PySem.Spec PyProof.Rows L2

/-- where a piece of text stands: the names by slot, the scope, the names whose cells are the frame's own -/
structure SC where
  N : List Str
  sc : Scope
  fn : Str → Bool
/-- what the text's global names are: the functions by number, the constants -/
structure GC where
  fns : List (Str × Nat)
  cons : List (Str × D)
  kws : List (Str × Nat × List Str × List Nat)
  dks : List (Nat × Nat)

def ixStr : List Str → Str → Option Nat
  | [], _ => none
  | y :: r, x => if y = x then some 0 else (ixStr r x).map (· + 1)
def visB (s : SC) (x : Str) : Bool := match s.sc.names.lookup x with
  | some .local => true
  | some .cell => true
  | some .free => true
  | _ => false
def locB (s : SC) (x : Str) : Bool := match s.sc.names.lookup x with
  | some .local => true
  | some .cell => s.fn x
  | _ => false
def okName (x : Str) : Bool := !(x == ("__debug__" : Str)) && !(x == ("__classdict__" : Str))
def slotOf (s : SC) (x : Str) : Option Nat := if (visB s x && okName x) = true then ixStr s.N x else none
def locOf (s : SC) (x : Str) : Option Nat := if locB s x = true then ixStr s.N x else none
def isGl (s : SC) (x : Str) : Bool := match s.sc.names.lookup x with
  | some .globalImplicit => true
  | _ => false
def scalarB : D → Bool
  | .none => true
  | .bool _ => true
  | .int _ => true
  | .str _ => true
  | _ => false

def cConst : Const → E
  | .none => .cst .none
  | .bool b => .cst (.bool b)
  | .int i => .cst (.int i)
  | .str z => .cst (.str z)
  | _ => .bad
def cName (g : GC) (s : SC) (x : Str) : E := match slotOf s x with
  | some i => .var i
  | none => if (isGl s x && okName x) = true then (match g.cons.lookup x with
    | some d => .cst d
    | none => .bad) else .bad
def cBop : Operator → Option Bop
  | .Add => some .add
  | .Sub => some .sub
  | .Mult => some .mul
  | .FloorDiv => some .fdiv
  | .Mod => some .mod
  | .Pow => some .pow
  | _ => none
def cCop : CmpOp → Cop
  | .Eq => .eq
  | .NotEq => .ne
  | .Lt => .lt
  | .LtE => .le
  | .Gt => .gt
  | .GtE => .ge
  | .Is => .isn
  | .IsNot => .notn
  | .In => .isin
  | .NotIn => .nin
def cBlt (x : Str) : Option Blt :=
  if x = ("len" : Str) then some .len else if x = ("list" : Str) then some .list else if x = ("tuple" : Str) then some .tuple
  else if x = ("abs" : Str) then some .abs else if x = ("int" : Str) then some .int else if x = ("all" : Str) then some .all
  else if x = ("any" : Str) then some .any else if x = ("min" : Str) then some .min else if x = ("max" : Str) then some .max
  else if x = ("sum" : Str) then some .sum else if x = ("str" : Str) then some .str else none
def cTy (x : Str) : Option Ty :=
  if x = ("list" : Str) then some .list else if x = ("tuple" : Str) then some .tuple else if x = ("str" : Str) then some .str
  else if x = ("bool" : Str) then some .bool else if x = ("int" : Str) then some .int else if x = ("dict" : Str) then some .dict else none
def cTyE (s : SC) : Expr → Option Ty
  | .Name x _ => if isGl s x = true then cTy x else none
  | _ => none
def cTys (s : SC) : List Expr → Option (List Ty)
  | [] => some []
  | e :: r => match cTyE s e, cTys s r with
    | some t, some ts => some (t :: ts)
    | _, _ => none
def cMth (x : Str) : Option Mth :=
  if x = ("split" : Str) then some .split else if x = ("count" : Str) then some .count else if x = ("index" : Str) then some .index
  else if x = ("join" : Str) then some .join else if x = ("startswith" : Str) then some .startswith else none
def cTg (s : SC) : Expr → Option Tg
  | .Name x _ => (locOf s x).map .name
  | .Tuple [a, b] _ _ => match cTg s a, cTg s b with
    | some x, some y => some (.pair x y)
    | _, _ => none
  | .Tuple [a, b, c] _ _ => match cTg s a, cTg s b, cTg s c with
    | some x, some y, some z => some (.trip x y z)
    | _, _, _ => none
  | _ => none
/-- the block's own names with their slots -/
def ownN (N : List Str) : List (Str × NameKind) → List (Str × Nat)
  | [] => []
  | (n, k) :: r => match k with
    | .local => (match ixStr N n with | some i => (n, i) :: ownN N r | none => ownN N r)
    | .cell => (match ixStr N n with | some i => (n, i) :: ownN N r | none => ownN N r)
    | _ => ownN N r
def SC.blk (s : SC) (scope : Scope) : SC := ⟨s.N, relS scope s.sc, fun x => scope.names.lookup x == some .cell⟩
def tgSlots : Tg → List Nat
  | .name i => [i]
  | .pair a b => tgSlots a ++ tgSlots b
  | .trip a b c => tgSlots a ++ tgSlots b ++ tgSlots c
def isTup : Expr → Bool
  | .Tuple _ _ _ => true
  | _ => false
def plainIx : Expr → Bool
  | .Slice _ _ _ _ => false
  | _ => true

def isStar : Expr → Bool
  | .Starred _ _ => true
  | _ => false
def isSet : Expr → Bool
  | .Set _ _ _ => true
  | _ => false
def tysOf (s : SC) : Expr → Option (List Ty)
  | .Tuple ts _ _ => cTys s ts
  | e => (cTyE s e).map fun t => [t]
def secTys (s : SC) : List Expr → Option (List Ty)
  | [_, t] => tysOf s t
  | _ => none
def superB : Expr → Bool
  | .Call (.Name _ _) [] [] _ => true
  | _ => false
def cPop (s : SC) (o : Expr) (es : Es) : E := match o with
  | .Name x _ => (match slotOf s x with
    | some i => (match es with
      | .nil => .pop i
      | .cons k .nil => .popAt i k
      | _ => .bad)
    | none => .bad)
  | _ => .bad
def cMeth (m : Str) (o : E) (es : Es) : E := match cMth m with
  | some mm => (match es with
    | .cons a .nil => .mth mm o (.cons a .nil)
    | _ => .bad)
  | none => .bad
/-- set(e) alone -/
def cSet (args : List Expr) (es : Es) : Option E := match args, es with
  | [.Call (.Name z _) [_] [] _], .cons (.setOf e) .nil => if z = ("set" : Str) then some e else none
  | _, _ => none
def cFun (g : GC) (s : SC) (f : Str) (args : List Expr) (es : Es) : E :=
  if (isGl s f && okName f) = true then
    (match g.fns.lookup f with
      | some k => .call k es
      | none => if f = ("isinstance" : Str) then (match es, secTys s args with
          | .cons a (.cons _ .nil), some l => if l.length ≤ 100 then .isi a l else .bad
          | _, _ => .bad)
        else if f = ("set" : Str) then (match es with
          | .cons e .nil => .setOf e
          | _ => .bad)
        else if f = ("sorted" : Str) then (match cSet args es with
          | some e => .sset e
          | none => (match es with
            | .cons e .nil => .srt e
            | _ => .bad))
        else (match cSet args es with
          | some e => if f = ("len" : Str) then .lset e else .bad
          | none => (match cBlt f with
          | some b => (match es with
            | .nil => .bad
            | _ => .blt b es)
          | none => .bad)))
  else .bad
def cRng (g : GC) (s : SC) (tup : Bool) (whole : E) (f : Str) (es : Es) : It :=
  if (isGl s f && (g.fns.lookup f).isNone) = true then
    if f = ("range" : Str) then (match es with
      | .cons a .nil => .range1 a
      | .cons a (.cons b .nil) => .range2 a b
      | .cons a (.cons b (.cons c .nil)) => .range3 a b c
      | _ => .seq .bad)
    else if f = ("enumerate" : Str) then (match es with
      | .cons a .nil => if tup = true then .enum a else .seq .bad
      | _ => .seq .bad)
    else if f = ("zip" : Str) then (match es with
      | .cons a (.cons b .nil) => if tup = true then .zip a b else .seq .bad
      | _ => .seq .bad)
    else .seq whole
  else .seq whole

/-- the names of a call's keywords -/
def kwN : List Keyword → Option (List Str)
  | [] => some []
  | ⟨some x, _, _⟩ :: r => (kwN r).map (x :: ·)
  | ⟨none, _, _⟩ :: _ => none
def cKw (g : GC) (s : SC) (f : Str) (args : List Expr) (kws : List Keyword) (es ks : Es) : E :=
  if (isGl s f && okName f && !args.any isStar) = true then
    (match g.fns.lookup f, kwN kws with
      | some k, some ns => (match g.kws.find? (fun e => decide (e.1 = f) && decide (e.2.1 = args.length) && decide (e.2.2.1 = ns)) with
        | some e => .callK k es ks e.2.2.2
        | none => .bad)
      | _, _ => .bad)
  else .bad

def isM1 : Expr → Bool
  | .UnaryOp .USub (.Constant (.int 1) _ _) _ => true
  | _ => false
def cSl (st : Option Expr) (nn : Bool) (a : E) (lo hi : Eo) : E := match st with
  | none => .slc a lo hi
  | some e => if (nn && isM1 e) = true then .rev a else .bad
def cDict (g : GC) (ks : List (Option Expr)) (vs : List Expr) (p : Pos) : E := match ks, vs with
  | [], [] => if g.dks.contains (p.line, p.col) = true then .dctK else .dct
  | [some (.Constant a _ _)], [.Constant b _ _] => (match a, b with
    | .int i, .bool c => .dctK1 (.int i) (.bool c)
    | .int i, .int c => .dctK1 (.int i) (.int c)
    | .str i, .bool c => .dctK1 (.str i) (.bool c)
    | .str i, .int c => .dctK1 (.str i) (.int c)
    | _, _ => .bad)
  | _, _ => .bad
mutual
def cE (g : GC) (s : SC) : Expr → E
  | .Constant v _ _ => cConst v
  | .Name x _ => cName g s x
  | .BinOp a op b _ => match cBop op with
    | some o => .bin o (cE g s a) (cE g s b)
    | none => .bad
  | .UnaryOp op a _ => match op with
    | .USub => .neg (cE g s a)
    | .Not => .not (cE g s a)
    | _ => .bad
  | .BoolOp op vs _ => match op with
    | .And => cAnd g s vs
    | .Or => cOr g s vs
  | .Compare a [op] [b] _ => if isSet b = true then .bad else .cmp (cCop op) (cE g s a) (cE g s b)
  | .Compare a [op, op'] [b, c] _ => if (isSet b || isSet c) = true then .bad else .cmp2 (cCop op) (cCop op') (cE g s a) (cE g s b) (cE g s c)
  | .IfExp c a b _ => .ife (cE g s c) (cE g s a) (cE g s b)
  | .Call (.Name f _) args [] _ => cFun g s f args (cEs g s args)
  | .Call (.Name f _) args (⟨n0, e0, p0⟩ :: kr) _ => cKw g s f args (⟨n0, e0, p0⟩ :: kr) (cEs g s args) (.cons (cE g s e0) (cKs g s kr))
  | .Call (.Attribute o m ap) args [] p => if (!(ap.endLine == p.line) || superB o) = true then .bad else if m = ("pop" : Str) then cPop s o (cEs g s args) else cMeth m (cE g s o) (cEs g s args)
  | .Subscript a (.Slice lo hi st _) _ => cSl st (lo.isNone && hi.isNone) (cE g s a) (cO g s lo) (cO g s hi)
  | .Subscript a i _ => if plainIx i = true then .ix (cE g s a) (cE g s i) else .bad
  | .List es _ => .lst (cEs g s es)
  | .Tuple es _ _ => .tup (cEs g s es)
  | .Dict ks vs p => cDict g ks vs p
  | .ListComp elt [⟨tg, iter, ifs, az⟩] scope _ =>
    if az = 0 ∧ blkC s.N s.sc scope (ownN s.N scope.names) = true then
      (match cTg (s.blk scope) tg with
        | some t => if (tgSlots t).all (fun i => (ownN s.N scope.names).any fun p => p.2 = i) = true then
            .comp ((ownN s.N scope.names).map (·.2)) t (cI g s (isTup tg) (cE g s iter) iter) (cIf g (s.blk scope) ifs) (cE g (s.blk scope) elt) else .bad
        | none => .bad)
    else .bad
  | .ListComp elt [⟨tg, iter, ifs, az⟩, ⟨tg1, iter1, ifs1, az1⟩] scope _ =>
    if az = 0 ∧ az1 = 0 ∧ isSet iter1 = false ∧ blkC s.N s.sc scope (ownN s.N scope.names) = true then
      (match cTg (s.blk scope) tg, cTg (s.blk scope) tg1 with
        | some t, some t1 => if (tgSlots t ++ tgSlots t1).all (fun i => (ownN s.N scope.names).any fun p => p.2 = i) = true then
            .comp2 ((ownN s.N scope.names).map (·.2)) (tgSlots t1) t (cI g s (isTup tg) (cE g s iter) iter) (cIf g (s.blk scope) ifs) t1 (cI g (s.blk scope) (isTup tg1) (cE g (s.blk scope) iter1) iter1) (cIf g (s.blk scope) ifs1) (cE g (s.blk scope) elt) else .bad
        | _, _ => .bad)
    else .bad
  | _ => .bad
def cEs (g : GC) (s : SC) : List Expr → Es
  | [] => .nil
  | .Starred x _ :: r => .star (cE g s x) (cEs g s r)
  | e :: r => .cons (cE g s e) (cEs g s r)
def cKs (g : GC) (s : SC) : List Keyword → Es
  | [] => .nil
  | ⟨_, e, _⟩ :: r => .cons (cE g s e) (cKs g s r)
def cAnd (g : GC) (s : SC) : List Expr → E
  | [] => .bad
  | [a] => cE g s a
  | a :: b :: r => .and (cE g s a) (cAnd g s (b :: r))
def cOr (g : GC) (s : SC) : List Expr → E
  | [] => .bad
  | [a] => cE g s a
  | a :: b :: r => .or (cE g s a) (cOr g s (b :: r))
def cO (g : GC) (s : SC) : Option Expr → Eo
  | none => .no
  | some e => .yes (cE g s e)
def cIf (g : GC) (s : SC) : List Expr → Eo
  | [] => .no
  | [e] => .yes (cE g s e)
  | _ => .yes .bad
def cI (g : GC) (s : SC) (tup : Bool) (whole : E) : Expr → It
  | .Call (.Name f _) args [] _ => cRng g s tup whole f (cEs g s args)
  | _ => .seq whole
end

/-! ### statements -/
def isComp : Expr → Bool
  | .ListComp _ _ _ _ => true
  | .SetComp _ _ _ _ => true
  | .DictComp _ _ _ _ _ => true
  | _ => false
def isLc : Expr → Bool
  | .ListComp _ _ _ _ => true
  | _ => false
/-- a, b = x, y is stored from the right, by plain names -/
def swapB (s : SC) (ts vs : List Expr) : Option (Nat × Nat) := match ts, vs with
  | [.Name x px, .Name y py], [a, b] =>
    if px.line = py.line ∧ x ≠ y ∧ s.sc.names.lookup x = some .local ∧ s.sc.names.lookup y = some .local ∧ (foldedForSure 8 a && foldedForSure 8 b) = false ∧ (constantsAlone 8 a && constantsAlone 8 b) = false then
      (match a, b with
        | .Starred _ _, _ => none
        | _, .Starred _ _ => none
        | _, _ => (match ixStr s.N x, ixStr s.N y with
          | some i, some j => some (i, j)
          | _, _ => none))
    else none
  | _, _ => none
/-- a, b, c = x, y, z is stored from the right, by plain names -/
def swap3 (s : SC) (ts vs : List Expr) : Option (Nat × Nat × Nat) := match ts, vs with
  | [.Name x px, .Name y py, .Name z pz], [a, b, c] =>
    if px.line = py.line ∧ px.line = pz.line ∧ x ≠ y ∧ x ≠ z ∧ y ≠ z ∧ s.sc.names.lookup x = some .local ∧ s.sc.names.lookup y = some .local ∧ s.sc.names.lookup z = some .local ∧
        (foldedForSure 8 a && (foldedForSure 8 b && foldedForSure 8 c)) = false ∧ (constantsAlone 8 a && (constantsAlone 8 b && constantsAlone 8 c)) = false ∧ [a, b, c].any isStar = false then
      (match ixStr s.N x, ixStr s.N y, ixStr s.N z with
        | some i, some j, some k => some (i, j, k)
        | _, _, _ => none)
    else none
  | _, _ => none
def cCall1 (m : Str) (i : Nat) (e : E) : S :=
  if m = ("append" : Str) then .app i e else if m = ("extend" : Str) then .ext i e else .bad

mutual
def cS (g : GC) (s : SC) : Stmt → S
  | .Pass _ => .pass
  | .Break _ => .brk
  | .Continue _ => .cnt
  | .Return none _ => .retN
  | .Return (some e) _ => .ret (cE g s e)
  | .Expr e _ => if isComp e = true then .bad else (match e with
    | .Call (.Attribute (.Name x _) m ap) [a] [] p => if (ap.endLine == p.line) = true ∧ isStar a = false ∧ (m = ("append" : Str) ∨ m = ("extend" : Str)) then (match slotOf s x with
        | some i => cCall1 m i (cE g s a)
        | none => .bad) else .expr (cE g s e)
    | .Constant (.str _) _ _ => .pass
    | _ => .expr (cE g s e))
  | .Assign [tg] e _ => (match tg with
    | .Name x _ => (match locOf s x with
      | some i => if isComp e = true then (if isLc e = true then .set i (cE g s e) else .bad) else .set i (cE g s e)
      | none => .bad)
    | .Tuple ts _ _ => (match e with
      | .Tuple vs _ _ => (match swapB s ts vs with
        | some (i, j) => (match vs with
          | [a, b] => .par2 i j (cE g s a) (cE g s b)
          | _ => .bad)
        | none => (match swap3 s ts vs with
          | some (i, j, k) => (match vs with
            | [a, b, c] => .par3 i j k (cE g s a) (cE g s b) (cE g s c)
            | _ => .bad)
          | none => .bad))
      | _ => if isComp e = true then .bad else (match cTg s tg with
        | some t => .asg t (cE g s e)
        | none => .bad))
    | .Subscript (.Name x _) k _ => if isComp e = true ∨ plainIx k = false then .bad else (match slotOf s x with
      | some i => .put i (cE g s k) (cE g s e)
      | none => .bad)
    | _ => .bad)
  | .AugAssign (.Name x _) op e _ => (match locOf s x, cBop op with
    | some i, some o => .aug o i (cE g s e)
    | _, _ => .bad)
  | .If c a b _ => .ite (cE g s c) (cSs g s a) (cSs g s b)
  | .For tg iter body [] _ => (match cTg s tg with
    | some t => .for_ t (cI g s (isTup tg) (cE g s iter) iter) (cSs g s body)
    | none => .bad)
  | .While c body [] _ => .while_ (cE g s c) (cSs g s body)
  | _ => .bad
def cSs (g : GC) (s : SC) : List Stmt → S
  | [] => .pass
  | [a] => cS g s a
  | a :: b :: r => .seq (cS g s a) (cSs g s (b :: r))
end
end Ev


set_option Elab.async false
set_option linter.all false
set_option maxRecDepth 100000
set_option maxHeartbeats 1000000
/-! The trees beside the abstract heap: what a tree stands for, what is owned, what a step may change. -/
namespace Ev
open PySem PySem.Spec PyProof.Rows L2

mutual
/-- v is the tree d in the part G of the heap that is never changed again -/
inductive Tr (K : PySem.W.Frag) (G : Hp) : V → D → Prop
  | non : Tr K G .non .none
  | bl (b : Bool) : Tr K G (.bl b) (.bool b)
  | int (i : Int) : Tr K G (.int i) (.int i)
  | str (x : Str) : Tr K G (.str x) (.str x)
  | lst {a : Addr} {xs : List V} {ds : List D} : SqL K G a xs → TrAll K G xs ds → Tr K G (.ref a) (.list ds)
  | tup {a : Addr} {xs : List V} {ds : List D} : SqT K G a xs → (lockD ds = false → G a = some (.tup xs)) → TrAll K G xs ds → Tr K G (.ref a) (.tuple ds)
  | dct {a : Addr} {ks : List (List Key × V)} {kvs : List (D × D)} : G a = some (.dT ks) → TrKv K G ks kvs → Tr K G (.ref a) (.dict kvs)
  | dck {a : Addr} {ks : List (Key × V)} {kvs : List (D × D)} : G a = some (.dK ks) → TrKv K G (ks.map fun kv => ([kv.1], kv.2)) kvs → Tr K G (.ref a) (.dict (mkD :: kvs))
inductive TrAll (K : PySem.W.Frag) (G : Hp) : List V → List D → Prop
  | nil : TrAll K G [] []
  | cons {v : V} {vs : List V} {d : D} {ds : List D} : Tr K G v d → TrAll K G vs ds → TrAll K G (v :: vs) (d :: ds)
inductive TrKv (K : PySem.W.Frag) (G : Hp) : List (List Key × V) → List (D × D) → Prop
  | nil : TrKv K G [] []
  | cons {ks : List Key} {v : V} {r : List (List Key × V)} {l : List D} {d : D} {t : List (D × D)} : keysD l = some ks → Tr K G v d → TrKv K G r t → TrKv K G ((ks, v) :: r) ((.tuple l, d) :: t)
end
section
variable {K : PySem.W.Frag} {G G' H H' : Hp}
theorem rd_mono (h : Same G G') {a : Addr} {o : HO} (r : Rd G a o) : Rd G' a o := by
  rcases r with r | ⟨u, r⟩
  · exact .inl (h _ _ r)
  · exact .inr ⟨u, h _ _ r⟩
theorem sqT_mono (h : Same G G') {a : Addr} {xs : List V} (r : SqT K G a xs) : SqT K G' a xs := by
  rcases r with r | r
  · exact .inl (rd_mono h r)
  · exact .inr r
theorem sqL_mono (h : Same G G') {a : Addr} {xs : List V} (r : SqL K G a xs) : SqL K G' a xs := by
  rcases r with r | r
  · exact .inl (rd_mono h r)
  · exact .inr r
theorem keyT_some {l : List D} {ks : List Key} (h : keyT l = some ks) : lockD l = false ∧ keysD l = some ks := by
  unfold keyT at h
  split at h
  · cases h
  · rename_i q
    exact ⟨by simpa using q, h⟩
mutual
theorem Tr.mono (h : Same G G') : ∀ (d : D) (v : V), Tr K G v d → Tr K G' v d
  | .none, _, x => by cases x; exact .non
  | .bool _, _, x => by cases x; exact .bl _
  | .int _, _, x => by cases x; exact .int _
  | .str _, _, x => by cases x; exact .str _
  | .list ds, _, x => by
    cases x with
    | lst r t => exact .lst (sqL_mono h r) (TrAll.mono h ds _ t)
  | .tuple ds, _, x => by
    cases x with
    | tup r k t => exact .tup (sqT_mono h r) (fun z => h _ _ (k z)) (TrAll.mono h ds _ t)
  | .dict [], _, x => by
    cases x with
    | dct r t => exact .dct (h _ _ r) (TrKv.mono h [] _ t)
  | .dict (kv :: kvs), _, x => by
    cases x with
    | dct r t => exact .dct (h _ _ r) (TrKv.mono h (kv :: kvs) _ t)
    | dck r t => exact .dck (h _ _ r) (TrKv.mono h kvs _ t)
theorem TrAll.mono (h : Same G G') : ∀ (ds : List D) (vs : List V), TrAll K G vs ds → TrAll K G' vs ds
  | [], _, x => by cases x; exact .nil
  | d :: ds, _, x => by
    cases x with
    | cons a b => exact .cons (Tr.mono h d _ a) (TrAll.mono h ds _ b)
theorem TrKv.mono (h : Same G G') : ∀ (kvs : List (D × D)) (ks : List (List Key × V)), TrKv K G ks kvs → TrKv K G' ks kvs
  | [], _, x => by cases x; exact .nil
  | (k, d) :: t, _, x => by
    cases x with
    | cons e a b => exact .cons e (Tr.mono h d _ a) (TrKv.mono h t _ b)
end
theorem Tr.mn (h : Same G G') {d : D} {v : V} (x : Tr K G v d) : Tr K G' v d := Tr.mono h d v x
theorem TrAll.mn (h : Same G G') {d : List D} {v : List V} (x : TrAll K G v d) : TrAll K G' v d := TrAll.mono h d v x
theorem TrKv.mn (h : Same G G') {d : List (D × D)} {v : List (List Key × V)} (x : TrKv K G v d) : TrKv K G' v d := TrKv.mono h d v x

/-! ### lists of trees -/
theorem TrAll.length : ∀ {vs : List V} {ds : List D}, TrAll K G vs ds → vs.length = ds.length
  | _, _, .nil => rfl
  | _, _, .cons _ t => by rw [List.length_cons, List.length_cons, TrAll.length t]
theorem TrAll.append : ∀ {vs ws : List V} {ds es : List D}, TrAll K G vs ds → TrAll K G ws es → TrAll K G (vs ++ ws) (ds ++ es)
  | _, _, _, _, .nil, s => s
  | _, _, _, _, .cons a t, s => .cons a (TrAll.append t s)
theorem TrAll.drop : ∀ (n : Nat) {vs : List V} {ds : List D}, TrAll K G vs ds → TrAll K G (vs.drop n) (ds.drop n)
  | 0, _, _, h => h
  | _ + 1, _, _, .nil => .nil
  | n + 1, _, _, .cons _ t => TrAll.drop n t
theorem TrAll.take : ∀ (n : Nat) {vs : List V} {ds : List D}, TrAll K G vs ds → TrAll K G (vs.take n) (ds.take n)
  | 0, _, _, _ => .nil
  | _ + 1, _, _, .nil => .nil
  | n + 1, _, _, .cons a t => .cons a (TrAll.take n t)
theorem TrAll.rev : ∀ {vs : List V} {ds : List D}, TrAll K G vs ds → TrAll K G vs.reverse ds.reverse
  | _, _, .nil => .nil
  | _, _, .cons a t => by
    rw [List.reverse_cons, List.reverse_cons]
    exact TrAll.append (TrAll.rev t) (.cons a .nil)
theorem TrAll.get : ∀ {vs : List V} {ds : List D} (i : Nat) {d : D}, TrAll K G vs ds → ds[i]? = some d → ∃ v, vs[i]? = some v ∧ Tr K G v d
  | _, _, _, _, .nil, e => by simp at e
  | _, _, 0, _, .cons a _, e => by simp at e; subst e; exact ⟨_, rfl, a⟩
  | _, _, i + 1, _, .cons _ t, e => by
    obtain ⟨v, h1, h2⟩ := TrAll.get i t (by simpa using e)
    exact ⟨v, by simpa using h1, h2⟩
theorem TrAll.get' : ∀ {vs : List V} {ds : List D} (i : Nat) {v : V}, TrAll K G vs ds → vs[i]? = some v → ∃ d, ds[i]? = some d ∧ Tr K G v d
  | _, _, _, _, .nil, e => by simp at e
  | _, _, 0, _, .cons a _, e => by simp at e; subst e; exact ⟨_, rfl, a⟩
  | _, _, i + 1, _, .cons _ t, e => by
    obtain ⟨v, h1, h2⟩ := TrAll.get' i t (by simpa using e)
    exact ⟨v, by simpa using h1, h2⟩
theorem TrAll.set : ∀ {vs : List V} {ds : List D} (i : Nat) {v : V} {d : D}, TrAll K G vs ds → Tr K G v d → TrAll K G (vs.set i v) (ds.set i d)
  | _, _, _, _, _, .nil, _ => .nil
  | _, _, 0, _, _, .cons _ t, x => .cons x t
  | _, _, i + 1, _, _, .cons a t, x => .cons a (TrAll.set i t x)
theorem TrAll.eraseIdx : ∀ {vs : List V} {ds : List D} (i : Nat), TrAll K G vs ds → TrAll K G (vs.eraseIdx i) (ds.eraseIdx i)
  | _, _, _, .nil => .nil
  | _, _, 0, .cons _ t => t
  | _, _, i + 1, .cons a t => .cons a (TrAll.eraseIdx i t)
theorem TrAll.dropLast {vs : List V} {ds : List D} (h : TrAll K G vs ds) : TrAll K G vs.dropLast ds.dropLast := by
  rw [List.dropLast_eq_take, List.dropLast_eq_take, h.length]
  exact h.take _
theorem TrAll.rep {vs : List V} {ds : List D} (h : TrAll K G vs ds) : ∀ n : Nat, TrAll K G (List.replicate n vs).flatten (List.replicate n ds).flatten
  | 0 => .nil
  | n + 1 => by
    rw [List.replicate_succ, List.replicate_succ, List.flatten_cons, List.flatten_cons]
    exact h.append (h.rep n)
theorem TrAll.emp {vs : List V} {ds : List D} (h : TrAll K G vs ds) : vs.isEmpty = ds.isEmpty := by
  cases h <;> rfl
theorem TrAll.cut {vs : List V} {ds : List D} (h : TrAll K G vs ds) (lo hi : Option Int) : TrAll K G (cutV vs lo hi) (cutD ds lo hi) := by
  unfold cutV cutD
  rw [h.length]
  exact (h.drop _).take _
theorem TrAll.atI {vs : List V} {ds : List D} {i : Int} {d : D} (h : TrAll K G vs ds) (e : L2.atI ds i = some d) : ∃ v, L2.atI vs i = some v ∧ Tr K G v d := by
  unfold L2.atI at e ⊢
  rw [h.length]
  cases q : ixN ds.length i with
  | none => rw [q] at e; cases e
  | some j =>
    rw [q] at e
    exact h.get j e
theorem TrAll.ints : ∀ {vs : List V} {ds : List D} {ns : List Int}, TrAll K G vs ds → intsD ds = some ns → vs = ns.map V.int
  | _, [], _, .nil, e => by cases e; rfl
  | _, _ :: _, _, .cons (.int i) t, e => by
    simp only [intsD, Option.map_eq_some_iff] at e
    obtain ⟨r, e1, rfl⟩ := e
    rw [List.map_cons, t.ints e1]
  | _, _ :: _, _, .cons .non t, e => by simp [intsD] at e
  | _, _ :: _, _, .cons (.bl _) t, e => by simp [intsD] at e
  | _, _ :: _, _, .cons (.str _) t, e => by simp [intsD] at e
  | _, _ :: _, _, .cons (.lst _ _) t, e => by simp [intsD] at e
  | _, _ :: _, _, .cons (.tup _ _ _) t, e => by simp [intsD] at e
  | _, _ :: _, _, .cons (.dct _ _) t, e => by simp [intsD] at e
  | _, _ :: _, _, .cons (.dck _ _) t, e => by simp [intsD] at e
theorem TrAll.bools : ∀ {vs : List V} {ds : List D} {ns : List Bool}, TrAll K G vs ds → boolsD ds = some ns → vs = ns.map V.bl
  | _, [], _, .nil, e => by cases e; rfl
  | _, _ :: _, _, .cons (.bl i) t, e => by
    simp only [boolsD, Option.map_eq_some_iff] at e
    obtain ⟨r, e1, rfl⟩ := e
    rw [List.map_cons, t.bools e1]
  | _, _ :: _, _, .cons .non t, e => by simp [boolsD] at e
  | _, _ :: _, _, .cons (.int _) t, e => by simp [boolsD] at e
  | _, _ :: _, _, .cons (.str _) t, e => by simp [boolsD] at e
  | _, _ :: _, _, .cons (.lst _ _) t, e => by simp [boolsD] at e
  | _, _ :: _, _, .cons (.tup _ _ _) t, e => by simp [boolsD] at e
  | _, _ :: _, _, .cons (.dct _ _) t, e => by simp [boolsD] at e
  | _, _ :: _, _, .cons (.dck _ _) t, e => by simp [boolsD] at e
theorem TrAll.strs : ∀ {vs : List V} {ds : List D} {ns : List Str}, TrAll K G vs ds → strsD ds = some ns → vs = ns.map V.str
  | _, [], _, .nil, e => by cases e; rfl
  | _, _ :: _, _, .cons (.str i) t, e => by
    simp only [strsD, Option.map_eq_some_iff] at e
    obtain ⟨r, e1, rfl⟩ := e
    rw [List.map_cons, t.strs e1]
  | _, _ :: _, _, .cons .non t, e => by simp [strsD] at e
  | _, _ :: _, _, .cons (.int _) t, e => by simp [strsD] at e
  | _, _ :: _, _, .cons (.bl _) t, e => by simp [strsD] at e
  | _, _ :: _, _, .cons (.lst _ _) t, e => by simp [strsD] at e
  | _, _ :: _, _, .cons (.tup _ _ _) t, e => by simp [strsD] at e
  | _, _ :: _, _, .cons (.dct _ _) t, e => by simp [strsD] at e
  | _, _ :: _, _, .cons (.dck _ _) t, e => by simp [strsD] at e
theorem TrAll.ofStrs : ∀ (ns : List Str), TrAll K G (ns.map V.str) (ns.map PyData.str)
  | [] => .nil
  | n :: r => .cons (.str n) (TrAll.ofStrs r)
theorem TrAll.keys : ∀ {vs : List V} {ds : List D} {ks : List Key}, TrAll K G vs ds → keysD ds = some ks → vs = ks.map kV
  | _, [], _, .nil, e => by cases e; rfl
  | _, d :: ds, _, .cons (v := v) (vs := vs) a t, e => by
    simp only [keysD] at e
    split at e
    · rename_i k ks e1 e2
      cases e
      rw [List.map_cons, t.keys e2]
      cases a <;> simp [keyD] at e1 <;> subst e1 <;> rfl
    · cases e
theorem vals_eq_keys {ks ks' : List Key} (h : ks.map kV = ks'.map kV) : ks = ks' := by
  induction ks generalizing ks' with
  | nil => cases ks' with
    | nil => rfl
    | cons _ _ => cases h
  | cons k r ih => cases ks' with
    | nil => cases h
    | cons k' r' =>
      rw [List.map_cons, List.map_cons] at h
      injection h with h1 h2
      rw [ih h2]
      cases k <;> cases k' <;> simp only [kV] at h1 <;> first | (injection h1 with h1; rw [h1]) | cases h1

/-! ### the data layer's own relation -/
mutual
theorem Tr.dp (h : Same G H) : ∀ (d : D) (v : V), SeqAt.shaped d = true ∨ d.canLay0 = true → Tr K G v d → Dp K H v d
  | .none, _, _, x => by cases x; exact .non
  | .bool _, _, _, x => by cases x; exact .bl _
  | .int _, _, _, x => by cases x; exact .int _
  | .str _, _, _, x => by cases x; exact .str _
  | .list ds, _, c, x => by
    cases x with
    | lst r t => exact .lst (sqL_mono h r) (TrAll.dp h ds _ (by
        have c' : PyData.canLay0 (.list ds) = true := by
          rcases c with c | c
          · exact (Bool.and_eq_true _ _ ▸ c).1
          · exact c
        simpa only [PyData.canLay0] using c') t)
  | .tuple ds, _, c, x => by
    cases x with
    | tup r k t => exact .tup (sqT_mono h r) (TrAll.dp h ds _ (by
        have c' : PyData.canLay0 (.tuple ds) = true := by
          rcases c with c | c
          · exact (Bool.and_eq_true _ _ ▸ c).1
          · exact c
        simpa only [PyData.canLay0] using c') t)
  | .dict kvs, _, c, x => by
    have c' : PyData.canLay0 (.dict kvs) = true := by
      rcases c with c | c
      · exact (Bool.and_eq_true _ _ ▸ c).1
      · exact c
    simp only [PyData.canLay0] at c'
    cases c'
theorem TrAll.dp (h : Same G H) : ∀ (ds : List D) (vs : List V), PyData.canLayAll0 ds = true → TrAll K G vs ds → DpAll K H vs ds
  | [], _, _, x => by cases x; exact .nil
  | d :: ds, _, c, x => by
    simp only [PyData.canLayAll0, Bool.and_eq_true] at c
    cases x with
    | cons a b => exact .cons (Tr.dp h d _ (.inr c.1) a) (TrAll.dp h ds _ c.2 b)
end

/-! ### what is owned, what is seen -/
/-- the thing at a, owned, is the tree d -/
def Own (K : PySem.W.Frag) (G H : Hp) (a : Addr) : D → Prop
  | .list ds => ∃ vs, H a = some (.lst vs) ∧ TrAll K G vs ds
  | .dict kvs => (∃ ks, H a = some (.dT ks) ∧ TrKv K G ks kvs) ∨ ∃ ks r, kvs = mkD :: r ∧ H a = some (.dK ks) ∧ TrKv K G (ks.map fun kv => ([kv.1], kv.2)) r
  | _ => False
theorem Own.mn (h : Same G G') {a : Addr} {d : D} (e : H' a = H a) (x : Own K G H a d) : Own K G' H' a d := by
  cases d <;> simp only [Own] at x ⊢
  · obtain ⟨vs, e1, t⟩ := x
    exact ⟨vs, by rw [e, e1], t.mn h⟩
  · rcases x with ⟨vs, e1, t⟩ | ⟨vs, r, e0, e1, t⟩
    · exact .inl ⟨vs, by rw [e, e1], t.mn h⟩
    · exact .inr ⟨vs, r, e0, by rw [e, e1], t.mn h⟩
theorem Own.ne {a : Addr} {d : D} (x : Own K G H a d) : H a ≠ none := by
  cases d <;> simp only [Own] at x
  · obtain ⟨vs, e1, _⟩ := x
    rw [e1]; simp
  · rcases x with ⟨vs, e1, _⟩ | ⟨vs, r, _, e1, _⟩
    · rw [e1]; simp
    · rw [e1]; simp
def Vw (K : PySem.W.Frag) (G H : Hp) (v : V) (d : D) : Prop := Tr K G v d ∨ ∃ a, v = .ref a ∧ Own K G H a d

/-- a step that lays new things alone -/
structure Grow (G H G' H' : Hp) : Prop where
  g : Same G G'
  gh : Same G' H'
  keep : Same H H'
  new : ∀ a, H a ≠ none → G a = none → G' a = none
theorem Grow.rfl' (h : Same G H) : Grow G H G H := ⟨Same.refl _, h, Same.refl _, fun _ _ e => e⟩
/-- what an operation gives -/
def Res (K : PySem.W.Frag) (G' H H' : Hp) (v : V) (d : D) : Fl → Prop
  | .sh => Tr K G' v d
  | .ow => ∃ a, v = .ref a ∧ H a = none ∧ G' a = none ∧ Own K G' H' a d
  | .io => False
theorem same_upd {a : Addr} {o : HO} (e : H a = none) : Same H (upd H a o) := fun b u h => by
  rw [upd_ne (ne_of_none h e)]; exact h
theorem same_none (h : Same G H) {a : Addr} (e : H a = none) : G a = none := by
  cases q : G a with
  | none => rfl
  | some o => rw [h a o q] at e; cases e
/-- a new tuple -/
theorem Grow.tup (h : Same G H) {a : Addr} {vs : List V} (e : H a = none) : Grow G H (upd G a (.tup vs)) (upd H a (.tup vs)) := by
  refine ⟨same_upd (same_none h e), fun b u q => ?_, same_upd e, fun b hb g => ?_⟩
  · by_cases hc : b = a
    · subst hc; rw [upd_same] at q ⊢; exact q
    · rw [upd_ne hc] at q ⊢; exact h b u q
  · have hc : b ≠ a := fun z => by subst z; exact hb e
    rw [upd_ne hc]; exact g
theorem Tr.newTup (h : Same G H) {a : Addr} {vs : List V} {ds : List D} (e : H a = none) (t : TrAll K G vs ds) : Tr K (upd G a (.tup vs)) (.ref a) (.tuple ds) :=
  .tup (.inl (.inl upd_same)) (fun _ => upd_same) (t.mn (same_upd (same_none h e)))
/-- a new list or dict that is owned -/
theorem Grow.own (h : Same G H) {a : Addr} {o : HO} (e : H a = none) : Grow G H G (upd H a o) :=
  ⟨Same.refl _, h.trans (same_upd e), same_upd e, fun _ _ g => g⟩
theorem Res.newL (h : Same G H) {a : Addr} {vs : List V} {ds : List D} (e : H a = none) (t : TrAll K G vs ds) : Res K G H (upd H a (.lst vs)) (.ref a) (.list ds) .ow :=
  ⟨a, rfl, e, same_none h e, vs, upd_same, t⟩

/-! ### seen things by kind -/
theorem Vw.list {v : V} {ds : List D} (h : Same G H) (x : Vw K G H v (.list ds)) : ∃ a vs, v = .ref a ∧ SqL K H a vs ∧ TrAll K G vs ds := by
  rcases x with x | ⟨a, rfl, vs, e, t⟩
  · cases x with
    | lst r t => exact ⟨_, _, rfl, sqL_mono h r, t⟩
  · exact ⟨a, vs, rfl, .inl (.inl e), t⟩
theorem Vw.tuple {v : V} {ds : List D} (h : Same G H) (x : Vw K G H v (.tuple ds)) : ∃ a vs, v = .ref a ∧ SqT K H a vs ∧ TrAll K G vs ds := by
  rcases x with x | ⟨a, rfl, z⟩
  · cases x with
    | tup r k t => exact ⟨_, _, rfl, sqT_mono h r, t⟩
  · cases z
theorem Vw.tupT {v : V} {ds : List D} (h : Same G H) (x : Vw K G H v (.tuple ds)) (hl : lockD ds = false) : ∃ a vs, v = .ref a ∧ H a = some (.tup vs) ∧ TrAll K G vs ds := by
  rcases x with x | ⟨a, rfl, z⟩
  · cases x with
    | tup r k t => exact ⟨_, _, rfl, h _ _ (k hl), t⟩
  · cases z
theorem TrKv.noMk {ks : List (List Key × V)} {kvs : List (D × D)} (t : TrKv K G ks kvs) : unMk kvs = none := by
  cases t <;> rfl
theorem unMk_some {kvs r : List (D × D)} (h : unMk kvs = some r) : ∃ d, kvs = (.none, d) :: r := by
  unfold unMk at h
  split at h
  · cases h
    exact ⟨_, rfl⟩
  · cases h
/-- a dict that is seen: by tuples, or by ints and texts -/
theorem Vw.dict {v : V} {kvs : List (D × D)} (h : Same G H) (x : Vw K G H v (.dict kvs)) : (∃ a ks, v = .ref a ∧ Rd H a (.dT ks) ∧ TrKv K G ks kvs ∧ unMk kvs = none) ∨ ∃ a ks r, v = .ref a ∧ Rd H a (.dK ks) ∧ kvs = mkD :: r ∧ TrKv K G (ks.map fun kv => ([kv.1], kv.2)) r := by
  rcases x with x | ⟨a, rfl, ⟨ks, e, t⟩ | ⟨ks, r, e0, e, t⟩⟩
  · cases x with
    | dct r t => exact .inl ⟨_, _, rfl, .inl (h _ _ r), t, t.noMk⟩
    | dck r t => exact .inr ⟨_, _, _, rfl, .inl (h _ _ r), rfl, t⟩
  · exact .inl ⟨a, ks, rfl, .inl e, t, t.noMk⟩
  · exact .inr ⟨a, ks, r, rfl, .inl e, e0, t⟩
theorem Vw.int {v : V} {i : Int} (x : Vw K G H v (.int i)) : v = .int i := by
  rcases x with x | ⟨a, rfl, z⟩
  · cases x; rfl
  · cases z
theorem Vw.str {v : V} {i : Str} (x : Vw K G H v (.str i)) : v = .str i := by
  rcases x with x | ⟨a, rfl, z⟩
  · cases x; rfl
  · cases z
theorem Vw.bool {v : V} {i : Bool} (x : Vw K G H v (.bool i)) : v = .bl i := by
  rcases x with x | ⟨a, rfl, z⟩
  · cases x; rfl
  · cases z
theorem Vw.none {v : V} (x : Vw K G H v .none) : v = .non := by
  rcases x with x | ⟨a, rfl, z⟩
  · cases x; rfl
  · cases z
theorem Vw.dp {v : V} {d : D} (h : Same G H) (c : SeqAt.shaped d = true) (x : Vw K G H v d) : Dp K H v d := by
  rcases x with x | ⟨a, rfl, z⟩
  · exact Tr.dp h d v (.inl c) x
  · have c' : d.canLay0 = true := (Bool.and_eq_true _ _ ▸ c).1
    cases d <;> simp only [Own] at z
    · obtain ⟨vs, e, t⟩ := z
      exact .lst (.inl (.inl e)) (TrAll.dp h _ _ (by simpa only [PyData.canLay0] using c') t)
    · simp only [PyData.canLay0] at c'
      cases c'
end
end Ev


set_option Elab.async false
set_option linter.all false
set_option maxRecDepth 100000
set_option maxHeartbeats 1000000
/-! The operations on trees, by values, against the model. -/
namespace Ev
open PySem PySem.Spec PyProof.Rows L2

section
variable {X : Cx}
/-- both operands may be locked things -/
def rJoinL (X : Cx) : R2 := fun x y H Q => ∃ l b xs zs, x = .ref l ∧ y = .ref b ∧ SqL X.K H l xs ∧ SqL X.K H b zs ∧ xs.length + zs.length ≤ LINE ∧ ∀ p, H p = none → Q (.ref p) (upd H p (.lst (xs ++ zs)))
theorem op_joinL : OpR X (binaryOp .Add) (rJoinL X) := by
  intro pins s σ H x y v u Q I rx ry ⟨l, b, xs, zs, e1, e2, hl, hb, hz, q⟩
  subst e1 e2
  cases rx; cases ry
  obtain ⟨vl, pl, ⟨⟨c1, d1, q1, s1⟩, n1, g1, e1, e2, e3⟩, _⟩ := I.list hl
  obtain ⟨vb, pb, ⟨⟨c2, d2, q2, s2⟩, n2, g2, f1, f2, f3⟩, _⟩ := I.list hb
  simp only at e1 e2 e3 f1 f2 f3
  subst e1 e2 e3 f1 f2 f3
  have ll := pl.length
  have lb := pb.length
  have hs : (sizeLine : Nat) = 16777216 := sizeLine_eq
  have hL : (LINE : Nat) = 16777216 := rfl
  refine concat_meets ⟨_, g1, rfl⟩ ⟨_, g2, rfl⟩ noFill_list_add seq_list_add PySem.F.slot_list_add PySem.F.entry_list_add (PySem.F.args_list_add_2 _ _) (list_addW l b vl.toArray vb.toArray n1 n2 none none s1 s2 (by simp only [List.size_toArray]; omega)) ⟨g1, g2, ?_⟩
  rw [show vl.toArray ++ vb.toArray = (vl ++ vb).toArray by simp]
  have sz : (xs ++ zs).length ≤ sizeLine := by rw [List.length_append]; omega
  exact ⟨V.ref s.heap.objs.size, upd H s.heap.objs.size (.lst (xs ++ zs)), I.lnew (t' := s.toks) (pl.append pb) sz, rfl, q _ I.fresh⟩
def rTimesL : R2 := fun x y H Q => ∃ l k xs, x = .ref l ∧ y = .int k ∧ Rd H l (.lst xs) ∧ -(2 ^ 63) ≤ k ∧ k < 2 ^ 63 ∧ xs.length * k.toNat ≤ LINE ∧ ∀ p, H p = none → Q (.ref p) (upd H p (.lst (List.replicate k.toNat xs).flatten))
theorem op_timesL : OpR X (binaryOp .Mult) rTimesL := by
  intro pins s σ H x y v u Q I rx ry ⟨l, k, xs, e1, e2, hl, h1, h2, hz, q⟩
  subst e1 e2
  cases rx
  obtain ⟨t, et⟩ := ry
  subst et
  have ol := hl.ok I.hok
  obtain ⟨_, vl, nl, pl, gl⟩ := ol
  have ll := pl.length
  have hs : (sizeLine : Nat) = 16777216 := sizeLine_eq
  have hL : (LINE : Nat) = 16777216 := rfl
  have z1 : vl.toArray.size * k.toNat ≤ sizeLine := by rw [List.size_toArray, ← ll, hs]; exact hz
  have z2 : ¬ vl.toArray.size * k.toNat > (2 ^ 63 - 1) / 8 := by rw [hs] at z1; omega
  have z3 : ¬ (!Builtin.List.listFitsIndex k) = true := by rw [fitsIndex_both h1 h2]; simp
  have z4 : ¬ Builtin.List.listTooLong (vl.toArray.size * k.toNat) = true := by rw [notLongL z1]; simp
  have fr : ∀ m : Nat, List.foldl (fun x1 x2 => x1 ++ x2) #[] (List.replicate m vl.toArray) = (List.replicate m vl).flatten.toArray := fun m => by
    have fm := foldl_rep vl m []
    rw [List.nil_append] at fm
    exact fm
  have new : List.foldl (fun x1 x2 => x1 ++ x2) #[] (List.replicate (if vl.toArray.isEmpty = true then 0 else k.toNat) vl.toArray) = (List.replicate k.toNat vl).flatten.toArray := by
    rw [fr]
    cases vl with
    | nil => simp
    | cons a r => simp
  refine wpAny_binaryOp_repeat_ref (T := "list") (U := "int") (by decide) ⟨_, gl, rfl⟩ (fun s' => typeIs_int s' k t) noFill_list_mul F.fills_int_mul F.slot_int_rmul repeat_list F.slot_int_index.lookup ?_
  refine call_meets F.slot_int_rmul (typeIs_int s k t) F.entry_int_rmul (F.args_int_rmul_2 _ _) (int___rmul___int_list k t l vl.toArray nl) ⟨gl, rfl, ⟨_, gl, rfl⟩, ?_⟩
  refine call_meets F.slot_list_mul ⟨_, gl, rfl⟩ F.entry_list_mul (F.args_list_mul_2 _ _) (AutoListH.list___mul___list_int_3 l vl.toArray nl k t z3 z2 z4) ⟨gl, ?_⟩
  rw [new]
  have sz : (List.replicate k.toNat xs).flatten.length ≤ sizeLine := by rw [PyProof.Rows.lm_len_rep_flat, Nat.mul_comm, hs]; exact hz
  exact ⟨V.ref s.heap.objs.size, upd H s.heap.objs.size (.lst (List.replicate k.toNat xs).flatten), I.lnew (t' := s.toks) (pl.rep k.toNat) sz, rfl, q _ I.fresh⟩
end

section
variable (K : PySem.W.Frag)
/-- two trees seen, one given -/
def r2D (f : D → D → Option (D × Fl)) : R2 := fun x y H Q => ∃ G d1 d2 d fl, Same G H ∧ Vw K G H x d1 ∧ Vw K G H y d2 ∧ f d1 d2 = some (d, fl) ∧
  ∀ v G' H', Grow G H G' H' → Res K G' H H' v d fl → Q v H'
/-- what is taken some times over is a new list -/
def mulOwn (G H : Hp) (op : Bop) (x : V) (d : D) : Prop := op = .mul → ∀ ds, d = .list ds → ∃ a, x = V.ref a ∧ Own K G H a d
/-- two trees under an operator -/
def r2DM (op : Bop) : R2 := fun x y H Q => ∃ G d1 d2 d fl, Same G H ∧ Vw K G H x d1 ∧ Vw K G H y d2 ∧ mulOwn K G H op x d1 ∧ binD op d1 d2 = some (d, fl) ∧
  ∀ v G' H', Grow G H G' H' → Res K G' H H' v d fl → Q v H'
/-- two trees seen, a truth value given -/
def r2B (f : D → D → Option Bool) : R2 := fun x y H Q => ∃ G d1 d2 b, Same G H ∧ Vw K G H x d1 ∧ Vw K G H y d2 ∧ f d1 d2 = some b ∧ Q (.bl b) H
/-- some trees seen, one given -/
def rnD (f : List D → Option (D × Fl)) : List V → Hp → VK → Prop := fun xs H Q => ∃ G ds d fl, Same G H ∧ Paired (Vw K G H) xs ds ∧ f ds = some (d, fl) ∧
  ∀ v G' H', Grow G H G' H' → Res K G' H H' v d fl → Q v H'
end
def opOf : Bop → Operator
  | .add => .Add
  | .sub => .Sub
  | .mul => .Mult
  | .fdiv => .FloorDiv
  | .mod => .Mod
  | .pow => .Pow
theorem ite'_some {α : Type} {c : Bool} {x : Option α} {y : α} (h : ite' c x = some y) : c = true ∧ x = some y := by
  unfold ite' at h
  split at h
  · rename_i hc; exact ⟨hc, h⟩
  · cases h
section
variable {X : Cx}
theorem size_fold (c : Array Nat) : ∀ (m : Nat) (acc : Array Nat), (List.foldl (· ++ ·) acc (List.replicate m c)).size = acc.size + m * c.size
  | 0, acc => by simp
  | m + 1, acc => by
    rw [List.replicate_succ, List.foldl_cons, size_fold c m, Array.size_append, Nat.succ_mul]
    omega
theorem op_mulS : OpR X (binaryOp .Mult) (fun x y H Q => ∃ a k, x = V.str a ∧ y = V.int k ∧ 0 ≤ k ∧ k ≤ 1000 ∧ a.length ≤ 1000 ∧ Q (.str ⟨(List.replicate k.toNat a.cps).foldl (· ++ ·) #[]⟩) H) := by
  have hs : (sizeLine : Nat) = 16777216 := sizeLine_eq
  intro pins s σ H x y v u Q I rx ry h
  obtain ⟨a, k, rfl, rfl, h1, h2, h4, q⟩ := h
  obtain ⟨t, rfl⟩ := rx
  obtain ⟨t', rfl⟩ := ry
  have hk : ((a.length : Nat) : Int) * k ≤ 1000 * 1000 := by
    have a1 : ((a.length : Nat) : Int) * k ≤ 1000 * k := Int.mul_le_mul_of_nonneg_right (by omega) (by omega)
    omega
  have hn : a.length * k.toNat ≤ 1000 * 1000 := Nat.mul_le_mul h4 (by omega)
  refine P.mul_str (by rw [decide_eq_false (by omega), decide_eq_false (by omega)]; rfl) (fun _ _ => ?_) (fun _ _ => ?_) ?_
  · have := Int.le_ediv_of_mul_le (a := (a.length : Int)) (b := 2 ^ 63 - 1) (c := k) (by omega) (by omega)
    omega
  · exact decide_eq_false (by rw [hs]; omega)
  · by_cases k0 : k < 1
    · obtain rfl : k = 0 := by omega
      rw [if_pos (by decide)]
      exact ⟨by decide, .str _, H, I.tok _, ⟨_, rfl⟩, q⟩
    · rw [if_neg k0]
      by_cases k1 : k = 1
      · subst k1
        rw [if_pos (by rfl)]
        have e : (List.replicate (Int.toNat 1) a.cps).foldl (· ++ ·) #[] = a.cps := by
          show #[] ++ a.cps = a.cps
          simp
        rw [e] at q
        exact ⟨.str _, H, I, ⟨_, rfl⟩, q⟩
      · by_cases h3 : a.length = 0
        · have e0 : a.cps = #[] := Array.size_eq_zero_iff.mp h3
          have e : (List.replicate k.toNat a.cps).foldl (· ++ ·) #[] = a.cps := by
            rw [e0]
            refine Array.size_eq_zero_iff.mp ?_
            rw [size_fold]
            simp
          rw [e] at q
          rw [if_pos (by rw [h3]; simp)]
          exact ⟨.str _, H, I, ⟨_, rfl⟩, q⟩
        · have c1 : (k == 1 || a.length == 0) = false := by
            rw [Bool.or_eq_false_iff]
            exact ⟨beq_eq_false_iff_ne.mpr k1, beq_eq_false_iff_ne.mpr h3⟩
          rw [c1, if_neg (by decide)]
          refine ⟨?_, .str _, H, I.tok _, ⟨_, rfl⟩, q⟩
          show (List.foldl (· ++ ·) #[] (List.replicate k.toNat a.cps)).size ≤ _
          rw [size_fold, hs]
          have : a.cps.size = a.length := rfl
          rw [this, Nat.mul_comm]
          show 0 + _ ≤ _
          omega
theorem op_bin (op : Bop) : OpR X (binaryOp (opOf op)) (r2DM X.K op) := by
  intro pins s σ H x y v u Q I rx ry h
  obtain ⟨G, d1, d2, d, fl, gh, w1, w2, mo, e, q⟩ := h
  have hs : (sizeLine : Nat) = 16777216 := sizeLine_eq
  have hL : (LINE : Nat) = 16777216 := rfl
  unfold binD at e
  split at e
  · cases e
    exact op_add pins s σ H x y v u Q I rx ry ⟨_, _, w1.int, w2.int, q _ G H (Grow.rfl' gh) (.int _)⟩
  · cases e
    exact op_sub pins s σ H x y v u Q I rx ry ⟨_, _, w1.int, w2.int, q _ G H (Grow.rfl' gh) (.int _)⟩
  · obtain ⟨c, e⟩ := ite'_some e
    cases e
    exact op_mul pins s σ H x y v u Q I rx ry ⟨_, _, w1.int, w2.int, by (have c' := of_decide_eq_true c); exact c', q _ G H (Grow.rfl' gh) (.int _)⟩
  · obtain ⟨c, e⟩ := ite'_some e
    cases e
    exact op_fdiv pins s σ H x y v u Q I rx ry ⟨_, _, w1.int, w2.int, by (have c' := of_decide_eq_true c); exact c', q _ G H (Grow.rfl' gh) (.int _)⟩
  · obtain ⟨c, e⟩ := ite'_some e
    cases e
    exact op_mod pins s σ H x y v u Q I rx ry ⟨_, _, w1.int, w2.int, by (have c' := of_decide_eq_true c); exact c', q _ G H (Grow.rfl' gh) (.int _)⟩
  · obtain ⟨c, e⟩ := ite'_some e
    cases e
    exact op_pow pins s σ H x y v u Q I rx ry ⟨_, _, w1.int, w2.int, by (have c' := of_decide_eq_true c); exact c', q _ G H (Grow.rfl' gh) (.int _)⟩
  · obtain ⟨c, e⟩ := ite'_some e
    cases e
    have c := of_decide_eq_true c
    exact op_add_str pins s σ H x y v u Q I rx ry ⟨_, _, w1.str, w2.str, by rw [hs]; exact c, q _ G H (Grow.rfl' gh) (.str _)⟩
  · obtain ⟨c, e⟩ := ite'_some e
    cases e
    have c := of_decide_eq_true c
    obtain ⟨a, vs, rfl, r1, t1⟩ := w1.list gh
    obtain ⟨b, ws, rfl, r2, t2⟩ := w2.list gh
    exact op_joinL pins s σ H _ _ v u Q I rx ry ⟨a, b, vs, ws, rfl, rfl, r1, r2, by rw [t1.length, t2.length]; exact c, fun p hp => q _ G _ (Grow.own gh hp) (Res.newL gh hp (t1.append t2))⟩
  · obtain ⟨c, e⟩ := ite'_some e
    cases e
    have c := of_decide_eq_true c
    obtain ⟨a, vs, rfl, r1, t1⟩ := w1.tuple gh
    obtain ⟨b, ws, rfl, r2, t2⟩ := w2.tuple gh
    refine op_catA pins s σ H _ _ v u Q I rx ry ⟨a, b, vs, ws, rfl, rfl, r1, r2, by rw [t1.length, t2.length, hs]; exact c, fun z => ?_, fun z1 z2 => ?_, fun z1 z2 p hp => ?_⟩
    · subst z
      cases t1
      refine q _ G H (Grow.rfl' gh) ?_
      rcases w2 with w2 | ⟨_, _, z⟩
      · exact w2
      · cases z
    · subst z2
      cases t2
      refine q _ G H (Grow.rfl' gh) ?_
      rw [List.append_nil]
      rcases w1 with w1 | ⟨_, _, z⟩
      · exact w1
      · cases z
    · exact q _ _ _ (Grow.tup gh hp) (Tr.newTup gh hp (t1.append t2))
  · obtain ⟨c, e⟩ := ite'_some e
    cases e
    obtain ⟨c1, c2, c3⟩ := of_decide_eq_true c
    obtain ⟨a, ea, vs, hv, t1⟩ := mo rfl _ rfl
    subst ea
    exact op_timesL pins s σ H _ _ v u Q I rx ry ⟨a, _, vs, rfl, w2.int, .inl hv, c1, c2, by rw [t1.length]; exact c3, fun p hp => q _ G _ (Grow.own gh hp) (Res.newL gh hp (t1.rep _))⟩
  · obtain ⟨c, e⟩ := ite'_some e
    cases e
    obtain ⟨c1, c2, c3⟩ := of_decide_eq_true c
    exact op_mulS pins s σ H x y v u Q I rx ry ⟨_, _, w1.str, w2.int, c1, c2, c3, q _ G H (Grow.rfl' gh) (.str _)⟩
  · obtain ⟨c, e⟩ := ite'_some e
    cases e
    rw [Bool.and_eq_true] at c
    obtain ⟨c1, c2, c3⟩ := of_decide_eq_true c.2
    obtain ⟨a, vs, rfl, r1, t1⟩ := w1.tuple gh
    refine op_repT pins s σ H _ _ v u Q I rx ry ⟨a, _, vs, rfl, w2.int, r1, fun z => ?_, c1, c2, by rw [t1.length]; exact c3, fun p hp => q _ _ _ (Grow.tup gh hp) (Tr.newTup gh hp (t1.rep _))⟩
    subst z
    cases t1
    simp at c
  · cases e

/-! ### truth -/
theorem Vw.tru {G H : Hp} {K : PySem.W.Frag} {x : V} {d : D} {b : Bool} (gh : Same G H) (w : Vw K G H x d) (e : truD d = some b) : TruV K x H b := by
  have hs : (sizeLine : Nat) = 16777216 := sizeLine_eq
  have hL : (LINE : Nat) = 16777216 := rfl
  cases d with
  | none => rw [w.none]; cases e; rfl
  | bool c => rw [w.bool]; cases e; rfl
  | int i => rw [w.int]; cases e; rfl
  | str y =>
    rw [w.str]
    simp only [truD] at e
    split at e
    · rename_i hy
      cases e
      exact ⟨by rw [hs]; exact hy, rfl⟩
    · cases e
  | list xs =>
    obtain ⟨a, vs, rfl, r1, t1⟩ := w.list gh
    cases e
    exact .inl ⟨vs, r1, by rw [t1.emp]⟩
  | tuple xs =>
    obtain ⟨a, vs, rfl, r1, t1⟩ := w.tuple gh
    cases e
    exact .inr (.inl ⟨vs, r1, by rw [t1.emp]⟩)
  | dict _ => cases e

/-! ### comparisons -/
def copOf : Cop → CmpOp
  | .eq => .Eq
  | .ne => .NotEq
  | .lt => .Lt
  | .le => .LtE
  | .gt => .Gt
  | .ge => .GtE
  | .isin => .In
  | .nin => .NotIn
  | .isn => .Is
  | .notn => .IsNot
/-- scalars -/
def toV : D → Option V
  | .none => some .non
  | .bool b => some (.bl b)
  | .int i => some (.int i)
  | .str x => some (.str x)
  | _ => none
theorem Vw.sc {G H : Hp} {K : PySem.W.Frag} {x : V} {d : D} {c : V} (w : Vw K G H x d) (e : toV d = some c) : x = c := by
  cases d <;> simp only [toV, Option.some.injEq, reduceCtorEq] at e
  · rw [w.none, e]
  · rw [w.bool, e]
  · rw [w.int, e]
  · rw [w.str, e]
theorem eqD_sc {d1 d2 : D} {b : Bool} (e : eqD d1 d2 = some b) : (∃ c1 c2, toV d1 = some c1 ∧ toV d2 = some c2 ∧ scal c1 c2 = true ∧ b = decide (c1 = c2)) ∨
    (SeqAt.shaped d1 = true ∧ SeqAt.shaped d2 = true ∧ b = PyData.eqv d1 d2) := by
  unfold eqD at e
  split at e
  all_goals first
    | (cases e; exact .inl ⟨_, _, rfl, rfl, rfl, by first | rfl | simp⟩)
    | skip
  split at e
  · rename_i hc
    cases e
    rw [Bool.and_eq_true] at hc
    exact .inr ⟨hc.1, hc.2, rfl⟩
  · cases e
theorem op_eq2 (hu : X.A.units + 64 < cLine) : OpR X (compareOp .Eq) (r2B X.K eqD) := by
  intro pins s σ H x y v u Q I rx ry h
  obtain ⟨G, d1, d2, b, gh, w1, w2, e, q⟩ := h
  rcases eqD_sc e with ⟨c1, c2, t1, t2, sc, eb⟩ | ⟨s1, s2, eb⟩
  · have e1 := w1.sc t1
    have e2 := w2.sc t2
    subst e1 e2 eb
    exact op_eq pins s σ H _ _ v u Q I rx ry ⟨sc, q⟩
  · subst eb
    exact op_eqD hu pins s σ H _ _ v u Q I rx ry ⟨d1, d2, w1.dp gh s1, w2.dp gh s2, s1, s2, q⟩
theorem op_ne2 (hu : X.A.units + 64 < cLine) : OpR X (compareOp .NotEq) (r2B X.K fun a b => (eqD a b).map (!·)) := by
  intro pins s σ H x y v u Q I rx ry h
  obtain ⟨G, d1, d2, b, gh, w1, w2, e, q⟩ := h
  rw [Option.map_eq_some_iff] at e
  obtain ⟨b', e, eb'⟩ := e
  subst eb'
  rcases eqD_sc e with ⟨c1, c2, t1, t2, sc, eb⟩ | ⟨s1, s2, eb⟩
  · have e1 := w1.sc t1
    have e2 := w2.sc t2
    subst e1 e2 eb
    exact op_ne pins s σ H _ _ v u Q I rx ry ⟨sc, q⟩
  · subst eb
    exact op_neD hu pins s σ H _ _ v u Q I rx ry ⟨d1, d2, w1.dp gh s1, w2.dp gh s2, s1, s2, q⟩
end
end Ev


set_option Elab.async false
set_option linter.all false
set_option maxRecDepth 100000
set_option maxHeartbeats 1000000
/-! More operations on trees, by values. -/
namespace Ev
open PySem PySem.Spec PyProof.Rows L2

section
variable {X : Cx}
theorem shaped_all {ds : List D} : (SeqAt.shaped (.list ds) = true ∨ SeqAt.shaped (.tuple ds) = true) → PyData.canLayAll0 ds = true := by
  intro h
  rcases h with h | h
  · have := (Bool.and_eq_true _ _ ▸ h).1
    simpa only [PyData.canLay0] using this
  · have := (Bool.and_eq_true _ _ ▸ h).1
    simpa only [PyData.canLay0] using this
theorem op_inT (hu : X.A.units + 65 < cLine) (neg : Bool) : OpR X (compareOp (if neg = true then .NotIn else .In)) (fun x y H Q => ∃ d ds, Dp X.K H x d ∧ Dp X.K H y (.tuple ds) ∧ SeqAt.shaped d = true ∧ SeqAt.shaped (.tuple ds) = true ∧
    Q (.bl (if neg = true then !(ds.any fun z => PyData.eqv z d) else ds.any fun z => PyData.eqv z d)) H) := by
  intro pins s σ H x y v u Q I rx ry ⟨d, ds, hd, he, sd, se, q⟩
  obtain ⟨as, r1⟩ := Dp.reads I d x v hd rx
  obtain ⟨bs, r2⟩ := Dp.reads I (.tuple ds) y u he ry
  cases neg with
  | false => exact SeqAt.in_tuple_reads r2 r1 (shaped_all (.inr se)) (SeqAt.canLay_of_shaped sd) (room_in_shaped sd hu) ⟨.bl _, H, I, rfl, q⟩
  | true => exact SeqAt.notIn_tuple_reads r2 r1 (shaped_all (.inr se)) (SeqAt.canLay_of_shaped sd) (room_in_shaped sd hu) ⟨.bl _, H, I, rfl, q⟩
/-! ### dicts -/
section
variable {K : PySem.W.Frag} {G H : Hp}
theorem dGet_ok {k : List Key} {d : D} : ∀ {kvs : List (D × D)} {ks : List (List Key × V)}, TrKv K G ks kvs → dGet kvs k = some d → ∃ v, valV ks k = some v ∧ Tr K G v d
  | _, _, .nil, e => by cases e
  | _, _, .cons (ks := k0) (v := v) (l := l) (d := d0) a t r, e => by
    simp only [dGet] at e
    split at e
    · rename_i h
      cases e
      rw [a] at h
      cases h
      exact ⟨v, valV_pos rfl, t⟩
    · rename_i h
      obtain ⟨v', e1, t'⟩ := dGet_ok r e
      refine ⟨v', ?_, t'⟩
      rw [valV_neg (fun z => h (by rw [a]; exact congrArg some z))]
      exact e1
theorem TrKv.has {k : List Key} : ∀ {ks : List (List Key × V)} {kvs : List (D × D)}, TrKv K G ks kvs → dHas kvs k = ks.any fun kv => decide (kv.1 = k)
  | _, _, .nil => rfl
  | _, _, .cons (ks := k0) (v := v) (l := l) (d := d0) a t r => by
    have ih := r.has (k := k)
    unfold dHas at ih ⊢
    rw [List.any_cons, List.any_cons, ih]
    simp only [a, Option.some.injEq]
theorem valV_any {α : Type} [DecidableEq α] (k : α) : ∀ ks : List (α × V), (valV ks k).isSome = ks.any fun kv => decide (kv.1 = k)
  | [] => rfl
  | kv :: r => by
    have ih := valV_any k r
    by_cases h : kv.1 = k
    · rw [List.any_cons, decide_eq_true h]
      rw [valV_pos h]
      rfl
    · rw [List.any_cons, decide_eq_false h, valV_neg h, ih]
      rfl
theorem valV_wrap (k : Key) : ∀ ks : List (Key × V), valV (ks.map fun kv => ([kv.1], kv.2)) [k] = valV ks k
  | [] => rfl
  | kv :: r => by
    have ih := valV_wrap k r
    rw [List.map_cons]
    by_cases h : kv.1 = k
    · rw [valV_pos (show ([kv.1] : List Key) = [k] by rw [h]), valV_pos h]
    · rw [valV_neg (show ¬ ([kv.1] : List Key) = [k] from fun e => h (List.cons.inj e).1), valV_neg h, ih]
theorem Vw.key {y : V} {d : D} {k : Key} (w : Vw K G H y d) (e : keyD d = some k) : y = kV k := by
  cases d <;> simp only [keyD, reduceCtorEq] at e
  · cases e; exact w.int
  · cases e; exact w.str
theorem hasK_ok {x y : V} {kvs : List (D × D)} {d : D} {b : Bool} (gh : Same G H) (w1 : Vw K G H x (.dict kvs)) (w2 : Vw K G H y d) (e : hasK kvs d = some b) : ∃ a o, x = .ref a ∧ DGet H a y o ∧ o.isSome = b := by
  rcases w1.dict gh with ⟨a, ks, rfl, r1, t1, hm⟩ | ⟨a, ks, r, rfl, r1, rfl, t1⟩
  · unfold hasK at e
    rw [hm] at e
    dsimp only at e
    split at e
    · split at e
      · rename_i l kk e1
        cases e
        obtain ⟨hlk, e1⟩ := keyT_some e1
        obtain ⟨c, vs, rfl, r2, t2⟩ := w2.tupT gh hlk
        exact ⟨a, valV ks kk, rfl, .inr ⟨ks, kk, c, r1, rfl, by rw [r2, t2.keys e1], rfl⟩, by rw [valV_any, t1.has]⟩
      · cases e
    · cases e
  · unfold hasK at e
    rw [show unMk (mkD :: r) = some r from rfl] at e
    dsimp only at e
    split at e
    · rename_i k hk
      cases e
      exact ⟨a, valV ks k, rfl, .inl ⟨ks, k, r1, w2.key hk, rfl⟩, by rw [← valV_wrap, valV_any, t1.has]⟩
    · cases e
theorem ixK_ok {x y : V} {kvs : List (D × D)} {d e' : D} (gh : Same G H) (w1 : Vw K G H x (.dict kvs)) (w2 : Vw K G H y d) (e : ixK kvs d = some e') : ∃ a z, x = .ref a ∧ DGet H a y (some z) ∧ Tr K G z e' := by
  rcases w1.dict gh with ⟨a, ks, rfl, r1, t1, hm⟩ | ⟨a, ks, r, rfl, r1, rfl, t1⟩
  · unfold ixK at e
    rw [hm] at e
    dsimp only at e
    split at e
    · split at e
      · rename_i l kk e1
        obtain ⟨hlk, e1⟩ := keyT_some e1
        obtain ⟨c, vs, rfl, r2, t2⟩ := w2.tupT gh hlk
        obtain ⟨z, e2, tz⟩ := dGet_ok t1 e
        exact ⟨a, z, rfl, .inr ⟨ks, kk, c, r1, rfl, by rw [r2, t2.keys e1], e2.symm⟩, tz⟩
      · cases e
    · cases e
  · unfold ixK at e
    rw [show unMk (mkD :: r) = some r from rfl] at e
    dsimp only at e
    split at e
    · rename_i k hk
      obtain ⟨z, e2, tz⟩ := dGet_ok t1 e
      exact ⟨a, z, rfl, .inl ⟨ks, k, r1, w2.key hk, by rw [← valV_wrap, e2]⟩, tz⟩
    · cases e
end
theorem isnD {K : PySem.W.Frag} {G H : Hp} {x : V} {d : D} (w : Vw K G H x d) : decide (x = V.non) = isNone d := by
  cases d with
  | none => rw [w.none]; rfl
  | bool _ => rw [w.bool]; rfl
  | int _ => rw [w.int]; rfl
  | str _ => rw [w.str]; rfl
  | list _ =>
    rcases w with w | ⟨a, rfl, _⟩
    · cases w; rfl
    · rfl
  | tuple _ =>
    rcases w with w | ⟨a, rfl, _⟩
    · cases w; rfl
    · rfl
  | dict _ =>
    rcases w with w | ⟨a, rfl, _⟩
    · cases w <;> rfl
    · rfl
theorem str_one {x : Str} {c : Nat} (h : x.cps.toList = [c]) : x = ⟨#[c]⟩ := by
  cases x with
  | mk cps =>
    have : cps = #[c] := by
      apply Array.toList_inj.mp
      exact h
    rw [this]
theorem op_cmp (hu : X.A.units + 65 < cLine) (op : Cop) : OpR X (compareOp (copOf op)) (r2B X.K (cmpD op)) := by
  have hu' : X.A.units + 64 < cLine := by omega
  intro pins s σ H x y v u Q I rx ry h
  obtain ⟨G, d1, d2, b, gh, w1, w2, e, q⟩ := h
  unfold cmpD at e
  split at e
  · exact op_eq2 hu' pins s σ H x y v u Q I rx ry ⟨G, _, _, b, gh, w1, w2, e, q⟩
  · exact op_ne2 hu' pins s σ H x y v u Q I rx ry ⟨G, _, _, b, gh, w1, w2, e, q⟩
  · cases e
    exact op_lt pins s σ H x y v u Q I rx ry ⟨_, _, w1.int, w2.int, q⟩
  · cases e
    exact op_le pins s σ H x y v u Q I rx ry ⟨_, _, w1.int, w2.int, q⟩
  · cases e
    exact op_gt pins s σ H x y v u Q I rx ry ⟨_, _, w1.int, w2.int, q⟩
  · cases e
    exact op_ge pins s σ H x y v u Q I rx ry ⟨_, _, w1.int, w2.int, q⟩
  · cases e
    exact op_lt_str pins s σ H x y v u Q I rx ry ⟨_, _, w1.str, w2.str, q⟩
  · cases e
    unfold inStr at q
    split at q
    · rename_i c hc
      exact op_in_sign pins s σ H x y v u Q I rx ry ⟨c, _, by rw [w1.str, str_one hc], w2.str, q⟩
    · exact op_in_str pins s σ H x y v u Q I rx ry ⟨_, _, w1.str, w2.str, q⟩
  · cases e
    unfold inStr at q
    split at q
    · rename_i c hc
      exact op_notIn_sign pins s σ H x y v u Q I rx ry ⟨c, _, by rw [w1.str, str_one hc], w2.str, q⟩
    · exact op_notIn_str pins s σ H x y v u Q I rx ry ⟨_, _, w1.str, w2.str, q⟩
  · obtain ⟨c, e⟩ := ite'_some e
    cases e
    rw [Bool.and_eq_true] at c
    exact op_inD hu pins s σ H x y v u Q I rx ry ⟨_, _, w1.dp gh c.1, w2.dp gh c.2, c.1, c.2, q⟩
  · obtain ⟨c, e⟩ := ite'_some e
    cases e
    rw [Bool.and_eq_true] at c
    exact op_notInD hu pins s σ H x y v u Q I rx ry ⟨_, _, w1.dp gh c.1, w2.dp gh c.2, c.1, c.2, q⟩
  · obtain ⟨c, e⟩ := ite'_some e
    cases e
    rw [Bool.and_eq_true] at c
    exact op_inT hu false pins s σ H x y v u Q I rx ry ⟨_, _, w1.dp gh c.1, w2.dp gh c.2, c.1, c.2, q⟩
  · obtain ⟨c, e⟩ := ite'_some e
    cases e
    rw [Bool.and_eq_true] at c
    exact op_inT hu true pins s σ H x y v u Q I rx ry ⟨_, _, w1.dp gh c.1, w2.dp gh c.2, c.1, c.2, q⟩
  · obtain ⟨a, o, rfl, dg, rfl⟩ := hasK_ok gh w2 w1 e
    cases (show u = Value.ref a from ry)
    exact d_in (by omega) I dg rx fun s' I' => ⟨.bl _, H, I', rfl, q⟩
  · rw [Option.map_eq_some_iff] at e
    obtain ⟨b', e, eb⟩ := e
    subst eb
    obtain ⟨a, o, rfl, dg, rfl⟩ := hasK_ok gh w2 w1 e
    cases (show u = Value.ref a from ry)
    exact d_notIn (by omega) I dg rx fun s' I' => ⟨.bl _, H, I', rfl, q⟩
  · cases e
    refine op_isN pins s σ H x y v u Q I rx ry ⟨w2.none, ?_⟩
    rw [isnD w1]
    exact q
  · cases e
    refine op_notN pins s σ H x y v u Q I rx ry ⟨w2.none, ?_⟩
    rw [isnD w1]
    exact q
  · cases e

/-! ### subscripts -/
def rIxD (K : PySem.W.Frag) : R2 := fun x y H Q => ∃ G d1 d2 d, Same G H ∧ Vw K G H x d1 ∧ Vw K G H y d2 ∧ ixD d1 d2 = some d ∧ ∀ v, Tr K G v d → Q v H
def rSlD (K : PySem.W.Frag) : V → Option Int → Option Int → Hp → VK → Prop := fun x lo hi H Q => ∃ G d1 d fl, Same G H ∧ Vw K G H x d1 ∧ slcD d1 lo hi = some (d, fl) ∧
  ∀ v G' H', Grow G H G' H' → Res K G' H H' v d fl → Q v H'
theorem sl_D : SlR X (rSlD X.K) := by
  have hs : (sizeLine : Nat) = 16777216 := sizeLine_eq
  intro pins s σ H x v vl vu lo hi sl Q I rx hs' pl pu h
  obtain ⟨G, d1, d, fl, gh, w1, e, q⟩ := h
  unfold slcD at e
  split at e
  · cases e
    obtain ⟨a, vs, rfl, r1, t1⟩ := w1.list gh
    exact sl_list pins s σ H _ v vl vu lo hi sl Q I rx hs' pl pu ⟨a, vs, rfl, r1, fun p hp => q _ G _ (Grow.own gh hp) (Res.newL gh hp (t1.cut lo hi))⟩
  · cases e
    rename_i xs
    obtain ⟨a, vs, rfl, r1, t1⟩ := w1.tuple gh
    refine sl_tupA pins s σ H _ v vl vu lo hi sl Q I rx hs' pl pu ⟨a, vs, rfl, r1, fun z => ?_, fun z p hp => q _ _ _ (Grow.tup gh hp) (Tr.newTup gh hp (t1.cut lo hi))⟩
    refine q _ G H (Grow.rfl' gh) ?_
    have e1 : cutD xs lo hi = xs := by
      unfold cutD
      rw [← t1.length, z.1, z.2, List.drop_zero, Nat.sub_zero, t1.length, List.take_length]
    rw [e1]
    rcases w1 with w1 | ⟨_, _, z⟩
    · exact w1
    · cases z
  · split at e
    · rename_i hz
      cases e
      exact sl_str pins s σ H _ v vl vu _ _ sl Q I rx hs' pl pu ⟨_, w1.str, by rw [hs]; exact hz, q _ G H (Grow.rfl' gh) (.str _)⟩
    · cases e
  · cases e

/-! ### calls of built-in things -/
def bltIs : Blt → Value
  | .len => .builtin "len"
  | .list => .type "list"
  | .tuple => .type "tuple"
  | .abs => .builtin "abs"
  | .int => .type "int"
  | .all => .builtin "all"
  | .any => .builtin "any"
  | .min => .builtin "min"
  | .max => .builtin "max"
  | .sum => .builtin "sum"
  | .str => .type "str"
theorem Paired1 {α β : Type} {R : α → β → Prop} {xs : List α} {d : β} (h : Paired R xs [d]) : ∃ x, xs = [x] ∧ R x d := by
  cases h with
  | cons a t => cases t; exact ⟨_, rfl, a⟩
theorem Paired2 {α β : Type} {R : α → β → Prop} {xs : List α} {d e : β} (h : Paired R xs [d, e]) : ∃ x y, xs = [x, y] ∧ R x d ∧ R y e := by
  cases h with
  | cons a t => cases t with
    | cons b t => cases t; exact ⟨_, _, rfl, a, b⟩
theorem maxI_spec : ∀ (r : List Int) (x m : Int), m ∈ x :: r → (∀ y, y ∈ x :: r → y ≤ m) → m = maxI x r
  | [], x, m, h, _ => by simp at h; rw [h]; rfl
  | y :: r, x, m, h, g => by
    rw [maxI]
    split
    · rename_i hxy
      refine maxI_spec r y m ?_ fun z hz => g z (List.mem_cons_of_mem _ hz)
      rcases List.mem_cons.mp h with e | e
      · have := g y (by simp)
        omega
      · exact e
    · rename_i hxy
      refine maxI_spec r x m ?_ fun z hz => ?_
      · rcases List.mem_cons.mp h with e | e
        · rw [e]; simp
        · rcases List.mem_cons.mp e with e | e
          · have := g x (by simp)
            have : m = x := by omega
            rw [this]; simp
          · exact List.mem_cons_of_mem _ e
      · rcases List.mem_cons.mp hz with e | e
        · exact g z (by rw [e]; simp)
        · exact g z (List.mem_cons_of_mem _ (List.mem_cons_of_mem _ e))
theorem minI_spec : ∀ (r : List Int) (x m : Int), m ∈ x :: r → (∀ y, y ∈ x :: r → m ≤ y) → m = minI x r
  | [], x, m, h, _ => by simp at h; rw [h]; rfl
  | y :: r, x, m, h, g => by
    rw [minI]
    split
    · rename_i hxy
      refine minI_spec r y m ?_ fun z hz => g z (List.mem_cons_of_mem _ hz)
      rcases List.mem_cons.mp h with e | e
      · have := g y (by simp)
        omega
      · exact e
    · rename_i hxy
      refine minI_spec r x m ?_ fun z hz => ?_
      · rcases List.mem_cons.mp h with e | e
        · rw [e]; simp
        · rcases List.mem_cons.mp e with e | e
          · have := g x (by simp)
            have : m = x := by omega
            rw [this]; simp
          · exact List.mem_cons_of_mem _ e
      · rcases List.mem_cons.mp hz with e | e
        · exact g z (by rw [e]; simp)
        · exact g z (List.mem_cons_of_mem _ (List.mem_cons_of_mem _ e))
theorem cr_blt (hc : X.calm = true) (b : Blt) : CallR X (bltIs b) (rnD X.K (bltD b)) := by
  have hs : (sizeLine : Nat) = 16777216 := sizeLine_eq
  intro pins s σ H xs us Q I r h
  obtain ⟨G, ds, d, fl, gh, w, e, q⟩ := h
  unfold bltD at e
  split at e
  · cases e
    obtain ⟨x, rfl, w1⟩ := Paired1 w
    obtain ⟨a, vs, rfl, r1, t1⟩ := w1.list gh
    exact call_len pins s σ H _ us Q I r ⟨_, _, rfl, .inl ⟨vs, r1, rfl⟩, by rw [t1.length]; exact q _ G H (Grow.rfl' gh) (.int _)⟩
  · cases e
    obtain ⟨x, rfl, w1⟩ := Paired1 w
    obtain ⟨a, vs, rfl, r1, t1⟩ := w1.tuple gh
    exact call_len pins s σ H _ us Q I r ⟨_, _, rfl, .inr ⟨vs, r1, rfl⟩, by rw [t1.length]; exact q _ G H (Grow.rfl' gh) (.int _)⟩
  · split at e
    · rename_i hz
      cases e
      obtain ⟨x, rfl, w1⟩ := Paired1 w
      rw [w1.str] at r
      exact call_len pins s σ H _ us Q I r ⟨_, _, rfl, ⟨by rw [hs]; exact hz, rfl⟩, q _ G H (Grow.rfl' gh) (.int _)⟩
    · cases e
  · cases e
    obtain ⟨x, rfl, w1⟩ := Paired1 w
    obtain ⟨a, vs, rfl, r1, t1⟩ := w1.list gh
    exact call_list_of pins s σ H _ us Q I r ⟨a, vs, rfl, .inl r1, fun p hp => q _ G _ (Grow.own gh hp) (Res.newL gh hp t1)⟩
  · cases e
    obtain ⟨x, rfl, w1⟩ := Paired1 w
    obtain ⟨a, vs, rfl, r1, t1⟩ := w1.tuple gh
    exact call_list_of pins s σ H _ us Q I r ⟨a, vs, rfl, .inr r1, fun p hp => q _ G _ (Grow.own gh hp) (Res.newL gh hp t1)⟩
  · cases e
    obtain ⟨x, rfl, w1⟩ := Paired1 w
    obtain ⟨a, vs, rfl, r1, t1⟩ := w1.list gh
    exact call_tuple_of pins s σ H _ us Q I r ⟨a, vs, rfl, .inl ⟨r1, fun p hp => q _ _ _ (Grow.tup gh hp) (Tr.newTup gh hp t1)⟩⟩
  · cases e
    obtain ⟨x, rfl, w1⟩ := Paired1 w
    obtain ⟨a, vs, rfl, r1, t1⟩ := w1.tuple gh
    refine call_tuple_of pins s σ H _ us Q I r ⟨a, vs, rfl, .inr ⟨r1, q _ G H (Grow.rfl' gh) ?_⟩⟩
    rcases w1 with w1 | ⟨_, _, z⟩
    · exact w1
    · cases z
  · cases e
    obtain ⟨x, rfl, w1⟩ := Paired1 w
    rw [w1.int] at r
    exact call_abs pins s σ H _ us Q I r ⟨_, rfl, q _ G H (Grow.rfl' gh) (.int _)⟩
  · cases e
    obtain ⟨x, rfl, w1⟩ := Paired1 w
    rw [w1.int] at r
    exact call_int1 pins s σ H _ us Q I r (.inl ⟨_, rfl, q _ G H (Grow.rfl' gh) (.int _)⟩)
  · cases e
    obtain ⟨x, rfl, w1⟩ := Paired1 w
    rw [w1.bool] at r
    exact call_int1 pins s σ H _ us Q I r (.inr ⟨_, rfl, q _ G H (Grow.rfl' gh) (.int _)⟩)
  · rw [Option.map_eq_some_iff] at e
    obtain ⟨bs, e1, e2⟩ := e
    cases e2
    obtain ⟨x, rfl, w1⟩ := Paired1 w
    obtain ⟨a, vs, rfl, r1, t1⟩ := w1.list gh
    have := t1.bools e1
    subst this
    exact cr_all hc pins s σ H _ us Q I r ⟨a, bs, rfl, r1, q _ G H (Grow.rfl' gh) (.bl _)⟩
  · rw [Option.map_eq_some_iff] at e
    obtain ⟨bs, e1, e2⟩ := e
    cases e2
    obtain ⟨x, rfl, w1⟩ := Paired1 w
    obtain ⟨a, vs, rfl, r1, t1⟩ := w1.list gh
    have := t1.bools e1
    subst this
    exact cr_any hc pins s σ H _ us Q I r ⟨a, bs, rfl, r1, q _ G H (Grow.rfl' gh) (.bl _)⟩
  · rw [Option.map_eq_some_iff] at e
    obtain ⟨bs, e1, e2⟩ := e
    cases e2
    obtain ⟨x, rfl, w1⟩ := Paired1 w
    obtain ⟨a, vs, rfl, r1, t1⟩ := w1.list gh
    have := t1.ints e1
    subst this
    exact cr_sum hc pins s σ H _ us Q I r ⟨a, bs, rfl, r1, q _ G H (Grow.rfl' gh) (.int _)⟩
  · cases e
    obtain ⟨x, y, rfl, w1, w2⟩ := Paired2 w
    rw [w1.int, w2.int] at r
    exact call_max2 hc pins s σ H _ us Q I r ⟨_, _, rfl, q _ G H (Grow.rfl' gh) (.int _)⟩
  · cases e
    obtain ⟨x, y, rfl, w1, w2⟩ := Paired2 w
    rw [w1.int, w2.int] at r
    exact call_min2 hc pins s σ H _ us Q I r ⟨_, _, rfl, q _ G H (Grow.rfl' gh) (.int _)⟩
  · split at e
    · rename_i x0 r0 e1
      cases e
      obtain ⟨x, rfl, w1⟩ := Paired1 w
      obtain ⟨a, vs, rfl, r1, t1⟩ := w1.list gh
      have := t1.ints e1
      subst this
      exact cr_max hc pins s σ H _ us Q I r ⟨a, _, rfl, r1, by simp, fun m h1 h2 => by
        rw [maxI_spec r0 x0 m h1 h2]
        exact q _ G H (Grow.rfl' gh) (.int _)⟩
    · cases e
  · split at e
    · rename_i x0 r0 e1
      cases e
      obtain ⟨x, rfl, w1⟩ := Paired1 w
      obtain ⟨a, vs, rfl, r1, t1⟩ := w1.list gh
      have := t1.ints e1
      subst this
      exact cr_min hc pins s σ H _ us Q I r ⟨a, _, rfl, r1, by simp, fun m h1 h2 => by
        rw [minI_spec r0 x0 m h1 h2]
        exact q _ G H (Grow.rfl' gh) (.int _)⟩
    · cases e
  · cases e
    obtain ⟨x, rfl, w1⟩ := Paired1 w
    rw [w1.str] at r
    exact SkE.call_str_str pins s σ H _ us Q I r ⟨_, rfl, q _ G H (Grow.rfl' gh) (.str _)⟩
  · obtain ⟨c, e⟩ := ite'_some e
    cases e
    obtain ⟨x, rfl, w1⟩ := Paired1 w
    rw [w1.int] at r
    exact call_str_int pins s σ H _ us Q I r ⟨_, rfl, of_decide_eq_true c, q _ G H (Grow.rfl' gh) (.str _)⟩
  · cases e

/-! ### methods of texts -/
def mthIs : Mth → String
  | .split => "str.split"
  | .index => "str.index"
  | .count => "str.count"
  | .join => "str.join"
  | .startswith => "str.startswith"
def rMth (K : PySem.W.Frag) (m : Mth) : V → List V → Hp → VK → Prop := fun x xs H Q => ∃ G d0 ds d fl, Same G H ∧ Vw K G H x d0 ∧ Paired (Vw K G H) xs ds ∧ mthD m d0 ds = some (d, fl) ∧
  ∀ v G' H', Grow G H G' H' → Res K G' H H' v d fl → Q v H'
theorem mt_index1 : MtR X "str.index" (fun x xs H Q => ∃ a b k, x = .str a ∧ xs = [.str b] ∧ Txt.index0 a b = some k ∧ Q (.int (k : Nat)) H) := by
  intro pins s σ H x xs v us Q I rx rs ⟨a, b, k, e1, e2, e3, q⟩
  subst e1 e2
  obtain ⟨t, et⟩ := rx
  obtain ⟨u, ru, rr⟩ := vals1 rs
  subst et ru
  obtain ⟨t', et'⟩ := rr
  subst et'
  unfold Txt.index0 at e3
  cases z : Builtin.Str.occurrences a b 0 a.length 1 with
  | nil => rw [z] at e3; cases e3
  | cons k' rest =>
    rw [z] at e3
    cases e3
    exact PySem.SC.index z ⟨V.int (k : Nat), H, I.tok _, ⟨_, rfl⟩, q⟩
theorem mt_D (m : Mth) : MtR X (mthIs m) (rMth X.K m) := by
  have hs : (sizeLine : Nat) = 16777216 := sizeLine_eq
  intro pins s σ H x xs v us Q I rx rs h
  obtain ⟨G, d0, ds, d, fl, gh, w, ws, e, q⟩ := h
  unfold mthD at e
  split at e
  · obtain ⟨c, e⟩ := ite'_some e
    cases e
    obtain ⟨c1, c2⟩ := of_decide_eq_true c
    obtain ⟨y, rfl, w1⟩ := Paired1 ws
    refine mt_split pins s σ H x _ v us Q I rx rs ⟨_, _, w.str, by rw [w1.str], by simpa using c1, by rw [hs]; exact c2, fun p hp => q _ G _ (Grow.own gh hp) (Res.newL gh hp ?_)⟩
    exact TrAll.ofStrs _
  · cases e
    obtain ⟨y, rfl, w1⟩ := Paired1 ws
    exact mt_startswith pins s σ H x _ v us Q I rx rs ⟨_, _, w.str, by rw [w1.str], q _ G H (Grow.rfl' gh) (.bl _)⟩
  · cases e
    obtain ⟨y, rfl, w1⟩ := Paired1 ws
    exact mt_count pins s σ H x _ v us Q I rx rs ⟨_, _, w.str, by rw [w1.str], q _ G H (Grow.rfl' gh) (.int _)⟩
  · rw [Option.map_eq_some_iff] at e
    obtain ⟨k, e1, e2⟩ := e
    cases e2
    obtain ⟨y, rfl, w1⟩ := Paired1 ws
    exact mt_index1 pins s σ H x _ v us Q I rx rs ⟨_, _, k, w.str, by rw [w1.str], e1, q _ G H (Grow.rfl' gh) (.int _)⟩
  · split at e
    · rename_i ys e1
      obtain ⟨c, e⟩ := ite'_some e
      cases e
      obtain ⟨y, rfl, w1⟩ := Paired1 ws
      obtain ⟨a, vs, rfl, r1, t1⟩ := w1.list gh
      have := t1.strs e1
      subst this
      exact mt_join pins s σ H x _ v us Q I rx rs ⟨_, a, ys, w.str, rfl, .inl r1, of_decide_eq_true c, q _ G H (Grow.rfl' gh) (.str _)⟩
    · cases e
  · split at e
    · rename_i ys e1
      obtain ⟨c, e⟩ := ite'_some e
      cases e
      obtain ⟨y, rfl, w1⟩ := Paired1 ws
      obtain ⟨a, vs, rfl, r1, t1⟩ := w1.tuple gh
      have := t1.strs e1
      subst this
      exact mt_join pins s σ H x _ v us Q I rx rs ⟨_, a, ys, w.str, rfl, .inr r1, of_decide_eq_true c, q _ G H (Grow.rfl' gh) (.str _)⟩
    · cases e
  · cases e
end
end Ev


set_option Elab.async false
set_option linter.all false
set_option maxRecDepth 100000
set_option maxHeartbeats 1000000
namespace Ev
open PySem PySem.Spec PyProof.Rows L2
/-! ### sorted(list): texts, ints, tuples of texts, tuples of ints -/
section
variable {α : Type} {le : α → α → Bool}
theorem insS_mem {x z : α} : ∀ {l : List α}, z ∈ insS le x l ↔ z = x ∨ z ∈ l
  | [] => by simp [insS]
  | y :: r => by
    rw [insS]
    split
    · simp
    · rw [List.mem_cons, insS_mem (l := r), List.mem_cons]
      constructor
      · rintro (h | h | h)
        · exact .inr (.inl h)
        · exact .inl h
        · exact .inr (.inr h)
      · rintro (h | h | h)
        · exact .inr (.inl h)
        · exact .inl h
        · exact .inr (.inr h)
theorem insS_pw (T : PySem.W.TotalLe le) {x : α} : ∀ {l : List α}, l.Pairwise (fun a b => le a b = true) → (insS le x l).Pairwise (fun a b => le a b = true)
  | [], _ => by simp [insS]
  | y :: r, h => by
    obtain ⟨h1, h2⟩ := List.pairwise_cons.mp h
    rw [insS]
    split
    · rename_i c
      refine List.pairwise_cons.mpr ⟨fun z hz => ?_, h⟩
      rcases List.mem_cons.mp hz with rfl | hz
      · exact c
      · exact T.trans _ _ _ c (h1 z hz)
    · rename_i c
      refine List.pairwise_cons.mpr ⟨fun z hz => ?_, insS_pw T h2⟩
      rcases insS_mem.mp hz with rfl | hz
      · exact (T.total z y).resolve_left c
      · exact h1 z hz
theorem insS_filter (T : PySem.W.TotalLe le) {x c : α} : ∀ {l : List α}, (insS le x l).filter (PySem.W.sameRank le c) = (x :: l).filter (PySem.W.sameRank le c)
  | [] => rfl
  | y :: r => by
    rw [insS]
    split
    · rfl
    · rename_i n
      rw [List.filter_cons, insS_filter T (l := r)]
      by_cases a : PySem.W.sameRank le c x = true
      · by_cases b : PySem.W.sameRank le c y = true
        · exfalso
          unfold PySem.W.sameRank at a b
          simp only [Bool.and_eq_true] at a b
          exact n (T.trans _ _ _ a.2 b.1)
        · simp [List.filter_cons, a, b]
      · by_cases b : PySem.W.sameRank le c y = true
        · simp [List.filter_cons, a, b]
        · simp [List.filter_cons, a, b]
theorem srtS_pw (T : PySem.W.TotalLe le) : ∀ l : List α, (srtS le l).Pairwise (fun a b => le a b = true)
  | [] => List.Pairwise.nil
  | x :: r => insS_pw T (srtS_pw T r)
theorem srtS_filter (T : PySem.W.TotalLe le) (c : α) : ∀ l : List α, (srtS le l).filter (PySem.W.sameRank le c) = l.filter (PySem.W.sameRank le c)
  | [] => rfl
  | x :: r => by rw [srtS, insS_filter T, List.filter_cons, srtS_filter T c r, List.filter_cons]
theorem srtS_eq (T : PySem.W.TotalLe le) (l : List α) : srtS le l = l.mergeSort le := PySem.W.sort_unique T (srtS_pw T l) fun c => srtS_filter T c l
theorem insS_perm {x : α} : ∀ {l : List α}, (insS le x l).Perm (x :: l)
  | [] => List.Perm.refl _
  | y :: r => by
    rw [insS]
    split
    · exact List.Perm.refl _
    · exact (List.Perm.cons y insS_perm).trans (List.Perm.swap x y r)
theorem srtS_perm : ∀ {l : List α}, (srtS le l).Perm l
  | [] => List.Perm.refl _
  | x :: r => insS_perm.trans (List.Perm.cons x srtS_perm)
end
theorem leD_total : PySem.W.TotalLe leD := by
  have h : PySem.W.TotalLe (PySem.W.dataLe false (id : D → D)) := PySem.W.sortLe_total _ _ _
  exact h
theorem sortOk_ok {xs : List D} (h : sortOk xs = true) : PyData.canLayAll0 xs = true ∧ PySem.W.AllAlike xs ∧ PySem.W.Sortable xs ∧ ∀ d ∈ xs, d.depth ≤ 50 := by
  unfold sortOk at h
  simp only [Bool.and_eq_true, Bool.or_eq_true, List.all_eq_true, decide_eq_true_eq] at h
  obtain ⟨h0, h1, h2, h3⟩ := h
  refine ⟨h0, fun d hd d' hd' => h1 d hd d' hd', ?_, h3⟩
  rcases h2 with h2 | h2
  · refine .inl fun d hd => ?_
    have := h2 d hd
    unfold isTup1 at this
    split at this
    · exact ⟨_, _, rfl⟩
    · cases this
  · refine .inr fun d hd => ?_
    have := h2 d hd
    exact ⟨fun e => (by rw [e] at this; cases this), fun xs e => (by rw [e] at this; cases this)⟩
section
variable {X : Cx}
theorem each_two {pins : List (Addr × Obj)} {σ : L2.St} {G H : Hp} {s : Shared} (I : Inv X pins σ H s) (gh : Same G H) : ∀ {vs : List V} {ds : List D} {us : List Value}, TrAll X.K G vs ds → Vals vs us → PyData.canLayAll0 ds = true →
    PySem.W.EachIs (fun u (b : V × D) => RelV b.1 u ∧ Tr X.K G b.1 b.2) us (vs.zip ds) ∧ PySem.W.EachIs (fun u (b : V × D) => ∃ as, Reads s.heap u b.2 as) us (vs.zip ds)
  | _, _, _, .nil, .nil, _ => ⟨.nil, .nil⟩
  | _, _, _, .cons t ts, .cons r rs, h => by
    rw [PyData.canLayAll0, Bool.and_eq_true] at h
    obtain ⟨a, b⟩ := each_two I gh ts rs h.2
    exact ⟨.cons ⟨r, t⟩ a, .cons (Dp.reads I _ _ _ (Tr.dp gh _ _ (.inr h.1) t) r) b⟩
theorem each_out {G : Hp} : ∀ {us : List Value} {ps : List (V × D)}, PySem.W.EachIs (fun u (b : V × D) => RelV b.1 u ∧ Tr X.K G b.1 b.2) us ps → Vals (ps.map (·.1)) us ∧ TrAll X.K G (ps.map (·.1)) (ps.map (·.2))
  | _, _, .nil => ⟨.nil, .nil⟩
  | _, _, .cons h t => by
    obtain ⟨a, b⟩ := each_out t
    exact ⟨.cons h.1 a, .cons h.2 b⟩
theorem cr_sortedD (hu : X.A.units + 65 < cLine) : CallR X (.builtin "sorted") (rnD X.K fun ds => match ds with | [x] => sortedD x | _ => none) := by
  intro pins s σ H xs us Q I r h
  obtain ⟨G, ds, d, fl, gh, w, e, q⟩ := h
  dsimp only at e
  split at e
  · unfold sortedD at e
    split at e
    · rename_i ds
      obtain ⟨c, e⟩ := ite'_some e
      cases e
      obtain ⟨x, rfl, w1⟩ := Paired1 w
      obtain ⟨a, vs, rfl, r1, t1⟩ := w1.list gh
      obtain ⟨its, rv, hl, hz⟩ := I.list r1
      rw [Vals.ref1 r]
      obtain ⟨k0, k1, k2, k3⟩ := sortOk_ok c
      have hsnd : (vs.zip ds).map (·.2) = ds := List.map_snd_zip (by rw [t1.length]; omega)
      have hlz : (vs.zip ds).length = vs.length := by rw [List.length_zip, t1.length]; omega
      obtain ⟨e1, e2⟩ := each_two I gh t1 rv k0
      refine PySem.W.sorted_data (β := V × D) (bs := vs.zip ds) (enc := fun b => b.2) hl.isList e1 e2 (by rw [hsnd]; exact k1) (by rw [hsnd]; exact k2) (by rw [hlz]; exact hz) (fun b hb => ?_) fun out hlen hout => ?_
      · have : b.2 ∈ ds := by rw [← hsnd]; exact List.mem_map.mpr ⟨b, hb, rfl⟩
        have := k3 _ this
        omega
      · obtain ⟨o1, o2⟩ := each_out hout
        have hs : ((vs.zip ds).mergeSort (PySem.W.dataLe false fun b : V × D => b.2)).map (·.2) = srtS leD ds := by
          rw [PySem.W.sort_maps (r := PySem.W.dataLe false fun b : V × D => b.2) (s := leD) (fun b : V × D => b.2) (fun _ _ _ _ => rfl), hsnd, srtS_eq leD_total]
        rw [hs] at o2
        obtain ⟨ep, he'⟩ := PyProof.Rows.sortedAll_at s.heap its out.toArray
        have hlen' : (((vs.zip ds).mergeSort (PySem.W.dataLe false fun b : V × D => b.2)).map (·.1)).length ≤ sizeLine := by
          rw [List.length_map, (List.mergeSort_perm _ _).length_eq, hlz]
          exact hz
        have hp : H (s.heap.objs.size + 1) = none := I.hok.fresh (Nat.le_succ _)
        exact ⟨.ref _, upd H (s.heap.objs.size + 1) (.lst (((vs.zip ds).mergeSort (PySem.W.dataLe false fun b : V × D => b.2)).map (·.1))), I.laid (t' := s.toks) (fun _ _ => PyProof.Rows.sortedAll_old) (Nat.le_succ _) ⟨hlen', out, ep, o1, he'⟩, rfl, q _ G _ (Grow.own gh hp) (Res.newL gh hp o2)⟩
    · cases e
  · cases e
end
end Ev


set_option Elab.async false
set_option linter.all false
set_option maxRecDepth 100000
set_option maxHeartbeats 1000000
namespace Ev
open PySem PySem.Spec PyProof.Rows L2
/-! ### sets of texts: made of a list, told in order -/
theorem str_self (x : Str) (tk : Tok) : Value.isStrOf x (.str x tk) = true := by
  show (x == x) = true
  exact beq_self_eq_true x
/-- an entry's text -/
def entTxt : Int × Value → Str
  | (_, .str x _) => x
  | _ => Str.empty
/-- an entry that stands for a text -/
def IsEnt (w : World) (e : Int × Value) : Prop := ∃ x tk, e = (hashStr w x, Value.str x tk)
theorem addOne_nodup {α : Type} [DecidableEq α] {L : List α} {x : α} (h : L.Nodup) : (addOne L x).Nodup := by
  unfold addOne
  split
  · exact h
  · rename_i n
    rw [List.nodup_append]
    exact ⟨h, by simp, fun a ha b hb e => n (by simp at hb; rw [← hb, ← e]; exact ha)⟩
/-- the set at a holds the texts of L, each once; it can be walked -/
structure TxSet (w : World) (h : Heap) (a : Addr) (L : List Str) : Prop where
  ex : ∃ o es ep t, h.get? a = some o ∧ o.ExactSet ∧ o.data = .set es ep t ∧ (∀ e ∈ es.toList, IsEnt w e) ∧ (es.toList.map entTxt).Perm L ∧ es.size < scanBound ∧ t.fits es.size = true ∧ Ris t.place.toList ∧
    (w.params.followText "set-order" = true ∨ t.led = true)
  nd : L.Nodup
section
variable {P : Program} {w : World} {A : Around} {E : Value → Shared → Prop} {s : Shared} {a : Addr} {L : List Str}
theorem TxSet.keep {h h' : Heap} (T : TxSet w h a L) (k : ∀ o, h.get? a = some o → h'.get? a = some o) : TxSet w h' a L := by
  obtain ⟨⟨o, es, ep, t, ho, r⟩, nd⟩ := T
  exact ⟨⟨o, es, ep, t, k o ho, r⟩, nd⟩
theorem ents_of {l : List (Int × Value)} (g : ∀ e ∈ l, IsEnt w e) : ElemsOf (strKind P w) l := fun e he => by
  obtain ⟨x, tk, rfl⟩ := g e he
  exact ⟨⟨x, str_self x tk, rfl⟩, rfl⟩
theorem ent_is {e : Int × Value} (g : IsEnt w e) (x : Str) : (strKind P w).is x e.2 = true ↔ entTxt e = x := by
  obtain ⟨y, tk, rfl⟩ := g
  show Value.isStrOf x (.str y tk) = true ↔ y = x
  constructor
  · intro h
    obtain ⟨t, e⟩ := Value.isStrOf_shape h
    cases e
    rfl
  · rintro rfl
    exact str_self _ _
/-- what is laid behind the search: the entry is stored, the table is laid anew if it is too full -/
theorem tset_lay {g : Bool → Sem Unit} (gw : ∀ (b : Bool) (s₁ : Shared) (Q' : Unit → Shared → Prop), Q' () s₁ → wpAny (model P w) A (g b) Q' E s₁)
    {o : Obj} {es fs : Array (Int × Value)} {ep : Nat} {t u : SetTable} (ho : s.heap.get? a = some o) (hx : o.ExactSet) (hd : o.data = .set es ep t)
    (e1 : ∀ e ∈ fs.toList, IsEnt w e) (e2 : (fs.toList.map entTxt).Perm L) (e3 : L.Nodup) (e4 : fs.size < scanBound) (e5 : u.fits fs.size = true) (e6 : Ris u.place.toList)
    (e7 : w.params.followText "set-order" = true ∨ u.led = true) {dm : Bool} {R : Option Bool → Shared → Prop} (hR : ∀ h', Heap.SameBut a s.heap h' → TxSet w h' a L → R (some true) { s with heap := h' }) :
    wpAny (model P w) A (storeSet a fs u >>= fun _ =>
        if (!dm && u.tooFull) = true then
          g (relayAll u fs (SetTable.grown fs.size)).2.2 >>= fun _ =>
          storeSet a (relayAll u fs (SetTable.grown fs.size)).1 (relayAll u fs (SetTable.grown fs.size)).2.1 >>= fun _ => pure (some true)
        else pure (some true)) R E s := by
  refine wpAny_bind (wpAny_storeSet_of ho hd ?_ (fits_of_scanBound e4))
  have h1 := store_at (es' := fs) (t' := u) ho hd
  have b1 := Heap.SameBut.update s.heap a (Obj.putSet fs u)
  by_cases c : (!dm && u.tooFull) = true
  · rw [if_pos c]
    have q1 := relayAll_perm u fs (SetTable.grown fs.size)
    have q2 := relayAll_fits u fs (SetTable.grown fs.size)
    have q3 := relayAll_ris u fs (SetTable.grown fs.size)
    have q4 := relayAll_led u fs (SetTable.grown fs.size)
    generalize relayAll u fs (SetTable.grown fs.size) = Z at q1 q2 q3 q4 ⊢
    obtain ⟨gs, v, gave⟩ := Z
    have z : gs.size = fs.size := by
      have := q1.length_eq
      rwa [Array.length_toList, Array.length_toList] at this
    refine wpAny_bind (gw gave _ _ ?_)
    refine wpAny_bind (wpAny_storeSet_of h1 rfl ?_ (fits_of_scanBound (z ▸ e4)))
    have h2 := store_at (es' := gs) (t' := v) h1 rfl
    refine wpAny_pure (hR _ (b1.trans (Heap.SameBut.update _ a _)) ⟨⟨_, gs, _, v, h2, hx, rfl, fun e he => e1 e (q1.mem_iff.mp he), (q1.map entTxt).trans e2, z ▸ e4, q2, q3, ?_⟩, e3⟩)
    exact e7.imp id fun y => q4.trans y
  · rw [if_neg c]
    exact wpAny_pure (hR _ b1 ⟨⟨_, fs, _, u, h1, hx, rfl, e1, e2, e4, e5, e6, e7⟩, e3⟩)
theorem tset_put {x : Str} {tk : Tok} {Q : Bool → Shared → Prop} (T : TxSet w s.heap a L) (room : L.length + 1 < scanBound) (hQ : ∀ b h', Heap.SameBut a s.heap h' → TxSet w h' a (addOne L x) → Q b { s with heap := h' }) :
    wpAny (model P w) A (setAddHashed a (.str x tk) (hashStr w x)) Q E s := by
  have nd' := addOne_nodup (x := x) T.nd
  obtain ⟨⟨o, es, ep, t, ho, hx, hd, g, pm, hb, hf, hr, hl⟩, nd⟩ := T
  have isx : (strKind P w).is x (.str x tk) = true := str_self x tk
  have el : ElemsOf (strKind P w) es.toList := ents_of g
  have sc : (Value.str x tk).scannable = true := rfl
  have mem : x ∈ L ↔ ∃ e ∈ es.toList, (strKind P w).is x e.2 = true := by
    rw [← pm.mem_iff, List.mem_map]
    constructor
    · rintro ⟨e, he, q⟩; exact ⟨e, he, (ent_is (g e he) x).2 q⟩
    · rintro ⟨e, he, q⟩; exact ⟨e, he, (ent_is (g e he) x).1 q⟩
  have len : es.size = L.length := by
    have := pm.length_eq
    rwa [List.length_map, Array.length_toList] at this
  unfold setAddHashed setAddHashedIn
  refine wpAny_holding (wpAny_bind (wpAny_setState_of ho hd hf ?_))
  dsimp only
  rw [byScan_of sc hb el, if_pos rfl]
  unfold setAddByScan
  refine wpAny_bind (wpAny_bind (wpAny_rule (wpAny_bind (wpAny_setScan_of (knd := strKind P w) isx ho hd hf el ?_))))
  cases fi : List.findIdx? (fun e => (strKind P w).is x e.2) es.toList with
  | some j =>
    obtain ⟨hj, pj, _⟩ := List.findIdx?_eq_some_iff_getElem.mp fi
    have hm : x ∈ L := mem.2 ⟨es.toList[j], List.getElem_mem hj, pj⟩
    have ea : addOne L x = L := if_pos hm
    refine wpAny_pure (wpAny_pure (hQ _ s.heap (Heap.SameBut.refl a s.heap) ?_))
    rw [ea]
    exact ⟨⟨o, es, ep, t, ho, hx, hd, g, pm, hb, hf, hr, hl⟩, nd⟩
  | none =>
    have hm : x ∉ L := fun z => by
      obtain ⟨e, he, q⟩ := mem.1 z
      have c := List.findIdx?_eq_none_iff.mp fi e he
      rw [q] at c
      cases c
    have ea : addOne L x = L ++ [x] := if_neg hm
    have q1 := layNew_perm t es (hashStr w x) (.str x tk)
    have q2 := layNew_fits t es (hashStr w x) (.str x tk)
    have q3 := layNew_ris t es (hashStr w x) (.str x tk) hr
    have q4 := layNew_led t es (hashStr w x) (.str x tk)
    generalize layNew t es (hashStr w x) (.str x tk) = Z at q1 q2 q3 q4 ⊢
    obtain ⟨fs, u, dm, gave⟩ := Z
    dsimp only at q1 q2 q3 q4 ⊢
    rw [Array.toList_push] at q1
    have q0 : fs.toList.Perm ((hashStr w x, Value.str x tk) :: es.toList) := q1.trans (List.perm_append_singleton _ _)
    have f1 : ∀ e ∈ fs.toList, IsEnt w e := fun e he => by
      rcases List.mem_cons.mp (q0.mem_iff.mp he) with z | z
      · exact ⟨x, tk, z⟩
      · exact g e z
    have f2 : (fs.toList.map entTxt).Perm (addOne L x) := by
      rw [ea]
      exact (q0.map entTxt).trans ((List.Perm.cons x pm).trans (List.perm_append_singleton x L).symm)
    have fz : fs.size = L.length + 1 := by
      have := q0.length_eq
      rw [Array.length_toList, List.length_cons, Array.length_toList, len] at this
      exact this
    have f3 : fs.size < scanBound := fz ▸ room
    have f7 : w.params.followText "set-order" = true ∨ u.led = true := hl.imp id fun y => q4.trans y
    have gw : ∀ (b : Bool) (s₁ : Shared) (Q' : Unit → Shared → Prop), Q' () s₁ → wpAny (model P w) A (match b with | true => rule "set.scan.the-table-gave-way" | false => pure ()) Q' E s₁ := fun b s₁ Q' q => by
      cases b
      · exact wpAny_pure q
      · exact wpAny_rule q
    refine wpAny_bind (gw gave _ _ ?_)
    by_cases c : u.plain = true
    · rw [if_pos c]
      refine wpAny_bind ?_
      rw [hashByValue_scannable 8 sc]
      refine wpAny_pure ?_
      have r5 : (if plainKind (Value.str x tk) = true then u else { u with plain := false }).fits fs.size = true := by
        split
        · exact q2
        · exact SetTable.fits_plain_off q2
      have r6 : Ris (if plainKind (Value.str x tk) = true then u else { u with plain := false }).place.toList := by
        split
        · exact q3
        · exact q3
      have r7 : w.params.followText "set-order" = true ∨ (if plainKind (Value.str x tk) = true then u else { u with plain := false }).led = true := by
        split
        · exact f7
        · exact f7
      refine tset_lay (g := fun b => match b with | true => rule "set.scan.the-table-gave-way" | false => pure ()) gw ho hx hd f1 f2 nd' f3 r5 r6 r7 fun h' sb T => ?_
      dsimp only
      exact wpAny_pure (hQ _ h' sb T)
    · rw [if_neg c]
      refine wpAny_bind (wpAny_pure ?_)
      rw [if_pos rfl]
      refine tset_lay (g := fun b => match b with | true => rule "set.scan.the-table-gave-way" | false => pure ()) gw ho hx hd f1 f2 nd' f3 q2 q3 f7 fun h' sb T => ?_
      dsimp only
      exact wpAny_pure (hQ _ h' sb T)
/-- what the first i of them leave -/
def metOf {α : Type} [DecidableEq α] (val : Nat → α) (i : Nat) : List α := ((List.range i).map val).foldl addOne []
theorem metOf_succ {α : Type} [DecidableEq α] (val : Nat → α) (i : Nat) : metOf val (i + 1) = addOne (metOf val i) (val i) := by
  unfold metOf
  rw [List.range_succ, List.map_append, List.foldl_append]
  rfl
theorem metOf_len {α : Type} [DecidableEq α] (val : Nat → α) : ∀ i, (metOf val i).length ≤ i
  | 0 => Nat.zero_le 0
  | i + 1 => by
    have ih := metOf_len val i
    rw [metOf_succ]
    unfold addOne
    split
    · omega
    · rw [List.length_append]
      show _ + 1 ≤ _
      omega
variable {R : Result → Shared → Prop} {I : Addr} {fp wr : List Addr} {G : Array GenState → Array GenState → Prop} {n : Nat} {Pv : Nat → Value → Prop} {St : Nat → Shared → Prop}
theorem tset_loop (W : WalksS P w A.in1 I fp wr G n Pv St) (S : Addr) (out : S ∉ fp) (val : Nat → Str) (hv : ∀ i v, Pv i v → ∃ t, v = .str (val i) t) (hn : n + 1 < scanBound) :
    ∀ (k i : Nat) (s : Shared), i + k = n → St i s → TxSet w s.heap S (metOf val i) → (∀ s', Moved (S :: wr) G s s' → TxSet w s'.heap S (metOf val n) → R (.ok (.ret .none)) s') →
      codeAny (model P w) A (.builtin "set.update.loop" ⟨[.ref S, .ref I], []⟩) R s := by
  have ow : S ∉ wr := fun z => out (W.sub _ z)
  have up : ∀ b, b ∈ wr → b ∈ S :: wr := fun b z => List.mem_cons_of_mem _ z
  intro k
  induction k with
  | zero =>
    intro i s hi st T fin
    obtain rfl : i = n := by omega
    refine codeAny_builtin F.entry_set_update_loop ?_
    rw [Around.under_plainId F.plain_set_update_loop _]
    refine wpAny_bind (m := pyNext (.ref I)) (W.done s _ _ st fun s' mv => ?_)
    exact wpAny_pure (fin s' (mv.mono up) (T.keep fun o e => mv.heap S o ow e))
  | succ k ih =>
    intro i s hi st T fin
    refine codeAny_builtin F.entry_set_update_loop ?_
    rw [Around.under_plainId F.plain_set_update_loop _]
    refine wpAny_bind (m := pyNext (.ref I)) (W.item i s _ _ (by omega) st fun v s' pv st' mv => ?_)
    obtain ⟨tk, rfl⟩ := hv i v pv
    have T' : TxSet w s'.heap S (metOf val i) := T.keep fun o e => mv.heap S o ow e
    have room : (metOf val i).length + 1 < scanBound := by have := metOf_len val i; omega
    refine wpAny_bind (m := holding [Value.str (val i) tk] (setAdd S (.str (val i) tk))) (wpAny_holding ?_)
    unfold setAdd
    refine wpAny_holding (wpAny_bind ((strKind P w).pyHash (k := val i) (v := .str (val i) tk) (str_self (val i) tk) ?_))
    refine tset_put (s := { s' with toks := s'.toks + 1 }) T' room fun b h' sb T2 => ?_
    refine wpAny_pure ⟨plainId_quiet F.plain_set_update_loop _, ih (i + 1) _ (by omega) (W.frame _ s' _ _ st' (Nat.le_succ _) fun c hc o e => ?_) (by rw [metOf_succ]; exact T2) fun s'' mv2 T3 => fin s'' ?_ T3⟩
    · rw [sb.2 c fun z : c = S => out (z ▸ hc)]
      exact e
    · refine Moved.trans W.gtrans ((mv.mono up).then_heap (Nat.le_succ _) fun c o hc e => ?_) mv2
      rw [sb.2 c fun z : c = S => hc (z ▸ List.mem_cons_self)]
      exact e
/-- what set(xs) makes of texts -/
theorem metOf_all (xs : List Str) : metOf (fun i => xs.getD i Str.empty) xs.length = DedS xs := by
  unfold metOf DedS
  congr 1
  apply List.ext_getElem
  · simp
  · intro i h1 h2
    rw [List.getElem_map, List.getElem_range, List.getD_eq_getElem?_getD, List.getElem?_eq_getElem h2]
    rfl
theorem tset_fresh {h : Heap} : TxSet w (h.push { cls := .type "set", dict := none, data := .set #[] 0 (.fresh 0 0 (!w.params.followText "set-order")) }) h.objs.size [] :=
  ⟨⟨_, #[], 0, _, Heap.get?_push_size _ rfl, ⟨rfl, rfl, rfl⟩, rfl, (fun e he => by simp at he), List.Perm.nil, (by decide), rfl, List.Pairwise.nil, by
    cases c : w.params.followText "set-order"
    · exact .inr rfl
    · exact .inl rfl⟩, List.nodup_nil⟩
theorem new_set {x : Value} {Q₁ : Value → Shared → Prop}
    (h : Q₁ (.ref s.heap.objs.size) { s with heap := s.heap.push { cls := .type "set", dict := none, data := .set #[] 0 (.fresh 0 0 (!w.params.followText "set-order")) } }) :
    codeAny (model P w) A (.call (.builtin "set.__new__") ⟨[.type "set", x], []⟩) (wants Q₁ E) s := by
  refine codeAny_of_tree ?_
  refine wpAny_bind (m := checkBuiltinCall "set.__new__" ⟨[.type "set", x], []⟩) (wpAny_of_eq (F.newCall_set_1 x) (wpAny_pure ⟨plainId_quiet F.plain_set_new _, codeAny_builtin F.entry_set_new ?_⟩))
  rw [Around.under_plainId F.plain_set_new _]
  unfold Builtin.«set.__new__» Builtin.Frozenset.newClass
  have up := sub_set_self
  obtain ⟨hp, g, d, tk, os⟩ := s
  dsimp only
  wp_walk
  refine wpAny_askSetting (wpAny_pure ?_)
  dsimp only
  simp only [newObj]
  exact wpAny_bind (wpAny_alloc (wpAny_pure (wpAny_pure h)))
/-- set(xs), xs a list: what the loop over its items leaves -/
theorem set_from {l : Addr} {items : Array Value} {T : Heap → Prop} {Q : Value → Shared → Prop} (hh : A.handled = none) (hl : s.heap.IsList l items)
    (loop : ∀ (A' : Around) (R : Result → Shared → Prop) (s1 : Shared) (I : Addr), A'.in1.handled = none → A'.units ≤ A.units + 10 → I = s.heap.objs.size + 1 →
      (∀ b o, (s.heap.push { cls := .type "set", dict := none, data := .set #[] 0 (.fresh 0 0 (!w.params.followText "set-order")) }).get? b = some o → s1.heap.get? b = some o) →
      s1.heap.IsListIter I l 0 → s1.heap.IsList l items → (∀ s', Moved [s.heap.objs.size, I] (fun a b => b = a) s1 s' → T s'.heap → R (.ok (.ret .none)) s') →
      codeAny (model P w) A' (.builtin "set.update.loop" ⟨[.ref s.heap.objs.size, .ref I], []⟩) R s1)
    (h : ∀ (h' : Heap) (tk : Nat), T h' → (∀ b o, s.heap.get? b = some o → h'.get? b = some o) → Q (.ref s.heap.objs.size) { s with heap := h', toks := tk }) :
    wpAny (model P w) A (call (.type "set") [.ref l]) Q E s := by
  obtain ⟨c, tl, hmro⟩ := F.called_set.mro
  have made := F.called_set.made
  have sub := F.called_set.sub
  refine wpAny_call (codeAny_of_tree ?_)
  show wpAny _ _ (callAny (.type "set") ⟨[.ref l], []⟩) _ _ s
  refine wpAny_pure (And.intro (Code.quiet_builtin _ (by decide +kernel)) (codeAny_builtin F.entry_type_call ?_))
  rw [Around.under_plain (weight_type_call_type "set" [.ref l] []) rfl]
  have c1 := F.called_set.notType
  have c2 := F.called_set.canCreate
  have c3 := F.typeCall_set_1 (.ref l)
  repeat (any_goals (first | assumption | wp_step))
  refine codeAny_mono (new_set (x := .ref l) (E := E) (Q₁ := fun v s1 => v = .ref s.heap.objs.size ∧ s1 = { s with heap := s.heap.push { cls := .type "set", dict := none, data := .set #[] 0 (.fresh 0 0 (!w.params.followText "set-order")) } }) ⟨rfl, rfl⟩) fun r s1 hr => ?_
  cases r with
  | error e => exact hr
  | ok fl =>
    cases fl with
    | ret v =>
      obtain ⟨rfl, rfl⟩ := hr
      have hS : (s.heap.push { cls := .type "set", dict := none, data := .set #[] 0 (.fresh 0 0 (!w.params.followText "set-order")) }).get? s.heap.objs.size = some { cls := .type "set", dict := none, data := .set #[] 0 (.fresh 0 0 (!w.params.followText "set-order")) } := Heap.get?_push_size _ rfl
      have hT : Shared.TypeIs { s with heap := s.heap.push { cls := .type "set", dict := none, data := .set #[] 0 (.fresh 0 0 (!w.params.followText "set-order")) } } (.ref s.heap.objs.size) "set" := ⟨_, hS, rfl⟩
      have i1 := F.called_set.init.lookup
      have i2 := F.called_set.init.bind (.ref s.heap.objs.size)
      repeat (any_goals (first | assumption | wp_step))
      refine codeAny_mono (codeAny_call_builtin (R := wants (fun r s2 => r = .none ∧ ∃ h' tk, s2 = { s with heap := h', toks := tk } ∧ T h' ∧ (∀ b o, s.heap.get? b = some o → h'.get? b = some o)) E) F.called_set.init.plain F.entry_set_init (check_set_init_1 hT ?_)) fun r2 s2 hr2 => ?_
      · have hl1 : (s.heap.push { cls := .type "set", dict := none, data := .set #[] 0 (.fresh 0 0 (!w.params.followText "set-order")) }).IsList l items := hl.push _
        obtain ⟨ol, e1, e2, nl, e3⟩ := id hl1
        obtain ⟨oc, od, oda, osl⟩ := ol
        simp only at e2 e3
        subst e2 e3
        have n1 := F.sub_list_set
        have n2 := F.sub_list_frozenset
        have n3 : (Value.type "list" == Value.type "dict") = false := by decide
        unfold Builtin.«set.__init__» noKeywords Builtin.Frozenset.updateFrom
        generalize hPI : pyIter = PI
        wp_walk
        subst hPI
        refine wpAny_pyIter_list hl1 (wpAny_bind (wpAny_runValue ?_))
        refine loop _ _ _ _ (by simp [hh]) (by simp only [Around.in1]; omega) (Heap.size_push _ _) (fun b o e => Heap.get?_push_of_some _ e) ⟨_, Heap.get?_push_size _ rfl, rfl, rfl⟩ (hl1.push _) fun s' mv ht => ?_
        obtain ⟨h', g', d', tk', os'⟩ := s'
        have eg : g' = s.gens := mv.gens
        have ed : d' = s.drawn := mv.drawn
        have eo : os' = s.os := mv.os
        subst eg ed eo
        refine wpAny_pure (wpAny_pure ⟨rfl, h', tk', rfl, ht, fun b o e => ?_⟩)
        have lt : b < s.heap.objs.size := Heap.lt_size e
        refine mv.heap b o (fun z => ?_) (Heap.get?_push_of_some _ (Heap.get?_push_of_some _ e))
        simp only [List.mem_cons, List.not_mem_nil, or_false] at z
        have q : (s.heap.push { cls := .type "set", dict := none, data := .set #[] 0 (.fresh 0 0 (!w.params.followText "set-order")) }).objs.size = s.heap.objs.size + 1 := Heap.size_push _ _
        rcases z with z | z
        · exact absurd z (Nat.ne_of_lt lt)
        · rw [z] at lt
          exact absurd (Nat.lt_of_lt_of_le lt (Nat.le_trans (Nat.le_succ _) (Nat.le_of_eq q.symm))) (Nat.lt_irrefl _)
      · cases r2 with
        | error e => exact hr2
        | ok fl2 =>
          cases fl2 with
          | ret r =>
            obtain ⟨rfl, h', tk, rfl, ht, hk⟩ := hr2
            repeat (any_goals (first | assumption | wp_step))
            exact h _ _ ht hk
          | _ => exact hr2.elim
    | _ => exact hr.elim
end
end Ev


set_option Elab.async false
set_option linter.all false
set_option maxRecDepth 100000
set_option maxHeartbeats 1000000
namespace Ev
open PySem PySem.Spec PyProof.Rows L2
/-! ### set(texts), sorted(set(texts)) -/
section
variable {P : Program} {w : World} {A : Around} {E : Value → Shared → Prop} {s : Shared} {a : Addr} {L : List Str}
/-- set(xs), xs a list of texts -/
theorem set_of_texts {l : Addr} {items : Array Value} {xs : List Str} {Q : Value → Shared → Prop} (hh : A.handled = none) (hl : s.heap.IsList l items) (hx : StrsAre items.toList xs) (hb : items.size + 1 < scanBound)
    (h : ∀ (h' : Heap) (tk : Nat), TxSet w h' s.heap.objs.size (DedS xs) → (∀ b o, s.heap.get? b = some o → h'.get? b = some o) → Q (.ref s.heap.objs.size) { s with heap := h', toks := tk }) :
    wpAny (model P w) A (call (.type "set") [.ref l]) Q E s := by
  have hl' : l < s.heap.objs.size := by
    obtain ⟨o, ho, _⟩ := hl
    exact Heap.lt_size ho
  have hn : xs.length = items.size := by rw [← Array.length_toList, hx.len_eq]
  refine set_from (T := fun h' => TxSet w h' s.heap.objs.size (DedS xs)) hh hl (fun A' R s1 I hh' _ hI k it lst fin => ?_) h
  have ne1 : l ≠ I := by rw [hI]; exact Nat.ne_of_lt (Nat.lt_succ_of_lt hl')
  have ne2 : s.heap.objs.size ∉ [I, l] := by
    simp only [List.mem_cons, List.not_mem_nil, or_false, not_or]
    exact ⟨by rw [hI]; exact Nat.ne_of_lt (Nat.lt_succ_self _), Nat.ne_of_gt hl'⟩
  refine tset_loop (Walks.list hh' I l ne1 items).toS s.heap.objs.size ne2 (fun i => xs.getD i Str.empty) (fun i v hv => SS.strs_at hx i v (by rw [Array.getElem?_toList]; exact hv)) hb items.size 0 s1 (by omega) ⟨it, lst⟩ ?_ fun s' mv T => fin s' mv ?_
  · exact TxSet.keep tset_fresh fun o e => k _ o e
  · rw [← metOf_all, hn]
    exact T
theorem leS_total : PySem.W.TotalLe leS := by
  have h : PySem.W.TotalLe (PySem.W.dataLe false PyData.str) := PySem.W.sortLe_total _ _ _
  exact h
theorem rank_eq {x y : D} (h : PySem.W.sameRank leD x y = true) : PySem.W.keyToks x = PySem.W.keyToks y := by
  unfold PySem.W.sameRank at h
  rw [Bool.and_eq_true] at h
  have a : PySem.W.dataLt y x = false := by
    have : (!PySem.W.dataLt y x) = true := h.1
    simpa using this
  have b : PySem.W.dataLt x y = false := by
    have : (!PySem.W.dataLt x y) = true := h.2
    simpa using this
  exact lex_total _ _ b a
theorem rankS {x y : Str} (h : PySem.W.sameRank leS x y = true) : x = y := by
  have q := rank_eq (x := .str x) (y := .str y) h
  simp only [PySem.W.keyToks, List.cons.injEq, Sum.inr.injEq, and_true] at q
  exact PySem.W.str_of_cps q
/-- a total order without equal ones: what is in order is told by what is there -/
theorem sort_told {α : Type} {le : α → α → Bool} (T : PySem.W.TotalLe le) (an : ∀ x y, PySem.W.sameRank le x y = true → x = y) {m l : List α} (p : m.Perm l) : m.mergeSort le = l.mergeSort le := by
  refine PySem.W.sort_unique T (PySem.W.sort_pairwise T m) fun c => ?_
  have q : ((m.mergeSort le).filter (PySem.W.sameRank le c)).Perm (l.filter (PySem.W.sameRank le c)) := ((List.mergeSort_perm m le).trans p).filter _
  have f : ∀ k : List α, k.filter (PySem.W.sameRank le c) = List.replicate (k.filter (PySem.W.sameRank le c)).length c := fun k => by
    rw [List.eq_replicate_iff]
    exact ⟨rfl, fun b hb => (an c b (List.mem_filter.mp hb).2).symm⟩
  rw [f (m.mergeSort le), f l, q.length_eq]
def vTxt : Value → Str
  | .str x _ => x
  | _ => Str.empty
theorem each_txt : ∀ {vs : List Value}, (∀ v ∈ vs, ∃ x t, v = Value.str x t) → PySem.W.EachIs (fun v x => ∃ t, v = Value.str x t) vs (vs.map vTxt)
  | [], _ => .nil
  | v :: r, h => by
    obtain ⟨x, t, rfl⟩ := h v List.mem_cons_self
    exact .cons ⟨t, rfl⟩ (each_txt fun u hu => h u (List.mem_cons_of_mem _ hu))
theorem strs_each : ∀ {us : List Value} {xs : List Str}, PySem.W.EachIs (fun v x => ∃ t, v = Value.str x t) us xs → Vals (xs.map V.str) us
  | _, _, .nil => .nil
  | _, _, .cons h t => .cons h (strs_each t)
theorem alike_txt (xs : List Str) : PySem.W.AllAlike (xs.map PyData.str) ∧ PySem.W.Sortable (xs.map PyData.str) := by
  refine ⟨fun d hd d' hd' => ?_, .inr fun d hd => ?_⟩
  · obtain ⟨x, _, rfl⟩ := List.mem_map.mp hd
    obtain ⟨y, _, rfl⟩ := List.mem_map.mp hd'
    rw [PySem.W.alike]
  · obtain ⟨x, _, rfl⟩ := List.mem_map.mp hd
    exact ⟨(fun e => by cases e), (fun xs e => by cases e)⟩
/-- sorted(set), texts -/
theorem sorted_tset {Q : Value → Shared → Prop} (T : TxSet w s.heap a L) (hh : A.handled = none) (hu : A.units + 65 < cLine)
    (h : ∀ (s' : Shared) (p : Addr) (out : List Value) (c : Nat), (∀ b o, s.heap.get? b = some o → s'.heap.get? b = some o) → s'.gens = s.gens → s'.os = s.os → s.heap.objs.size ≤ p → s'.heap.get? p = some (seqObj "list" out.toArray c) →
      Vals ((srtS leS L).map V.str) out → Q (.ref p) s') :
    wpAny (model P w) A (call (.builtin "sorted") [.ref a]) Q E s := by
  obtain ⟨⟨o, es, ep, t, ho, hx, hd, g, pm, hb, hf, hr, hl⟩, nd⟩ := T
  apply Calls.call_function_entry kind_sorted plain_sorted entry_sorted (args_sorted1 (Value.ref a))
  unfold Builtin.«sorted»
  refine wpAny_bind (m := checkCount "sorted" 1 1 1) ?_
  refine wpAny_pure ?_
  refine wpAny_bind (collect_set (A := A.in1) hh ⟨o, ho, hx.1, hd⟩ hf hb hr hl fun s1 vs k1 z1 g1 o1 p1 => ?_)
  have len : vs.length < scanBound := by rw [p1.length_eq, List.length_map, Array.length_toList]; exact hb
  have tx : ∀ v ∈ vs, ∃ x tk, v = Value.str x tk := fun v hv => by
    obtain ⟨e, he, q⟩ := List.mem_map.mp (p1.mem_iff.mp hv)
    obtain ⟨x, tk, rfl⟩ := g e he
    exact ⟨x, tk, q.symm⟩
  have pL : (vs.map vTxt).Perm L := by
    refine ((p1.map vTxt).trans ?_).trans pm
    rw [List.map_map]
    refine List.Perm.of_eq (List.map_congr_left fun e he => ?_)
    obtain ⟨x, tk, rfl⟩ := g e he
    rfl
  have ea := each_txt tx
  obtain ⟨al, so⟩ := alike_txt (vs.map vTxt)
  refine wpAny_bind (wpAny_newList ?_ (fits_of_scanBound len))
  have hoL : (s1.heap.push (seqObj "list" vs.toArray 0)).get? s1.heap.objs.size = some (seqObj "list" vs.toArray 0) := Heap.get?_push_size _ rfl
  refine wpAny_bind (wpAny_holding (PySem.W.list_sort_data (enc := PyData.str) hoL ea (ea.mono fun v x ⟨t, e⟩ => ⟨[], by rw [e]; exact .str _ _, by simp⟩) al so (by rw [List.length_map]; exact fits_of_scanBound len) (fun x _ => ?_) fun out l1 e1 => ?_))
  · show A.units + 1 + 1 + PyData.depth (.str x) < cLine
    rw [PyData.depth]
    omega
  · obtain ⟨c, hc⟩ := sortedHeap_at (vs := vs) (out := out.toArray) hoL
    refine wpAny_pure ⟨_, rfl, h _ s1.heap.objs.size out c (fun b u e => ?_) g1 o1 z1 hc ?_⟩
    · have q := k1 b u e
      have lt := Heap.lt_size q
      show (sortedHeap (s1.heap.push (seqObj "list" vs.toArray 0)) s1.heap.objs.size vs out.toArray).get? b = some u
      rw [sortedHeap_old (Nat.ne_of_lt lt) (by rw [size_push']; exact Nat.lt_succ_of_lt lt)]
      exact Heap.get?_push_of_some _ q
    · rw [srtS_eq leS_total, ← sort_told leS_total (fun x y => rankS) pL]
      exact strs_each e1
end
end Ev


set_option Elab.async false
set_option linter.all false
set_option maxRecDepth 100000
set_option maxHeartbeats 1000000
namespace Ev
open PySem PySem.Spec PyProof.Rows L2
/-! ### set(xs), sorted(set) as calls -/
/-- the set of texts at a -/
def TxSetO (w : World) (a : Addr) (L : List Str) : HO := .ext fun h => TxSet w h a L
section
variable {X : Cx}
theorem tsetO_new {w : World} {P : Program} {H : Hp} {h : Heap} {a : Addr} {L : List Str} (T : TxSet w h a L) : ObjOk P w H h a (TxSetO w a L) := by
  obtain ⟨⟨o, es, ep, t, ho, r⟩, nd⟩ := T
  exact ⟨⟨⟨o, es, ep, t, ho, r⟩, nd⟩, ⟨o, ho⟩, fun h1 h2 p k => TxSet.keep p k⟩
theorem TxSet.len {w : World} {h : Heap} {a : Addr} {L : List Str} (T : TxSet w h a L) : L.length < scanBound := by
  obtain ⟨⟨o, es, ep, t, ho, hx, hd, g, pm, hb, r⟩, nd⟩ := T
  rw [← pm.length_eq, List.length_map, Array.length_toList]
  exact hb
theorem tsetO_get {pins : List (Addr × Obj)} {σ : L2.St} {H : Hp} {s : Shared} {a : Addr} {L : List Str} (I : Inv X pins σ H s) (ha : H a = some (TxSetO X.w a L)) : TxSet X.w s.heap a L := (I.hok a _ ha).1
def rSetS (X : Cx) : List V → Hp → VK → Prop := fun vs H Q => ∃ (l : Addr) (ss : List Str), vs = [V.ref l] ∧ SqL X.K H l (ss.map V.str) ∧ ss.length + 1 < scanBound ∧ ∀ p, H p = none → Q (.ref p) (upd H p (TxSetO X.w p (DedS ss)))
def rSrtS (X : Cx) : List V → Hp → VK → Prop := fun vs H Q => ∃ (a : Addr) (L : List Str), vs = [V.ref a] ∧ H a = some (TxSetO X.w a L) ∧ ∀ p, H p = none → Q (.ref p) (upd H p (.lst ((srtS leS L).map V.str)))
theorem strs_of_vals : ∀ {xs : List Str} {us : List Value}, Vals (xs.map V.str) us → StrsAre us xs
  | [], [], .nil => .nil
  | x :: xs, u :: us, .cons h t => by
    obtain ⟨tk, rfl⟩ := h
    exact .cons _ _ (strs_of_vals t)
theorem cr_setS (hc : X.calm = true) : CallR X (.type "set") (rSetS X) := by
  intro pins s σ H vs us Q I r h
  obtain ⟨l, ss, rfl, hs, hz, q⟩ := h
  obtain ⟨its, rv, hl, hz'⟩ := I.list hs
  rw [Vals.ref1 r]
  have hx := strs_of_vals rv
  refine set_of_texts (I.ok.hd hc) hl.isList (by simpa using hx) (by rw [List.size_toArray, hx.len_eq]; exact hz) fun h' tk T k => ?_
  exact ⟨.ref s.heap.objs.size, upd H s.heap.objs.size (TxSetO X.w s.heap.objs.size (DedS ss)), I.laid (t' := tk) (fun b u e => k b u e) (Nat.le_refl _) (tsetO_new T), rfl, q _ (I.hok.fresh (Nat.le_refl _))⟩
theorem cr_srtS (hc : X.calm = true) (hu : X.A.units + 65 < cLine) : CallR X (.builtin "sorted") (rSrtS X) := by
  intro pins s σ H vs us Q I r h
  obtain ⟨a, L, rfl, ha, q⟩ := h
  rw [Vals.ref1 r]
  refine sorted_tset (tsetO_get I ha) (I.ok.hd hc) hu fun s' p out c k g1 o1 hp he rv => ?_
  have len : ((srtS leS L).map V.str).length ≤ sizeLine := by
    rw [List.length_map, srtS_perm.length_eq]
    exact fits_of_scanBound (tsetO_get I ha).len
  have hn : H p = none := I.hok.fresh hp
  have J : Inv X pins σ (upd H p (.lst ((srtS leS L).map V.str))) { s with heap := s'.heap, gens := s'.gens, drawn := s'.drawn, toks := s'.toks } :=
    I.call (ch := []) (Un.laid k hp hn) (I.hok.laid k hp ⟨len, out, c, rv, he⟩) (by rw [g1]; exact I.bare) (fun _ z => nomatch z)
  have e : s' = { s with heap := s'.heap, gens := s'.gens, drawn := s'.drawn, toks := s'.toks } := by
    cases s'
    cases s
    cases o1
    rfl
  rw [e]
  exact ⟨.ref p, _, J, rfl, q p hn⟩
end
end Ev


set_option Elab.async false
set_option linter.all false
set_option maxRecDepth 100000
set_option maxHeartbeats 1000000
namespace Ev
open PySem PySem.Spec PyProof.Rows L2
/-! ### sets of tuples of texts: what is asked of one tuple -/
/-- the tuple at b has the texts k -/
abbrev TupS (P : Program) (w : World) (h : Heap) (k : List Key) (b : Addr) : Prop := IsTupleKey (mixKind P w) h k b
abbrev hashT (P : Program) (w : World) (k : List Key) : Int := tupleKeyHash (mixKind P w) k
section
variable {P : Program} {w : World} {A : Around} {E : Value → Shared → Prop} {s : Shared}
/-- an int or a text -/
def isKV (v : Value) : Prop := (∃ i t, v = Value.int i t) ∨ ∃ x t, v = Value.str x t
theorem txts_in {k : List Key} {vs : List Value} (h : ItemsAre (mixKind P w) k vs) : ∀ v ∈ vs, isKV v := by
  induction h with
  | nil => exact fun v hv => nomatch hv
  | @cons k0 u ks us h1 _ ih =>
    intro v hv
    rcases List.mem_cons.mp hv with e | hv
    · subst e
      rcases keyIs_shape h1 with ⟨i, t, _, e2⟩ | ⟨x, t, _, e2⟩
      · exact .inl ⟨i, t, e2⟩
      · exact .inr ⟨x, t, e2⟩
    · exact ih v hv
theorem noClass_txt (n : Nat) {v : Value} (h : isKV v) : ofAClassStatement n v = pure false := by
  rcases h with ⟨i, t, rfl⟩ | ⟨x, t, rfl⟩ <;> cases n <;> rfl
theorem noClass_tup {k : List Key} {b : Addr} {Q : Bool → Shared → Prop} (hk : TupS P w s.heap k b) (h : Q false s) : wpAny (model P w) A (ofAClassStatement 8 (.ref b)) Q E s := by
  have ty := hk.typeIs
  obtain ⟨o, items, n, ho, _, hd, hi⟩ := hk
  unfold ofAClassStatement
  refine wpAny_bind (wpAny_typeOf ty ?_)
  dsimp only
  have e : (("tuple" : String) == "tuple") = true := rfl
  simp only [e, if_true, Bool.not_true, Bool.false_eq_true, if_false]
  try refine wpAny_bind (wpAny_pure ?_)
  try simp only [Bool.not_true, Bool.false_eq_true, if_false]
  refine wpAny_bind (m := seqItems? (.ref b)) (wpAny_seqItems ho hd ?_)
  dsimp only
  refine wpAny_bind ?_
  rw [← Array.forIn_toList]
  refine wpAny_forIn_list _ (fun rest r s1 => r.1 = none ∧ s1 = s ∧ ∀ v ∈ rest, isKV v) _ ?_ ?_ _ _ ⟨rfl, rfl, txts_in hi⟩
  · rintro v rest r s1 ⟨hr, rfl, all⟩
    rw [noClass_txt _ (all v List.mem_cons_self)]
    refine wpAny_bind (wpAny_pure ?_)
    simp only [Bool.false_eq_true, if_false]
    exact wpAny_pure ⟨rfl, rfl, fun u hu => all u (List.mem_cons_of_mem _ hu)⟩
  · rintro ⟨r1, r2⟩ s1 ⟨hr, rfl, _⟩
    cases hr
    exact wpAny_pure h
/-- a tuple's hash: by value or not, it is asked and nothing changes -/
theorem byVal_tup {k : List Key} {b : Addr} {Q : Bool → Shared → Prop} (hk : TupS P w s.heap k b) (h : ∀ q, Q q s) : wpAny (model P w) A (hashByValue 8 (.ref b)) Q E s := by
  have ty := hk.typeIs
  obtain ⟨o, items, n, ho, _, hd, hi⟩ := hk
  unfold hashByValue
  refine wpAny_bind (wpAny_specialOf ty F.slot_tuple_hash.lookup ?_)
  refine wpAny_bind (m := seqItems? (.ref b)) (wpAny_seqItems ho hd ?_)
  refine wpAny_bind (m := forIn items _ _) ?_
  rw [← Array.forIn_toList]
  refine wpAny_forIn_list _ (fun rest r s1 => (r.1 = none ∨ ∃ q, r.1 = some q) ∧ s1 = s ∧ ∀ v ∈ rest, isKV v) _ ?_ ?_ _ _ ⟨.inl rfl, rfl, txts_in hi⟩
  · rintro v rest r s1 ⟨hr, rfl, all⟩
    have sc : v.scannable = true := by
      rcases all v List.mem_cons_self with ⟨i, t, rfl⟩ | ⟨x, t, rfl⟩ <;> rfl
    rw [hashByValue_scannable _ sc]
    refine wpAny_bind (wpAny_pure ?_)
    cases plainKind v
    · exact wpAny_pure (wpAny_pure (h _))
    · exact wpAny_pure ⟨.inl rfl, rfl, fun u hu => all u (List.mem_cons_of_mem _ hu)⟩
  · rintro ⟨r1, r2⟩ s1 ⟨hr, rfl, _⟩
    cases r1 with
    | none => exact wpAny_pure (h true)
    | some q => exact wpAny_pure (h q)
end
end Ev


set_option Elab.async false
set_option linter.all false
set_option maxRecDepth 100000
set_option maxHeartbeats 2000000
namespace Ev
open PySem PySem.Spec PyProof.Rows L2
/-! ### sets of tuples of texts: the search -/
section
variable {P : Program} {w : World} {A : Around} {E : Value → Shared → Prop} {s : Shared}
theorem unseen {k : List Key} {b : Addr} {Q : Bool → Shared → Prop} (hk : TupS P w s.heap k b) {ys : List Value} (hy : ∀ y ∈ ys, ∃ k' c, y = Value.ref c ∧ TupS P w s.heap k' c) (h : Q false s) :
    wpAny (model P w) A (searchCouldBeSeen (.ref b) ys) Q E s := by
  unfold searchCouldBeSeen
  refine wpAny_bind ?_
  refine wpAny_forIn_list _ (fun rest r s1 => r.1 = none ∧ s1 = s ∧ ∀ y ∈ rest, ∃ k' c, y = Value.ref c ∧ TupS P w s.heap k' c) _ ?_ ?_ _ _ ⟨rfl, rfl, hy⟩
  · rintro v rest r s1 ⟨hr, rfl, all⟩
    obtain ⟨k', c, rfl, hc⟩ := all v List.mem_cons_self
    have more : ∀ y ∈ rest, ∃ k' c, y = Value.ref c ∧ TupS P w s1.heap k' c := fun u hu => all u (List.mem_cons_of_mem _ hu)
    dsimp only
    by_cases e : (b == c || (carriedByValue (.ref b) && carriedByValue (.ref c))) = true
    · exact wp_if_pos e (wpAny_pure ⟨rfl, rfl, more⟩)
    · refine wp_if_neg e (wpAny_bind (wpAny_eqIsQuiet_tuple hk ?_))
      simp only [Bool.not_true, Bool.false_eq_true, if_false]
      refine wpAny_bind (wpAny_eqIsQuiet_tuple hc ?_)
      simp only [Bool.not_true, Bool.false_eq_true, if_false]
      refine wpAny_bind (noClass_tup hk ?_)
      simp only [Bool.false_eq_true, if_false]
      refine wpAny_bind (noClass_tup hc ?_)
      simp only [Bool.false_eq_true, if_false]
      exact wpAny_pure ⟨rfl, rfl, more⟩
  · rintro ⟨r1, r2⟩ s1 ⟨hr, rfl, _⟩
    cases hr
    exact wpAny_pure h
/-- the set's rows: a hash and an address each -/
def urows (P : Program) (w : World) (L : List (Addr × List Key)) : List (Int × Value) := L.map fun p => (hashT P w p.2, Value.ref p.1)
def uhash (P : Program) (w : World) (L : List (Addr × List Key)) : List Int := L.map fun p => hashT P w p.2
structure USet (P : Program) (w : World) (h : Heap) (a : Addr) (L : List (Addr × List Key)) (es : Array (Int × Value)) (ep : Nat) (t : SetTable) : Prop where
  ob : ∃ o, h.get? a = some o ∧ o.ExactSet ∧ o.data = .set es ep t
  rows : es.toList = urows P w L
  tab : TabOk t (uhash P w L)
  nd : (L.map (·.2)).Nodup
  tup : ∀ p ∈ L, TupS P w h p.2 p.1
  led : w.params.followText "set-order" = true ∨ t.led = true
  room : L.length * 5 < t.mask * 3
  few : L.length < 64
variable {a : Addr} {L : List (Addr × List Key)} {es : Array (Int × Value)} {ep : Nat} {t : SetTable}
theorem urows_len {L : List (Addr × List Key)} (h : es.toList = urows P w L) : es.size = L.length := by
  have q := congrArg List.length h
  rwa [Array.length_toList, urows, List.length_map] at q
theorem fits_of {n : Nat} {hs : List Int} (T : TabOk t hs) (hn : n = hs.length) (hm : hs.length ≤ t.mask) : t.fits n = true := by
  have q := T.sz
  unfold SetTable.fits SetTable.fill
  rw [T.dm, Bool.and_eq_true, beq_iff_eq, decide_eq_true_eq]
  show t.place.size = n ∧ t.place.size + 0 ≤ t.mask
  omega
theorem USet.fits (R : USet P w s.heap a L es ep t) : t.fits es.size = true := by
  have q := urows_len R.rows
  have r := R.room
  have z : (uhash P w L).length = L.length := List.length_map _
  exact fits_of R.tab (q.trans z.symm) (by omega)
theorem USet.row (R : USet P w s.heap a L es ep t) {i : Nat} {p : Addr × List Key} (h : L[i]? = some p) : es[i]? = some (hashT P w p.2, Value.ref p.1) := by
  rw [← Array.getElem?_toList, R.rows, urows, List.getElem?_map, h]
  rfl
theorem nth_dummy (m : Nat) : ∀ (n : Nat) (p : SetTable.Probe), p.dummy = none → (nth m p n).dummy = none
  | 0, _, h => h
  | n + 1, p, h => nth_dummy m n (adv m p) (by
    unfold adv
    split
    · exact h
    · exact h)
/-- where the search for a hash begins -/
abbrev from0 (m : Nat) (h : Int) : SetTable.Probe := runAt m (SetTable.bits h % (m + 1)) (SetTable.bits h)
theorem USet.notGave (R : USet P w s.heap a L es ep t) : ¬ t.gaveWay = true := by
  unfold SetTable.gaveWay
  rw [mask_odd R.tab.mok]
  decide
/-- the search, from the c-th step of its way on -/
theorem useek (R : USet P w s.heap a L es ep t) {x : Addr} {k : List Key} (hx : TupS P w s.heap k x) (hu : A.units < cLine) {K : Nat} (k1 : K < 10 * SetTable.turns t.mask)
    (k2 : way t.mask (hashT P w k) K ∉ t.place.toList) (k3 : ∀ c, c < K → way t.mask (hashT P w k) c ∈ t.place.toList) {Q : SetFound → Shared → Prop}
    (yes : k ∈ L.map (·.2) → Q (.there none) s) (no : k ∉ L.map (·.2) → Q (.free (way t.mask (hashT P w k) K) false) s) : ∀ (f c : Nat) (stand : Option SetTable.Probe),
    stand.getD (t.probeStart (hashT P w k)) = nth t.mask (from0 t.mask (hashT P w k)) c → c ≤ K → K < f + c →
    (∀ (i : Nat) p, L[i]? = some p → p.2 = k → ∃ c', c ≤ c' ∧ c' < K ∧ t.place.toList[i]? = some (way t.mask (hashT P w k) c')) → wpAny (model P w) A (setSearchFrom a (.ref x) (hashT P w k) true f stand) Q E s := by
  intro f
  induction f with
  | zero => intro c stand _ h1 h2; omega
  | succ f ih =>
    intro c stand st c1 c2 ahead
    obtain ⟨o, ho, hex, hd⟩ := R.ob
    rw [setSearchFrom_succ]
    refine wpAny_bind (wpAny_setState_of ho hd R.fits ?_)
    dsimp only
    refine wp_if_neg R.notGave ?_
    try refine wpAny_bind (wpAny_pure ?_)
    have wy : ∀ q, (nth t.mask (nth t.mask (from0 t.mask (hashT P w k)) c) q).j = way t.mask (hashT P w k) (c + q) := fun q => congrArg SetTable.Probe.j (nth_add t.mask c _ q).symm
    have hat : ∀ (i : Nat) p, L[i]? = some p → (fun i => (es[i]?.map (·.1)).getD 0) i = hashT P w p.2 := fun i p hp => by
      show (es[i]?.map (·.1)).getD 0 = _
      rw [R.row hp]
      rfl
    have sp := go_spec t R.tab.ris R.tab.dm (fun i => (es[i]?.map (·.1)).getD 0) (hashT P w k) (10 * SetTable.turns t.mask) (K - c) (nth t.mask (from0 t.mask (hashT P w k)) c) (nth_dummy _ _ _ rfl) (by omega)
      (fun q hq => by rw [wy]; exact k3 _ (by omega)) (by rw [wy, Nat.add_sub_cancel' c1]; exact k2)
    rw [← st] at sp
    rcases sp with ⟨q, i, q1, q2, q3, q4, q5⟩ | ⟨q4, q5⟩
    · have q6 : t.probe (fun i => (es[i]?.map (·.1)).getD 0) (hashT P w k) (stand.getD (t.probeStart (hashT P w k))) = _ := q5
      rw [q6]
      dsimp only
      rw [st, wy] at q2 ⊢
      have il : i < L.length := by
        have h1 := (List.getElem?_eq_some_iff.mp q2).1
        have h2 := R.tab.sz
        rw [Array.length_toList, h2, uhash, List.length_map] at h1
        exact h1
      obtain ⟨p, hp⟩ : ∃ p, L[i]? = some p := ⟨L[i], List.getElem?_eq_getElem il⟩
      have pin : p ∈ L := List.mem_of_getElem? hp
      have go : wpAny (model P w) A (searchRest a (.ref x) (hashT P w k) true f es t (way t.mask (hashT P w k) (c + q)) i (nth t.mask (nth t.mask (from0 t.mask (hashT P w k)) c) (q + 1))) Q E s := by
        unfold searchRest
        rw [R.row hp]
        dsimp only
        refine wpAny_bind (wpAny_holding (wpAny_eqBool_tuple hu (R.tup p pin) hx (wpAny_bind (wpAny_setState_of ho hd R.fits ?_))))
        dsimp only
        by_cases e : p.2 = k
        · refine wp_if_pos (by simp [e]) (wpAny_pure (yes ?_))
          exact List.mem_map.mpr ⟨p, pin, e⟩
        · refine wp_if_neg (by simp [e]) ?_
          try refine wpAny_bind (wpAny_pure ?_)
          rw [sameMem]
          have live : t.slot (way t.mask (hashT P w k) (c + q)) = .live i := slot_live R.tab.ris q2
          simp only [if_true, live, R.row hp]
          refine wpAny_bind (wpAny_isSame_ref_self (wpAny_bind (wpAny_pure ?_)))
          simp only [if_true]
          refine wp_if_neg (by simp [e]) (ih (c + (q + 1)) _ (nth_add t.mask c _ (q + 1)).symm (by omega) (by omega) fun i0 p1 at1 e1 => ?_)
          obtain ⟨c', a1, a2, a3⟩ := ahead i0 p1 at1 e1
          refine ⟨c', ?_, a2, a3⟩
          rcases Nat.lt_trichotomy c' (c + q) with z | z | z
          · exfalso
            refine q4 (c' - c) i0 (by omega) ?_ ((hat i0 p1 at1).trans (congrArg (hashT P w) e1))
            rw [st, wy, Nat.add_sub_cancel' a1]
            exact a3
          · exfalso
            rw [z] at a3
            have l2 := slot_live R.tab.ris a3
            rw [live] at l2
            injection l2 with l2
            rw [← l2, hp] at at1
            cases at1
            exact e e1
          · omega
      by_cases ld : t.led = true
      · refine wp_if_neg (by simp [ld]) ?_
        try refine wpAny_bind (wpAny_pure ?_)
        exact go
      · refine wp_if_pos (by simp [ld]) (wpAny_bind (unseen hx (fun y hy => ?_) ?_))
        · obtain ⟨e, he, rfl⟩ := List.mem_map.mp hy
          have h1 : e ∈ es ∧ e.1 = hashT P w k := by simpa using he
          have h2 : e ∈ es.toList := by simpa using h1.1
          rw [R.rows] at h2
          obtain ⟨p2, h3, rfl⟩ := List.mem_map.mp h2
          exact ⟨p2.2, p2.1, rfl, R.tup p2 h3⟩
        · refine wp_if_neg (by decide) ?_
          try refine wpAny_bind (wpAny_pure ?_)
          exact go
    · have q6 : t.probe (fun i => (es[i]?.map (·.1)).getD 0) (hashT P w k) (stand.getD (t.probeStart (hashT P w k))) = _ := q5
      rw [q6]
      dsimp only
      rw [st, wy, Nat.add_sub_cancel' c1]
      refine wpAny_pure (no fun hm => ?_)
      obtain ⟨p, hp, e⟩ := List.mem_map.mp hm
      obtain ⟨i, hi, e0⟩ := List.getElem_of_mem hp
      have at_ : L[i]? = some p := by rw [List.getElem?_eq_getElem hi, e0]
      obtain ⟨c', a1, a2, a3⟩ := ahead i p at_ e
      refine q4 (c' - c) i (by omega) ?_ ((hat i p at_).trans (congrArg (hashT P w) e))
      rw [st, wy, Nat.add_sub_cancel' a1]
      exact a3
end
end Ev


set_option Elab.async false
set_option linter.all false
set_option maxRecDepth 100000
set_option maxHeartbeats 2000000
namespace Ev
open PySem PySem.Spec PyProof.Rows L2
/-! ### sets of tuples of texts: adding -/
theorem picks {α β : Type} {L : List α} {f : α → β} {g : Nat → β} (hg : ∀ i x, L[i]? = some x → g i = f x) : ∀ l : List Nat, (∀ i ∈ l, i < L.length) → (l.filterMap fun i => L[i]?).map f = l.map g
  | [], _ => rfl
  | i :: l, h => by
    have hi := h i List.mem_cons_self
    have e := List.getElem?_eq_getElem hi
    rw [List.filterMap_cons_some e, List.map_cons, List.map_cons, picks hg l fun j hj => h j (List.mem_cons_of_mem _ hj), hg i _ e]
theorem pick_all {α : Type} (L : List α) : (List.range L.length).filterMap (fun i => L[i]?) = L := by
  have key : ∀ n, n ≤ L.length → (List.range n).filterMap (fun i => L[i]?) = L.take n := by
    intro n
    induction n with
    | zero => exact fun _ => rfl
    | succ n ih =>
      intro hn
      have e := List.getElem?_eq_getElem (show n < L.length from hn)
      rw [List.range_succ, List.filterMap_append, ih (by omega), List.take_succ, e, List.filterMap_cons_some e]
      rfl
  rw [key _ (Nat.le_refl _), List.take_length]
section
variable {P : Program} {w : World} {A : Around} {E : Value → Shared → Prop} {s : Shared} {a : Addr} {L : List (Addr × List Key)} {es : Array (Int × Value)} {ep : Nat} {t : SetTable}
theorem ufind (R : USet P w s.heap a L es ep t) {x : Addr} {k : List Key} (hx : TupS P w s.heap k x) (hu : A.units < cLine) {Q : SetFound → Shared → Prop} (yes : k ∈ L.map (·.2) → Q (.there none) s)
    (no : ∀ K, k ∉ L.map (·.2) → way t.mask (hashT P w k) K ∉ t.place.toList → (∀ c, c < K → way t.mask (hashT P w k) c ∈ t.place.toList) → Q (.free (way t.mask (hashT P w k) K) false) s) :
    wpAny (model P w) A (setSearch a (.ref x) (hashT P w k) true) Q E s := by
  have rm := R.room
  have zl : (uhash P w L).length = L.length := List.length_map _
  obtain ⟨K, k1, k2, k3⟩ := R.tab.first (by omega) (hashT P w k)
  have big : K < 100000 := by
    have : 10 * SetTable.turns t.mask ≤ 1420 := by
      unfold SetTable.turns
      rcases R.tab.mok with e | e | e <;> omega
    omega
  unfold setSearch
  refine useek R hx hu k1 k2 k3 yes (fun n => no K n k2 k3) 100000 0 none rfl (Nat.zero_le _) (by omega) fun i p hp e => ?_
  have hi : (uhash P w L)[i]? = some (hashT P w k) := by
    rw [uhash, List.getElem?_map, hp, ← e]
    rfl
  have il : i < t.place.toList.length := by
    have h1 := (List.getElem?_eq_some_iff.mp hp).1
    have h2 := R.tab.sz
    rw [Array.length_toList]
    omega
  have hj := List.getElem?_eq_getElem il
  obtain ⟨c, c1, c2⟩ := R.tab.before k2 hi hj
  exact ⟨c, Nat.zero_le _, c1, by rw [hj, c2]⟩
theorem TupS.same {h h' : Heap} {k : List Key} {b : Addr} {o : Obj} (T : TupS P w h k b) (ho : h.get? a = some o) (hd : o.data = .set es ep t) (sb : Heap.SameBut a h h') : TupS P w h' k b := by
  obtain ⟨o', items, n, h1, h2, h3, h4⟩ := T
  refine ⟨o', items, n, (sb.2 b ?_).trans h1, h2, h3, h4⟩
  rintro rfl
  rw [ho] at h1
  cases h1
  rw [hd] at h3
  cases h3
theorem reorder (hr : es.toList = urows P w L) {order : Array Nat} (hp : order.toList.Perm (List.range L.length)) :
    ∃ M, (order.filterMap (es[·]?)).toList = urows P w M ∧ M.Perm L ∧ uhash P w M = order.toList.map fun i => (es.map (·.1)).getD i 0 := by
  have at_ : ∀ i : Nat, es[i]? = (L[i]?).map fun p => (hashT P w p.2, Value.ref p.1) := fun i => by
    rw [← Array.getElem?_toList, hr, urows, List.getElem?_map]
  refine ⟨order.toList.filterMap fun i => L[i]?, ?_, ?_, ?_⟩
  · rw [Array.toList_filterMap, urows, List.map_filterMap]
    congr 1
    exact funext at_
  · have q := hp.filterMap fun i => L[i]?
    rwa [pick_all] at q
  · refine picks (fun i p e => ?_) order.toList fun i hi => List.mem_range.mp (hp.mem_iff.mp hi)
    have e2 : (es.map (·.1))[i]? = some (hashT P w p.2) := by
      rw [Array.getElem?_map, at_, e]
      rfl
    simp [Array.getD_eq_getD_getElem?, e2]
/-- the table laid anew -/
theorem urelay {o : Obj} (ho : s.heap.get? a = some o) (hx : o.ExactSet) (hd : o.data = .set es ep t) (r : es.toList = urows P w L) (fit : t.fits es.size = true) (nd : (L.map (·.2)).Nodup) (tup : ∀ p ∈ L, TupS P w s.heap p.2 p.1)
    (ld : w.params.followText "set-order" = true ∨ t.led = true) (few : L.length < 64) {wanted M : Nat} (w1 : SetTable.sizeAbove wanted - 1 = M) (w2 : MaskOk M) (w3 : SetTable.sizeAbove wanted ≤ 128) (w4 : L.length * 5 < M * 3) {Q : Unit → Shared → Prop}
    (hQ : ∀ h' L' es' ep' t', Heap.SameBut a s.heap h' → USet P w h' a L' es' ep' t' → L'.Perm L → Q () { s with heap := h' }) : wpAny (model P w) A (setRelay a wanted) Q E s := by
  have z := urows_len r
  obtain ⟨u, order, e, pr, T, em, el, _, _⟩ := relaid_ok t (hs := es.map (·.1)) (wanted := wanted) w1 w2 (by rw [Array.size_map, z]; omega)
  rw [Array.size_map, z] at pr
  obtain ⟨N, n1, n2, n3⟩ := reorder (w := w) (P := P) r pr
  rw [← n3] at T
  have zn : (order.filterMap (es[·]?)).size = es.size := by rw [urows_len n1, n2.length_eq, z]
  rw [setRelay_eq]
  refine wpAny_bind (wpAny_setState_of ho hd fit ?_)
  dsimp only
  refine wp_if_neg (by rw [sizeLine_eq]; omega) ?_
  try refine wpAny_bind (wpAny_pure ?_)
  rw [e]
  dsimp only
  refine wpAny_bind (wp_if_neg (by rw [zn]; simp) ?_)
  try refine wpAny_bind (wpAny_pure ?_)
  refine wpAny_pure ?_
  dsimp only
  refine wpAny_storeSet_of ho hd ?_ (by rw [zn, z, sizeLine_eq]; omega)
  have sb := Heap.SameBut.update s.heap a (Obj.putSet (order.filterMap (es[·]?)) u)
  exact hQ _ N _ (ep + 1) u sb ⟨⟨_, store_at ho hd, ⟨hx.1, hx.2.1, hx.2.2⟩, rfl⟩, n1, T, (n2.map (·.2)).nodup_iff.mpr nd, fun p hp => TupS.same (tup p (n2.mem_iff.mp hp)) ho hd sb, by rw [el]; exact ld, by rw [n2.length_eq, em]; exact w4, by rw [n2.length_eq]; exact few⟩ n2
/-- the row is stored; the table is laid anew if it is too full -/
theorem utail (R : USet P w s.heap a L es ep t) {x : Addr} {k : List Key} (hx : TupS P w s.heap k x) {o : Obj} (ho : s.heap.get? a = some o) (hex : o.ExactSet) (hd : o.data = .set es ep t) (hm : k ∉ L.map (·.2)) (few : L.length + 1 < 64)
    {u : SetTable} {p : Nat} (c1 : TabOk u (uhash P w (L.take p ++ (x, k) :: L.drop p))) (c2 : u.mask = t.mask) (c3 : u.led = t.led) (c4 : u.fill = L.length + 1) {Q : Bool → Shared → Prop}
    (hQ : ∀ b h' L' es' ep' t', Heap.SameBut a s.heap h' → USet P w h' a L' es' ep' t' → (k ∈ L.map (·.2) → L' = L) → (k ∉ L.map (·.2) → L'.Perm ((x, k) :: L)) → Q b { s with heap := h' }) :
    wpAny (model P w) A (storeSet a (SetTable.insertAt es p (hashT P w k, Value.ref x)) u >>= fun _ => if (!false && u.tooFull) = true then setRelay a (SetTable.grown (es.size + 1)) >>= fun _ => pure true else pure true) Q E s := by
  have z := urows_len R.rows
  have rm := R.room
  have pm : (L.take p ++ (x, k) :: L.drop p).Perm ((x, k) :: L) := by
    have q : (L.take p ++ (x, k) :: L.drop p).Perm ((x, k) :: (L.take p ++ L.drop p)) := List.perm_middle
    rwa [List.take_append_drop] at q
  have r1 : (SetTable.insertAt es p (hashT P w k, Value.ref x)).toList = urows P w (L.take p ++ (x, k) :: L.drop p) := by
    rw [SetTable.toList_insertAt, R.rows]
    simp only [urows, List.map_append, List.map_cons, List.map_take, List.map_drop]
  have z1 := urows_len r1
  generalize SetTable.insertAt es p (hashT P w k, Value.ref x) = fs at r1 z1 ⊢
  generalize L.take p ++ (x, k) :: L.drop p = M at c1 pm r1 z1
  have zm : M.length = L.length + 1 := pm.length_eq
  have zh : (uhash P w M).length = M.length := List.length_map _
  have nd : (M.map (·.2)).Nodup := by
    refine (pm.map (·.2)).nodup_iff.mpr ?_
    rw [List.map_cons]
    exact List.nodup_cons.mpr ⟨hm, R.nd⟩
  refine wpAny_bind (wpAny_storeSet_of ho hd ?_ (by rw [z1, sizeLine_eq]; omega))
  have sb := Heap.SameBut.update s.heap a (Obj.putSet fs u)
  have h1 := store_at (es' := fs) (t' := u) ho hd
  have tup : ∀ y ∈ M, TupS P w (s.heap.update a (Obj.putSet fs u)) y.2 y.1 := fun y hy => by
    rcases List.mem_cons.mp (pm.mem_iff.mp hy) with e | hy
    · rw [e]; exact TupS.same hx ho hd sb
    · exact TupS.same (R.tup y hy) ho hd sb
  have ld : w.params.followText "set-order" = true ∨ u.led = true := by rw [c3]; exact R.led
  have ft : u.fits fs.size = true := fits_of c1 (z1.trans zh.symm) (by rw [c2]; omega)
  by_cases full : u.tooFull = true
  · refine wp_if_pos (by simp [full]) (wpAny_bind ?_)
    have f5 : (L.length + 1) * 5 ≥ t.mask * 3 := by
      have h := full
      unfold SetTable.tooFull at h
      rw [decide_eq_true_eq, c4, c2] at h
      exact h
    have two : (t.mask = 7 ∧ L.length = 4) ∨ (t.mask = 31 ∧ L.length = 18) := by
      rcases R.tab.mok with e | e | e
      · left; rw [e] at f5 rm; exact ⟨e, by omega⟩
      · right; rw [e] at f5 rm; exact ⟨e, by omega⟩
      · exfalso; rw [e] at f5; omega
    have go : ∀ N, SetTable.sizeAbove (SetTable.grown (es.size + 1)) - 1 = N → MaskOk N → SetTable.sizeAbove (SetTable.grown (es.size + 1)) ≤ 128 → (L.length + 1) * 5 < N * 3 →
        wpAny (model P w) A (setRelay a (SetTable.grown (es.size + 1))) (fun _ s' => wpAny (model P w) A (pure true) Q E s') E { s with heap := s.heap.update a (Obj.putSet fs u) } := fun N n1 n2 n3 n4 =>
      urelay (s := { s with heap := s.heap.update a (Obj.putSet fs u) }) h1 ⟨hex.1, hex.2.1, hex.2.2⟩ rfl r1 ft nd tup ld (by rw [zm]; exact few) n1 n2 n3 (by rw [zm]; exact n4) fun h2 L2 es2 ep2 t2 sb2 R2 p2 =>
        wpAny_pure (hQ true h2 L2 es2 ep2 t2 (sb.trans sb2) R2 (fun n => absurd n hm) fun _ => p2.trans pm)
    rcases two with ⟨_, e⟩ | ⟨_, e⟩
    · exact go 31 (by rw [z, e, size_20]) (.inr (.inl rfl)) (by rw [z, e, size_20]; decide) (by omega)
    · exact go 127 (by rw [z, e, size_76]) (.inr (.inr rfl)) (by rw [z, e, size_76]; decide) (by omega)
  · refine wp_if_neg (by simp [full]) (wpAny_pure (hQ true _ M fs (ep + 1) u sb ⟨⟨_, h1, ⟨hex.1, hex.2.1, hex.2.2⟩, rfl⟩, r1, c1, nd, tup, ld, ?_, by rw [zm]; exact few⟩ (fun n => absurd n hm) fun _ => pm))
    have h := full
    unfold SetTable.tooFull at h
    rw [decide_eq_true_eq, c4] at h
    rw [zm]
    omega
/-- one tuple more -/
theorem uadd (R : USet P w s.heap a L es ep t) {x : Addr} {k : List Key} (hx : TupS P w s.heap k x) (hu : A.units < cLine) (few : L.length + 1 < 64) {Q : Bool → Shared → Prop}
    (hQ : ∀ b h' L' es' ep' t', Heap.SameBut a s.heap h' → USet P w h' a L' es' ep' t' → (k ∈ L.map (·.2) → L' = L) → (k ∉ L.map (·.2) → L'.Perm ((x, k) :: L)) → Q b { s with heap := h' }) :
    wpAny (model P w) A (setAddHashed a (.ref x) (hashT P w k)) Q E s := by
  obtain ⟨o, ho, hex, hd⟩ := R.ob
  have z := urows_len R.rows
  have rm := R.room
  have zl : (uhash P w L).length = L.length := List.length_map _
  unfold setAddHashed
  refine wpAny_holding ?_
  rw [show (100000 : Nat) = 99999 + 1 from rfl, setAddHashedIn_succ]
  refine wpAny_bind (wpAny_setState_of ho hd R.fits ?_)
  dsimp only
  refine wp_if_neg (by simp [byScan, Value.scannable]) ?_
  try refine wpAny_bind (wpAny_pure ?_)
  refine wpAny_bind (ufind R hx hu (fun hm => ?_) fun K hm k2 k3 => ?_)
  · dsimp only
    exact wpAny_pure (hQ false s.heap L es ep t (Heap.SameBut.refl a s.heap) R (fun _ => rfl) fun n => absurd hm n)
  · dsimp only
    refine wpAny_bind (wpAny_setState_of ho hd R.fits ?_)
    dsimp only
    obtain ⟨q1, q2, q3, q4, q5, q6, q7, q8, q9⟩ := R.tab.put k2 k3
    generalize t.put (way t.mask (hashT P w k) K) = pt at q1 q3 q4 q5 q6 q7 q8 q9 ⊢
    obtain ⟨t1, p⟩ := pt
    dsimp only at q1 q3 q4 q5 q6 q7 q8 q9 ⊢
    subst q1
    have one := fun (u : SetTable) (c1 : TabOk u (uhash P w (L.take (SetTable.below t.place (way t.mask (hashT P w k) K)) ++ (x, k) :: L.drop (SetTable.below t.place (way t.mask (hashT P w k) K))))) (c2 : u.mask = t.mask) (c3 : u.led = t.led) (c4 : u.fill = L.length + 1) =>
      utail (A := A) (E := E) (Q := Q) R hx ho hex hd hm few c1 c2 c3 c4 hQ
    have hh : TabOk t1 (uhash P w (L.take (SetTable.below t.place (way t.mask (hashT P w k) K)) ++ (x, k) :: L.drop (SetTable.below t.place (way t.mask (hashT P w k) K)))) := by
      have e : uhash P w (L.take (SetTable.below t.place (way t.mask (hashT P w k) K)) ++ (x, k) :: L.drop (SetTable.below t.place (way t.mask (hashT P w k) K))) = (uhash P w L).take (SetTable.below t.place (way t.mask (hashT P w k) K)) ++ hashT P w k :: (uhash P w L).drop (SetTable.below t.place (way t.mask (hashT P w k) K)) := by
        simp only [uhash, List.map_append, List.map_cons, List.map_take, List.map_drop]
      rw [e]
      exact q3
    by_cases c : t1.plain = true
    · refine wp_if_pos c (wpAny_bind (byVal_tup hx fun b => ?_))
      cases b
      · exact one { t1 with plain := false } ⟨hh.ris, hh.dm, hh.sz, hh.mok, hh.bd, hh.reach⟩ q4 q5 (q9.trans (by rw [zl]))
      · exact one t1 hh q4 q5 (q9.trans (by rw [zl]))
    · refine wp_if_neg c (wpAny_bind (wpAny_pure ?_))
      exact one t1 hh q4 q5 (q9.trans (by rw [zl]))
end
end Ev


set_option Elab.async false
set_option linter.all false
set_option maxRecDepth 100000
set_option maxHeartbeats 1000000
namespace Ev
open PySem PySem.Spec PyProof.Rows L2
/-! ### sets of tuples of texts: made of a list -/
/-- the set at a holds the tuples of D, each once; C is true of each address and its texts -/
def USt (P : Program) (w : World) (C : Addr → List Key → Prop) (h : Heap) (a : Addr) (D : List (List Key)) : Prop := ∃ L es ep t, USet P w h a L es ep t ∧ (L.map (·.2)).Perm D ∧ ∀ p ∈ L, C p.1 p.2
section
variable {P : Program} {w : World} {A : Around} {E : Value → Shared → Prop} {s : Shared} {a : Addr} {B : Nat} {C : Addr → List Key → Prop} {D : List (List Key)}
theorem TupS.keep {h h' : Heap} {k : List Key} {b : Addr} (T : TupS P w h k b) (hb : ∀ o, h.get? b = some o → h'.get? b = some o) : TupS P w h' k b := by
  obtain ⟨o, items, n, h1, r⟩ := T
  exact ⟨o, items, n, hb o h1, r⟩
theorem USt.keep {h h' : Heap} (cb : ∀ x k, C x k → x < B) (T : USt P w C h a D) (k : ∀ b o, b < B ∨ b = a → h.get? b = some o → h'.get? b = some o) : USt P w C h' a D := by
  obtain ⟨L, es, ep, t, R, p, q⟩ := T
  obtain ⟨o, ho, r⟩ := R.ob
  exact ⟨L, es, ep, t, ⟨⟨o, k a o (.inr rfl) ho, r⟩, R.rows, R.tab, R.nd, fun y hy => (R.tup y hy).keep fun o e => k _ o (.inl (cb _ _ (q y hy))) e, R.led, R.room, R.few⟩, p, q⟩
theorem ust_put {x : Addr} {k : List Key} {Q : Bool → Shared → Prop} (T : USt P w C s.heap a D) (hx : TupS P w s.heap k x) (hb : C x k) (hu : A.units < cLine) (few : D.length + 1 < 64)
    (hQ : ∀ b h', Heap.SameBut a s.heap h' → USt P w C h' a (addOne D k) → Q b { s with heap := h' }) : wpAny (model P w) A (setAddHashed a (.ref x) (hashT P w k)) Q E s := by
  obtain ⟨L, es, ep, t, R, p, q⟩ := T
  have z : L.length = D.length := by
    have := p.length_eq
    rwa [List.length_map] at this
  refine uadd R hx hu (by omega) fun b h' L' es' ep' t' sb R' old new => hQ b h' sb ?_
  by_cases m : k ∈ L.map (·.2)
  · obtain rfl := old m
    have e : addOne D k = D := if_pos (p.mem_iff.mp m)
    rw [e]
    exact ⟨_, _, _, _, R', p, q⟩
  · have pm := new m
    have e : addOne D k = D ++ [k] := if_neg fun n => m (p.mem_iff.mpr n)
    rw [e]
    refine ⟨_, _, _, _, R', ?_, fun y hy => ?_⟩
    · have q1 : (L'.map (·.2)).Perm (((x, k) :: L).map (·.2)) := pm.map (·.2)
      rw [List.map_cons] at q1
      exact q1.trans ((List.Perm.cons k p).trans (List.perm_append_singleton k D).symm)
    · rcases List.mem_cons.mp (pm.mem_iff.mp hy) with rfl | hy
      · exact hb
      · exact q y hy
variable {R : Result → Shared → Prop} {I : Addr} {fp wr : List Addr} {G : Array GenState → Array GenState → Prop} {n : Nat} {Pv : Nat → Value → Prop} {St : Nat → Shared → Prop}
theorem ust_loop (W : WalksS P w A.in1 I fp wr G n Pv St) (S : Addr) (cb : ∀ x k, C x k → x < B) (out : S ∉ fp) (hS : B ≤ S) (hw : ∀ b ∈ wr, B ≤ b) (val : Nat → List Key) (h0 : Heap) (hv : ∀ i v, i < n → Pv i v → ∃ x, v = .ref x ∧ C x (val i) ∧ TupS P w h0 (val i) x) (hn : n < 63) (hu : A.in1.units < cLine) :
    ∀ (k i : Nat) (s : Shared), i + k = n → St i s → (∀ b o, b < B → h0.get? b = some o → s.heap.get? b = some o) → USt P w C s.heap S (metOf val i) → (∀ s', Moved (S :: wr) G s s' → USt P w C s'.heap S (metOf val n) → R (.ok (.ret .none)) s') →
      codeAny (model P w) A (.builtin "set.update.loop" ⟨[.ref S, .ref I], []⟩) R s := by
  have ow : S ∉ wr := fun z => out (W.sub _ z)
  have up : ∀ b, b ∈ wr → b ∈ S :: wr := fun b z => List.mem_cons_of_mem _ z
  have low : ∀ b, b < B ∨ b = S → b ∉ wr := fun b hb z => by
    rcases hb with hb | rfl
    · exact absurd (hw b z) (Nat.not_le_of_lt hb)
    · exact ow z
  intro k
  induction k with
  | zero =>
    intro i s hi st base T fin
    obtain rfl : i = n := by omega
    refine codeAny_builtin F.entry_set_update_loop ?_
    rw [Around.under_plainId F.plain_set_update_loop _]
    refine wpAny_bind (m := pyNext (.ref I)) (W.done s _ _ st fun s' mv => ?_)
    exact wpAny_pure (fin s' (mv.mono up) (T.keep cb fun b o hb e => mv.heap b o (low b hb) e))
  | succ k ih =>
    intro i s hi st base T fin
    refine codeAny_builtin F.entry_set_update_loop ?_
    rw [Around.under_plainId F.plain_set_update_loop _]
    refine wpAny_bind (m := pyNext (.ref I)) (W.item i s _ _ (by omega) st fun v s' pv st' mv => ?_)
    obtain ⟨x, rfl, hx, tx⟩ := hv i v (by omega) pv
    have base' : ∀ b o, b < B → h0.get? b = some o → s'.heap.get? b = some o := fun b o hb e => mv.heap b o (low b (.inl hb)) (base b o hb e)
    have tx' : TupS P w s'.heap (val i) x := tx.keep fun o e => base' x o (cb _ _ hx) e
    have T' : USt P w C s'.heap S (metOf val i) := T.keep cb fun b o hb e => mv.heap b o (low b hb) e
    have room : (metOf val i).length + 1 < 64 := by have := metOf_len val i; omega
    refine wpAny_bind (m := holding [Value.ref x] (setAdd S (.ref x))) (wpAny_holding ?_)
    unfold setAdd
    refine wpAny_holding (wpAny_bind (wpAny_pyHash_tuple (knd := mixKind P w) hu tx' ?_))
    refine ust_put (s := { s' with toks := s'.toks + ((val i).length + 1) }) T' tx' hx hu room fun b h' sb T2 => ?_
    refine wpAny_pure ⟨plainId_quiet F.plain_set_update_loop _, ih (i + 1) _ (by omega) (W.frame _ s' _ _ st' (Nat.le_add_right _ _) fun c hc o e => ?_) (fun b o hb e => ?_) (by rw [metOf_succ]; exact T2) fun s'' mv2 T3 => fin s'' ?_ T3⟩
    · rw [sb.2 c fun z : c = S => out (z ▸ hc)]
      exact e
    · rw [sb.2 b fun z : b = S => absurd hb (Nat.not_lt_of_le (z ▸ hS))]
      exact base' b o hb e
    · refine Moved.trans W.gtrans ((mv.mono up).then_heap (Nat.le_add_right _ _) fun c o hc e => ?_) mv2
      rw [sb.2 c fun z : c = S => hc (z ▸ List.mem_cons_self)]
      exact e
end
end Ev


set_option Elab.async false
set_option linter.all false
set_option maxRecDepth 100000
set_option maxHeartbeats 1000000
namespace Ev
open PySem PySem.Spec PyProof.Rows L2
/-! ### set(tuples of texts) -/
section
variable {P : Program} {w : World} {A : Around} {E : Value → Shared → Prop} {s : Shared} {a : Addr} {C : Addr → List Key → Prop} {D : List (List Key)}
theorem ust_fresh {h : Heap} : USt P w C (h.push { cls := .type "set", dict := none, data := .set #[] 0 (.fresh 0 0 (!w.params.followText "set-order")) }) h.objs.size [] := by
  refine ⟨[], #[], 0, .fresh 0 0 (!w.params.followText "set-order"), ⟨⟨_, Heap.get?_push_size _ rfl, ⟨rfl, rfl, rfl⟩, rfl⟩, rfl, ?_, List.nodup_nil, (fun p hp => nomatch hp), ?_, (by show 0 * 5 < 7 * 3; decide), (by show 0 < 64; decide)⟩, List.Perm.nil, (fun p hp => nomatch hp)⟩
  · exact ⟨List.Pairwise.nil, rfl, rfl, .inl rfl, (fun x hx => nomatch hx), (fun i h j hi _ => nomatch hi)⟩
  · cases c : w.params.followText "set-order"
    · exact .inr rfl
    · exact .inl rfl
/-- set(xs), xs a list of tuples of texts -/
theorem set_of_tuples {l : Addr} {items : Array Value} {ks : List (List Key)} {Q : Value → Shared → Prop} (hh : A.handled = none) (hu : A.units + 65 < cLine) (hl : s.heap.IsList l items) (hn : items.size = ks.length) (few : items.size < 63)
    (hx : ∀ i v, items[i]? = some v → ∃ x, v = .ref x ∧ C x (ks.getD i []) ∧ TupS P w s.heap (ks.getD i []) x) (cb : ∀ x k, C x k → x < s.heap.objs.size)
    (h : ∀ (h' : Heap) (tk : Nat), USt P w C h' s.heap.objs.size (ks.foldl addOne []) → (∀ b o, s.heap.get? b = some o → h'.get? b = some o) → Q (.ref s.heap.objs.size) { s with heap := h', toks := tk }) :
    wpAny (model P w) A (call (.type "set") [.ref l]) Q E s := by
  have hl' : l < s.heap.objs.size := by
    obtain ⟨o, ho, _⟩ := hl
    exact Heap.lt_size ho
  have all : metOf (fun i => ks.getD i []) ks.length = ks.foldl addOne [] := by
    unfold metOf
    congr 1
    apply List.ext_getElem
    · simp
    · intro i h1 h2
      rw [List.getElem_map, List.getElem_range, List.getD_eq_getElem?_getD, List.getElem?_eq_getElem h2]
      rfl
  refine set_from (T := fun h' => USt P w C h' s.heap.objs.size (ks.foldl addOne [])) hh hl (fun A' R s1 I hh' hu' hI k it lst fin => ?_) h
  have ne1 : l ≠ I := by rw [hI]; exact Nat.ne_of_lt (Nat.lt_succ_of_lt hl')
  have ne2 : s.heap.objs.size ∉ [I, l] := by
    simp only [List.mem_cons, List.not_mem_nil, or_false, not_or]
    exact ⟨by rw [hI]; exact Nat.ne_of_lt (Nat.lt_succ_self _), Nat.ne_of_gt hl'⟩
  refine ust_loop (Walks.list hh' I l ne1 items).toS s.heap.objs.size cb ne2 (Nat.le_refl _) (fun b hb => ?_) (fun i => ks.getD i []) s.heap (fun i v _ hv => ?_) few ?_ items.size 0 s1 (by omega) ⟨it, lst⟩ (fun b o _ e => k b o (Heap.get?_push_of_some _ e)) ?_ fun s' mv T => fin s' mv ?_
  · rw [List.mem_singleton.mp hb, hI]
    exact Nat.le_succ _
  · exact hx i v hv
  · have : A'.in1.units = A'.units + 1 := rfl
    omega
  · exact USt.keep cb ust_fresh fun b o _ e => k b o e
  · rw [← all, ← hn]
    exact T
end
end Ev


set_option Elab.async false
set_option linter.all false
set_option maxRecDepth 100000
set_option maxHeartbeats 1000000
namespace Ev
open PySem PySem.Spec PyProof.Rows L2
/-! ### the order of tuples of texts -/
theorem leT_total : PySem.W.TotalLe leT := by
  have h : PySem.W.TotalLe (PySem.W.dataLe false tupD) := PySem.W.sortLe_total _ _ _
  exact h
theorem toks_keys : ∀ {x y : List Key}, PySem.W.keyToksAll (x.map keyDt) = PySem.W.keyToksAll (y.map keyDt) → x = y
  | [], [], _ => rfl
  | [], b :: y, h => by simp [PySem.W.keyToksAll] at h
  | a :: x, [], h => by simp [PySem.W.keyToksAll] at h
  | .inl a :: x, .inl b :: y, h => by
    simp only [keyDt, List.map_cons, PySem.W.keyToksAll, PySem.W.keyToks, List.cons_append, List.nil_append, List.cons.injEq, Sum.inl.injEq, true_and] at h
    rw [h.1, toks_keys h.2]
  | .inr a :: x, .inr b :: y, h => by
    simp only [keyDt, List.map_cons, PySem.W.keyToksAll, PySem.W.keyToks, List.cons_append, List.nil_append, List.cons.injEq, Sum.inr.injEq, true_and] at h
    rw [PySem.W.str_of_cps h.1, toks_keys h.2]
  | .inl a :: x, .inr b :: y, h => by
    simp [keyDt, PySem.W.keyToksAll, PySem.W.keyToks] at h
  | .inr a :: x, .inl b :: y, h => by
    simp [keyDt, PySem.W.keyToksAll, PySem.W.keyToks] at h
theorem rankT {x y : List Key} (h : PySem.W.sameRank leT x y = true) : x = y := by
  have q := rank_eq (x := tupD x) (y := tupD y) h
  simp only [tupD, PySem.W.keyToks] at q
  exact toks_keys q
end Ev


set_option Elab.async false
set_option linter.all false
set_option maxRecDepth 100000
set_option maxHeartbeats 1000000
namespace Ev
open PySem PySem.Spec PyProof.Rows L2
/-! ### sorted(set of tuples of texts) -/
section
variable {P : Program} {w : World} {A : Around} {E : Value → Shared → Prop} {s : Shared} {a : Addr} {C : Addr → List Key → Prop} {D : List (List Key)}
theorem reads_txts {h : Heap} : ∀ {k : List Key} {vs : List Value}, ItemsAre (mixKind P w) k vs → ReadsAll h vs (k.map keyDt) []
  | _, _, .nil => .nil
  | _, _, .cons h1 t => by
    have r := reads_txts (h := h) t
    rcases keyIs_shape h1 with ⟨i, t, rfl, rfl⟩ | ⟨x, t, rfl, rfl⟩
    · exact .cons (.int _ _) r
    · exact .cons (.str _ _) r
theorem reads_tup {h : Heap} {k : List Key} {x : Addr} (T : TupS P w h k x) : Reads h (.ref x) (tupD k) [] := by
  obtain ⟨o, items, n, h1, h2, h3, h4⟩ := T
  exact .tuple h1 h2 h3 (reads_txts (h := h) h4)
end
end Ev


set_option Elab.async false
set_option linter.all false
set_option maxRecDepth 100000
set_option maxHeartbeats 1000000
namespace Ev
open PySem PySem.Spec PyProof.Rows L2
/-! ### sorted(set of tuples) -/
theorem perm_of_map {α β : Type} {f : α → β} {vs ws : List β} (p : vs.Perm ws) : ∀ {L : List α}, ws = L.map f → ∃ M : List α, M.Perm L ∧ vs = M.map f := by
  induction p with
  | nil =>
    intro L e
    cases L with
    | nil => exact ⟨[], .nil, rfl⟩
    | cons _ _ => cases e
  | cons x p ih =>
    intro L e
    cases L with
    | nil => cases e
    | cons y L =>
      rw [List.map_cons] at e
      injection e with e1 e2
      obtain ⟨M, q, rfl⟩ := ih e2
      exact ⟨y :: M, q.cons y, by rw [e1, List.map_cons]⟩
  | swap x y l =>
    intro L e
    match L, e with
    | a :: b :: L, e =>
      simp only [List.map_cons, List.cons.injEq] at e
      obtain ⟨rfl, rfl, rfl⟩ := e
      exact ⟨b :: a :: L, List.Perm.swap a b L, rfl⟩
  | trans p q ih1 ih2 =>
    intro L e
    obtain ⟨M, q1, e1⟩ := ih2 e
    obtain ⟨N, q2, e2⟩ := ih1 e1
    exact ⟨N, q2.trans q1, e2⟩
theorem each_of_map {α : Type} {f : α → Value} {R : Value → α → Prop} : ∀ {M : List α}, (∀ b ∈ M, R (f b) b) → PySem.W.EachIs R (M.map f) M
  | [], _ => .nil
  | b :: M, h => .cons (h b List.mem_cons_self) (each_of_map fun c hc => h c (List.mem_cons_of_mem _ hc))
theorem each_snd {C : Addr → List Key → Prop} : ∀ {us : List Value} {M : List (Addr × List Key)}, PySem.W.EachIs (fun v (b : Addr × List Key) => v = Value.ref b.1) us M → (∀ p ∈ M, C p.1 p.2) → PySem.W.EachIs (fun v k => ∃ x, v = Value.ref x ∧ C x k) us (M.map (·.2))
  | _, _, .nil, _ => .nil
  | _, _, .cons h t, c => .cons ⟨_, h, c _ List.mem_cons_self⟩ (each_snd t fun p hp => c p (List.mem_cons_of_mem _ hp))
/-- the set alone, without its tuples -/
def USo (P : Program) (w : World) (C : Addr → List Key → Prop) (h : Heap) (a : Addr) (D : List (List Key)) : Prop := ∃ L es ep t, (∃ o, h.get? a = some o ∧ o.ExactSet ∧ o.data = .set es ep t) ∧ es.toList = urows P w L ∧ t.fits es.size = true ∧ Ris t.place.toList ∧
  (w.params.followText "set-order" = true ∨ t.led = true) ∧ L.length < 64 ∧ (L.map (·.2)).Perm D ∧ ∀ p ∈ L, C p.1 p.2
section
variable {P : Program} {w : World} {A : Around} {E : Value → Shared → Prop} {s : Shared} {a : Addr} {C : Addr → List Key → Prop} {Dl : List (List Key)}
theorem USt.so {h : Heap} (T : USt P w C h a Dl) : USo P w C h a Dl := by
  obtain ⟨L, es, ep, t, U, pm, hc⟩ := T
  refine ⟨L, es, ep, t, U.ob, U.rows, ?_, U.tab.ris, U.led, U.few, pm, hc⟩
  have q := urows_len U.rows
  have r := U.room
  have z : (uhash P w L).length = L.length := List.length_map _
  exact fits_of U.tab (q.trans z.symm) (by omega)
theorem USo.keep {h h' : Heap} (T : USo P w C h a Dl) (k : ∀ o, h.get? a = some o → h'.get? a = some o) : USo P w C h' a Dl := by
  obtain ⟨L, es, ep, t, ⟨o, ho, r⟩, q⟩ := T
  exact ⟨L, es, ep, t, ⟨o, k o ho, r⟩, q⟩
theorem sorted_uset {Q : Value → Shared → Prop} (T : USo P w C s.heap a Dl) (tc : ∀ x k, C x k → TupS P w s.heap k x) (hh : A.handled = none) (hu : A.units + 65 < cLine) (ok : sortOk (Dl.map tupD) = true)
    (h : ∀ (s' : Shared) (p : Addr) (out : List Value) (c : Nat), (∀ b o, s.heap.get? b = some o → s'.heap.get? b = some o) → s'.gens = s.gens → s'.os = s.os → s.heap.objs.size ≤ p → s'.heap.get? p = some (seqObj "list" out.toArray c) →
      PySem.W.EachIs (fun v k => ∃ x, v = Value.ref x ∧ C x k) out (srtS leT Dl) → Q (.ref p) s') :
    wpAny (model P w) A (call (.builtin "sorted") [.ref a]) Q E s := by
  obtain ⟨L, es, ep, t, ⟨o, ho, hx, hd⟩, hr, hf, ris, led, few, pm, hc⟩ := T
  have zs := urows_len hr
  have sb : es.size < scanBound := Nat.lt_of_lt_of_le (by omega : es.size < 64) (by decide)
  apply Calls.call_function_entry kind_sorted plain_sorted entry_sorted (args_sorted1 (Value.ref a))
  unfold Builtin.«sorted»
  refine wpAny_bind (m := checkCount "sorted" 1 1 1) ?_
  refine wpAny_pure ?_
  refine wpAny_bind (collect_set (A := A.in1) hh ⟨o, ho, hx.1, hd⟩ hf sb ris led fun s1 vs k1 z1 g1 o1 p1 => ?_)
  have em : es.toList.map (·.2) = L.map fun p => Value.ref p.1 := by
    rw [hr, urows, List.map_map]
    rfl
  obtain ⟨M, pM, rfl⟩ := perm_of_map p1 em
  have zM : M.length = L.length := pM.length_eq
  have len : (M.map fun p : Addr × List Key => Value.ref p.1).length < scanBound := by rw [List.length_map, zM, ← zs]; exact sb
  have hcM : ∀ p ∈ M, C p.1 p.2 := fun p hp => hc p (pM.mem_iff.mp hp)
  obtain ⟨_, al, so, dp⟩ := sortOk_ok ok
  have inD : ∀ d, d ∈ M.map (fun b => tupD b.2) → d ∈ Dl.map tupD := fun d hd => by
    obtain ⟨b, hb, rfl⟩ := List.mem_map.mp hd
    exact List.mem_map.mpr ⟨b.2, pm.mem_iff.mp (List.mem_map.mpr ⟨b, pM.mem_iff.mp hb, rfl⟩), rfl⟩
  have al' : PySem.W.AllAlike (M.map fun b => tupD b.2) := fun d hd d' hd' => al d (inD d hd) d' (inD d' hd')
  have so' : PySem.W.Sortable (M.map fun b => tupD b.2) := so.imp (fun q d hd => q d (inD d hd)) (fun q d hd => q d (inD d hd))
  refine wpAny_bind (wpAny_newList ?_ (fits_of_scanBound len))
  generalize hv : (M.map fun p : Addr × List Key => Value.ref p.1) = vs at len ⊢
  have hoL : (s1.heap.push (seqObj "list" vs.toArray 0)).get? s1.heap.objs.size = some (seqObj "list" vs.toArray 0) := Heap.get?_push_size _ rfl
  have e1 : PySem.W.EachIs (fun v (b : Addr × List Key) => v = Value.ref b.1) vs M := by
    rw [← hv]
    exact each_of_map fun b _ => rfl
  have e2 : PySem.W.EachIs (fun v (b : Addr × List Key) => ∃ as, Reads (s1.heap.push (seqObj "list" vs.toArray 0)) v (tupD b.2) as ∧ s1.heap.objs.size ∉ as) vs M := by
    rw [← hv]
    refine each_of_map fun b hb => ⟨[], reads_tup (TupS.keep (tc _ _ (hcM b hb)) fun o ho => Heap.get?_push_of_some _ (k1 _ o ho)), by simp⟩
  refine wpAny_bind (wpAny_holding (PySem.W.list_sort_data (enc := fun b : Addr × List Key => tupD b.2) hoL e1 e2 al' so' (by rw [zM, ← zs]; exact fits_of_scanBound sb) (fun b hb => ?_) fun out l1 e3 => ?_))
  · show A.units + 1 + 1 + PyData.depth (tupD b.2) < cLine
    have := dp _ (inD _ (List.mem_map.mpr ⟨b, hb, rfl⟩))
    omega
  · obtain ⟨c, hc'⟩ := sortedHeap_at (vs := vs) (out := out.toArray) hoL
    refine wpAny_pure ⟨_, rfl, h _ s1.heap.objs.size out c (fun b u e => ?_) g1 o1 z1 hc' ?_⟩
    · have q := k1 b u e
      have lt := Heap.lt_size q
      show (sortedHeap (s1.heap.push (seqObj "list" vs.toArray 0)) s1.heap.objs.size vs out.toArray).get? b = some u
      rw [sortedHeap_old (Nat.ne_of_lt lt) (by rw [size_push']; exact Nat.lt_succ_of_lt lt)]
      exact Heap.get?_push_of_some _ q
    · have pD : (M.map (·.2)).Perm Dl := (pM.map (·.2)).trans pm
      have hs : (M.mergeSort (PySem.W.dataLe false fun b : Addr × List Key => tupD b.2)).map (·.2) = srtS leT Dl := by
        rw [PySem.W.sort_maps (r := PySem.W.dataLe false fun b : Addr × List Key => tupD b.2) (s := leT) (fun b : Addr × List Key => b.2) (fun _ _ _ _ => rfl), srtS_eq leT_total, ← sort_told leT_total (fun x y => rankT) pD]
      rw [← hs]
      exact each_snd e3 fun p hp => hcM p ((List.mergeSort_perm _ _).mem_iff.mp hp)
end
/-! ### as calls -/
def USetO (P : Program) (w : World) (C : Addr → List Key → Prop) (a : Addr) (D : List (List Key)) : HO := .ext fun h => USo P w C h a D
theorem keysD_map : ∀ k : List Key, keysD (k.map keyDt) = some k
  | [] => rfl
  | .inl i :: k => by rw [List.map_cons, keyDt, keysD, keysD_map k]; rfl
  | .inr i :: k => by rw [List.map_cons, keyDt, keysD, keysD_map k]; rfl
section
variable {X : Cx}
theorem usetO_new {H : Hp} {h : Heap} {P : Program} {w : World} {C : Addr → List Key → Prop} {a : Addr} {Dl : List (List Key)} (T : USo P w C h a Dl) : ObjOk P w H h a (USetO P w C a Dl) := by
  obtain ⟨L, es, ep, t, ⟨o, ho, r⟩, q⟩ := T
  exact ⟨⟨L, es, ep, t, ⟨o, ho, r⟩, q⟩, ⟨o, ho⟩, fun h1 h2 p k => USo.keep p k⟩
theorem tup_of_tr {pins : List (Addr × Obj)} {σ : L2.St} {G H : Hp} {s : Shared} (I : Inv X pins σ H s) (gh : Same G H) {x : Addr} {k : List Key} (t : Tr X.K G (.ref x) (tupD k)) : TupS X.prog X.w s.heap k x := by
  cases t with
  | tup r _ ta =>
    obtain ⟨its, rv, ⟨o, e, hc, n, hd⟩, _⟩ := I.tuple (sqT_mono gh r)
    rw [ta.keys (keysD_map k)] at rv
    exact ⟨o, its.toArray, n, e, hc, hd, by simpa using items_are rv⟩
abbrev CTr (X : Cx) (G : Hp) : Addr → List Key → Prop := fun x k => Tr X.K G (.ref x) (tupD k)
def rSetU (X : Cx) : List V → Hp → VK → Prop := fun vs H Q => ∃ (G : Hp) (l : Addr) (xs : List V) (ks : List (List Key)), Same G H ∧ vs = [V.ref l] ∧ SqL X.K H l xs ∧ TrAll X.K G xs (ks.map tupD) ∧ ks.length < 63 ∧
  ∀ p, H p = none → Q (.ref p) (upd H p (USetO X.prog X.w (CTr X G) p (ks.foldl addOne [])))
def rSrtU (X : Cx) : List V → Hp → VK → Prop := fun vs H Q => ∃ (G : Hp) (a : Addr) (Dl : List (List Key)), Same G H ∧ vs = [V.ref a] ∧ H a = some (USetO X.prog X.w (CTr X G) a Dl) ∧ sortOk (Dl.map tupD) = true ∧
  ∀ p xs, H p = none → TrAll X.K G xs ((srtS leT Dl).map tupD) → Q (.ref p) (upd H p (.lst xs))
theorem vals_at : ∀ {xs : List V} {us : List Value} {i : Nat} {v : Value}, Vals xs us → us[i]? = some v → ∃ x, xs[i]? = some x ∧ RelV x v
  | _, _, 0, _, .cons r _, e => by cases e; exact ⟨_, rfl, r⟩
  | _, _, i + 1, _, .cons _ t, e => vals_at (i := i) t e
theorem cr_setU (hc : X.calm = true) (hu : X.A.units + 65 < cLine) : CallR X (.type "set") (rSetU X) := by
  intro pins s σ H vs us Q I r h
  obtain ⟨G, l, xs, ks, gh, rfl, hs, ta, few, q⟩ := h
  obtain ⟨its, rv, hl, hz'⟩ := I.list hs
  rw [Vals.ref1 r]
  have len : its.length = ks.length := by rw [← rv.length, ta.length, List.length_map]
  refine set_of_tuples (C := CTr X G) (ks := ks) (I.ok.hd hc) hu hl.isList (by simpa using len) (by simpa [len] using few) (fun i v hv => ?_) (fun x k hx => ?_) fun h' tk T k => ?_
  · obtain ⟨x, hx, rx⟩ := vals_at (i := i) (v := v) rv (by simpa using hv)
    obtain ⟨d, hd, td⟩ := ta.get' i hx
    rw [List.getElem?_map, Option.map_eq_some_iff] at hd
    obtain ⟨k, hk, rfl⟩ := hd
    have e : ks.getD i [] = k := by rw [List.getD_eq_getElem?_getD, hk]; rfl
    rw [e]
    have td' := td
    cases td with
    | tup _ _ _ =>
      cases rx
      exact ⟨_, rfl, td', tup_of_tr I gh td'⟩
  · obtain ⟨o, _, _, e, _⟩ := tup_of_tr I gh hx
    exact Heap.lt_size e
  · exact ⟨.ref s.heap.objs.size, upd H s.heap.objs.size (USetO X.prog X.w (CTr X G) s.heap.objs.size (ks.foldl addOne [])), I.laid (t' := tk) (fun b u e => k b u e) (Nat.le_refl _) (usetO_new T.so), rfl, q _ (I.hok.fresh (Nat.le_refl _))⟩
theorem each_tr {G : Hp} : ∀ {us : List Value} {ks : List (List Key)}, PySem.W.EachIs (fun v k => ∃ x, v = Value.ref x ∧ CTr X G x k) us ks → ∃ xs, Vals xs us ∧ TrAll X.K G xs (ks.map tupD)
  | _, _, .nil => ⟨[], .nil, .nil⟩
  | _, _, .cons ⟨x, e, h⟩ t => by
    obtain ⟨xs, r, ta⟩ := each_tr t
    subst e
    exact ⟨.ref x :: xs, .cons rfl r, .cons h ta⟩
theorem cr_srtU (hc : X.calm = true) (hu : X.A.units + 65 < cLine) : CallR X (.builtin "sorted") (rSrtU X) := by
  intro pins s σ H vs us Q I r h
  obtain ⟨G, a, Dl, gh, rfl, ha, ok, q⟩ := h
  rw [Vals.ref1 r]
  have T : USo X.prog X.w (CTr X G) s.heap a Dl := (I.hok a _ ha).1
  have lenD : Dl.length < 64 := by
    obtain ⟨L, es, ep, t, _, _, _, _, _, few, pm, _⟩ := T
    rw [← pm.length_eq, List.length_map]
    exact few
  refine sorted_uset T (fun x k hx => tup_of_tr I gh hx) (I.ok.hd hc) hu ok fun s' p out c k g1 o1 hp he rv => ?_
  obtain ⟨xs, rx, ta⟩ := each_tr rv
  have len : xs.length ≤ sizeLine := by
    rw [ta.length, List.length_map, srtS_perm.length_eq]
    exact Nat.le_trans (Nat.le_of_lt lenD) (by decide)
  have hn : H p = none := I.hok.fresh hp
  have J : Inv X pins σ (upd H p (.lst xs)) { s with heap := s'.heap, gens := s'.gens, drawn := s'.drawn, toks := s'.toks } :=
    I.call (ch := []) (Un.laid k hp hn) (I.hok.laid k hp ⟨len, out, c, rx, he⟩) (by rw [g1]; exact I.bare) (fun _ z => nomatch z)
  have e : s' = { s with heap := s'.heap, gens := s'.gens, drawn := s'.drawn, toks := s'.toks } := by
    cases s'
    cases s
    cases o1
    rfl
  rw [e]
  exact ⟨.ref p, _, J, rfl, q p xs hn ta⟩
end
end Ev


set_option Elab.async false
set_option linter.all false
set_option maxRecDepth 100000
set_option maxHeartbeats 1000000
/-! Slots and heaps: what holds at each point of a run, what a step may change. -/
namespace Ev
open PySem PySem.Spec PyProof.Rows L2

def Owned (env : Env) (σ : L2.St) (a : Addr) : Prop := ∃ (i : Nat) (d : D) (f : Fl), env[i]? = some (some (d, f)) ∧ f ≠ Fl.sh ∧ σ[i]? = some (some (V.ref a))
structure Rel (K : PySem.W.Frag) (G H : Hp) (env : Env) (σ : L2.St) : Prop where
  len : env.length = σ.length
  gh : Same G H
  sh : ∀ (i : Nat) (d : D), env[i]? = some (some (d, Fl.sh)) → ∃ v, σ[i]? = some (some v) ∧ Tr K G v d
  ow : ∀ (i : Nat) (d : D) (f : Fl), env[i]? = some (some (d, f)) → f ≠ Fl.sh → ∃ a, σ[i]? = some (some (V.ref a)) ∧ G a = none ∧ Own K G H a d
  ap : ∀ (i j : Nat) (d d' : D) (f f' : Fl) (a : Addr), env[i]? = some (some (d, f)) → f ≠ Fl.sh → env[j]? = some (some (d', f')) → f' ≠ Fl.sh → σ[i]? = some (some (V.ref a)) → σ[j]? = some (some (V.ref a)) → i = j
structure Ext (σ : L2.St) (G H : Hp) (env : Env) (G' H' : Hp) (env' : Env) : Prop where
  g : Same G G'
  trk : ∀ a, H a ≠ none → H' a ≠ none
  far : ∀ a, H a ≠ none → G a = none → ¬ Owned env σ a → H' a = H a ∧ G' a = none
  len : env'.length = env.length
  no : ∀ (i : Nat), env[i]? = some none → env'[i]? = some none
  shs : ∀ (i : Nat) (d : D), env[i]? = some (some (d, Fl.sh)) → env'[i]? = some (some (d, Fl.sh))
  ows : ∀ (i : Nat) (d : D), env[i]? = some (some (d, Fl.ow)) → ∃ d' f', env'[i]? = some (some (d', f')) ∧ f' ≠ Fl.io
  ios : ∀ (i : Nat) (d : D), env[i]? = some (some (d, Fl.io)) → ∃ d', env'[i]? = some (some (d', Fl.io))

section
variable {K : PySem.W.Frag} {σ : L2.St} {G H G1 H1 G2 H2 : Hp} {env env1 env2 : Env}
theorem Ext.refl : Ext σ G H env G H env :=
  ⟨Same.refl _, fun _ h => h, fun _ _ g _ => ⟨rfl, g⟩, rfl, fun _ h => h, fun _ _ h => h, fun i d h => ⟨d, _, h, by decide⟩, fun i d h => ⟨d, h⟩⟩
theorem Ext.slot (x : Ext σ G H env G1 H1 env1) {i : Nat} {s1 : Slot} (h : env1[i]? = some s1) : ∃ s0, env[i]? = some s0 := by
  have l := x.len
  have hi : i < env1.length := (List.getElem?_eq_some_iff.mp h).1
  exact ⟨env[i]'(by omega), List.getElem?_eq_getElem (by omega)⟩
theorem Ext.back (x : Ext σ G H env G1 H1 env1) {i : Nat} {d : D} {f : Fl} (h : env1[i]? = some (some (d, f))) (hf : f ≠ Fl.sh) : ∃ d0 f0, env[i]? = some (some (d0, f0)) ∧ f0 ≠ Fl.sh := by
  obtain ⟨s0, e⟩ := x.slot h
  cases s0 with
  | none => rw [x.no i e] at h; cases h
  | some p =>
    obtain ⟨d0, f0⟩ := p
    cases f0 with
    | sh => rw [x.shs i d0 e] at h; cases h; exact absurd rfl hf
    | ow => exact ⟨d0, _, e, by decide⟩
    | io => exact ⟨d0, _, e, by decide⟩
theorem Ext.owned (x : Ext σ G H env G1 H1 env1) {a : Addr} (h : Owned env1 σ a) : Owned env σ a := by
  obtain ⟨i, d, f, e1, e2, e3⟩ := h
  obtain ⟨d0, f0, h1, h2⟩ := x.back e1 e2
  exact ⟨i, d0, f0, h1, h2, e3⟩
theorem Ext.some (x : Ext σ G H env G1 H1 env1) {i : Nat} {d : D} {f : Fl} (h : env[i]? = some (some (d, f))) : ∃ d' f', env1[i]? = Option.some (Option.some (d', f')) := by
  cases f with
  | sh => exact ⟨_, _, x.shs i d h⟩
  | ow => obtain ⟨d', f', e, _⟩ := x.ows i d h; exact ⟨_, _, e⟩
  | io => obtain ⟨d', e⟩ := x.ios i d h; exact ⟨_, _, e⟩
theorem Ext.trans (x : Ext σ G H env G1 H1 env1) (y : Ext σ G1 H1 env1 G2 H2 env2) : Ext σ G H env G2 H2 env2 where
  g := x.g.trans y.g
  trk := fun a h => y.trk a (x.trk a h)
  far := fun a h g o => by
    obtain ⟨e1, g1⟩ := x.far a h g o
    obtain ⟨e2, g2⟩ := y.far a (by rw [e1]; exact h) g1 fun z => o (x.owned z)
    exact ⟨e2.trans e1, g2⟩
  len := y.len.trans x.len
  no := fun i h => y.no i (x.no i h)
  shs := fun i d h => y.shs i d (x.shs i d h)
  ows := fun i d h => by
    obtain ⟨d1, f1, e1, h1⟩ := x.ows i d h
    cases f1 with
    | sh => exact ⟨_, _, y.shs i d1 e1, by decide⟩
    | ow => exact y.ows i d1 e1
    | io => exact absurd rfl h1
  ios := fun i d h => by
    obtain ⟨d1, e1⟩ := x.ios i d h
    exact y.ios i d1 e1
/-- new things alone -/
theorem Rel.grow (r : Rel K G H env σ) (g : Grow G H G1 H1) : Rel K G1 H1 env σ where
  len := r.len
  gh := g.gh
  sh := fun i d h => by
    obtain ⟨v, e, t⟩ := r.sh i d h
    exact ⟨v, e, t.mn g.g⟩
  ow := fun i d f h hf => by
    obtain ⟨a, e, ga, o⟩ := r.ow i d f h hf
    refine ⟨a, e, g.new a o.ne ga, ?_⟩
    cases q : H a with
    | none => exact absurd q o.ne
    | some u => exact o.mn g.g (by rw [q, g.keep a u q])
  ap := r.ap
theorem Ext.grow (g : Grow G H G1 H1) : Ext σ G H env G1 H1 env where
  g := g.g
  trk := fun a h => by
    cases q : H a with
    | none => exact absurd q h
    | some u => rw [g.keep a u q]; simp
  far := fun a h ga _ => by
    cases q : H a with
    | none => exact absurd q h
    | some u => exact ⟨g.keep a u q, g.new a h ga⟩
  len := rfl
  no := fun _ h => h
  shs := fun _ _ h => h
  ows := fun i d h => ⟨d, _, h, by decide⟩
  ios := fun i d h => ⟨d, h⟩

/-! ### results -/
def RRel (K : PySem.W.Frag) (G H : Hp) (env : Env) (σ : L2.St) : R → V → Prop
  | .v d .sh, v => Tr K G v d
  | .v d .ow, v => ∃ a, v = V.ref a ∧ G a = none ∧ Own K G H a d ∧ ¬ Owned env σ a
  | .v _ .io, _ => False
  | .s i, v => σ[i]? = some (some v) ∧ ∃ d f, env[i]? = some (some (d, f))
def isTemp : R → Bool
  | .v _ .ow => true
  | _ => false
def Fresh (H0 : Hp) (r : R) (v : V) : Prop := isTemp r = true → ∀ a, v = V.ref a → H0 a = none
theorem RRel.step {r : R} {v : V} (h : RRel K G H env σ r v) (x : Ext σ G H env G1 H1 env1) : RRel K G1 H1 env1 σ r v := by
  cases r with
  | s i =>
    obtain ⟨e, d, f, h2⟩ := h
    exact ⟨e, x.some h2⟩
  | v d f =>
    cases f with
    | sh => exact Tr.mn x.g h
    | io => exact h
    | ow =>
      obtain ⟨a, e, ga, o, no⟩ := h
      obtain ⟨e1, g1⟩ := x.far a o.ne ga no
      exact ⟨a, e, g1, o.mn x.g e1, fun z => no (x.owned z)⟩
theorem Fresh.back {r : R} {v : V} (h : Fresh H1 r v) (x : Ext σ G H env G1 H1 env1) : Fresh H r v := fun t a e => by
  have h1 := h t a e
  cases q : H a with
  | none => rfl
  | some u => exact absurd h1 (x.trk a (by rw [q]; simp))
theorem RRel.sh {d : D} {v : V} : RRel K G H env σ (.v d .sh) v = Tr K G v d := rfl
theorem rd_ok {r : R} {v : V} {d : D} (rl : Rel K G H env σ) (h : RRel K G H env σ r v) (e : rd r env = some d) : Vw K G H v d := by
  cases r with
  | v d' f =>
    cases e
    cases f with
    | sh => exact .inl h
    | io => exact h.elim
    | ow =>
      obtain ⟨a, e, _, o, _⟩ := h
      exact .inr ⟨a, e, o⟩
  | s i =>
    obtain ⟨e1, d', f, h2⟩ := h
    simp only [rd, h2] at e
    cases e
    by_cases hf : f = .sh
    · subst hf
      obtain ⟨v', e2, t⟩ := rl.sh i _ h2
      rw [e1] at e2
      cases e2
      exact .inl t
    · obtain ⟨a, e2, _, o⟩ := rl.ow i _ f h2 hf
      rw [e1] at e2
      cases e2
      exact .inr ⟨a, rfl, o⟩
/-- what an operation gave, as a result -/
theorem Res.rrel {v : V} {d : D} {f : Fl} (rl : Rel K G H env σ) (g : Grow G H G1 H1) (h : Res K G1 H H1 v d f) : RRel K G1 H1 env σ (.v d f) v ∧ Fresh H (.v d f) v := by
  cases f with
  | sh => exact ⟨h, fun t => by cases t⟩
  | io => exact h.elim
  | ow =>
    obtain ⟨a, e, ha, ga, o⟩ := h
    refine ⟨⟨a, e, ga, o, fun z => ?_⟩, fun _ b eb => ?_⟩
    · obtain ⟨i, d0, f0, e1, e2, e3⟩ := z
      obtain ⟨a', e4, _, o'⟩ := rl.ow i d0 f0 e1 e2
      rw [e3] at e4
      cases e4
      exact o'.ne ha
    · rw [e] at eb
      cases eb
      exact ha

/-! ### sharing -/
def frzG (G H : Hp) (a : Addr) : Hp := fun b => if b = a then H a else G b
theorem frz_same {a : Addr} (ga : G a = none) : Same G (frzG G H a) := fun b u e => by
  unfold frzG
  rw [if_neg (ne_of_none e ga)]
  exact e
theorem frz_gh (gh : Same G H) {a : Addr} : Same (frzG G H a) H := fun b u e => by
  unfold frzG at e
  split at e
  · rename_i h; rw [h]; exact e
  · exact gh b u e
theorem frz_at {a : Addr} : frzG G H a a = H a := by unfold frzG; rw [if_pos rfl]
theorem frz_ne {a b : Addr} (h : b ≠ a) : frzG G H a b = G b := by unfold frzG; rw [if_neg h]
theorem Own.frz {a : Addr} {d : D} (ga : G a = none) (o : Own K G H a d) : Tr K (frzG G H a) (V.ref a) d := by
  cases d <;> simp only [Own] at o
  · obtain ⟨vs, e, t⟩ := o
    exact .lst (.inl (.inl (by rw [frz_at]; exact e))) (t.mn (frz_same ga))
  · rcases o with ⟨vs, e, t⟩ | ⟨vs, r, rfl, e, t⟩
    · exact .dct (by rw [frz_at]; exact e) (t.mn (frz_same ga))
    · exact .dck (by rw [frz_at]; exact e) (t.mn (frz_same ga))
/-- a thing of no slot is shared -/
theorem Rel.frz (rl : Rel K G H env σ) {a : Addr} (ga : G a = none) (no : ¬ Owned env σ a) : Rel K (frzG G H a) H env σ where
  len := rl.len
  gh := frz_gh rl.gh
  sh := fun i d h => by
    obtain ⟨v, e, t⟩ := rl.sh i d h
    exact ⟨v, e, t.mn (frz_same ga)⟩
  ow := fun i d f h hf => by
    obtain ⟨b, e, gb, o⟩ := rl.ow i d f h hf
    have hb : b ≠ a := fun z => by subst z; exact no ⟨i, d, f, h, hf, e⟩
    exact ⟨b, e, by rw [frz_ne hb]; exact gb, o.mn (frz_same ga) rfl⟩
  ap := rl.ap
/-- a slot's own thing is shared -/
theorem Rel.frzS (rl : Rel K G H env σ) {i : Nat} {d : D} {f : Fl} {a : Addr} (h : env[i]? = some (some (d, f))) (hf : f ≠ Fl.sh) (e : σ[i]? = some (some (V.ref a))) (ga : G a = none) (o : Own K G H a d) :
    Rel K (frzG G H a) H (env.set i (some (d, Fl.sh))) σ where
  len := by rw [List.length_set]; exact rl.len
  gh := frz_gh rl.gh
  sh := fun j d' hj => by
    by_cases hij : i = j
    · subst hij
      have hi : i < env.length := (List.getElem?_eq_some_iff.mp h).1
      rw [List.getElem?_set_self hi] at hj
      cases hj
      exact ⟨_, e, o.frz ga⟩
    · rw [List.getElem?_set_ne hij] at hj
      obtain ⟨v, e, t⟩ := rl.sh j d' hj
      exact ⟨v, e, t.mn (frz_same ga)⟩
  ow := fun j d' f' hj hf' => by
    by_cases hij : i = j
    · subst hij
      have hi : i < env.length := (List.getElem?_eq_some_iff.mp h).1
      rw [List.getElem?_set_self hi] at hj
      cases hj
      exact absurd rfl hf'
    · rw [List.getElem?_set_ne hij] at hj
      obtain ⟨b, eb, gb, ob⟩ := rl.ow j d' f' hj hf'
      have hb : b ≠ a := fun z => by subst z; exact hij (rl.ap i j d d' f f' b h hf hj hf' e eb)
      exact ⟨b, eb, by rw [frz_ne hb]; exact gb, ob.mn (frz_same ga) rfl⟩
  ap := fun j k d1 d2 f1 f2 b h1 hf1 h2 hf2 e1 e2 => by
    have hi : i < env.length := (List.getElem?_eq_some_iff.mp h).1
    have n1 : i ≠ j := fun z => by subst z; rw [List.getElem?_set_self hi] at h1; cases h1; exact hf1 rfl
    have n2 : i ≠ k := fun z => by subst z; rw [List.getElem?_set_self hi] at h2; cases h2; exact hf2 rfl
    rw [List.getElem?_set_ne n1] at h1
    rw [List.getElem?_set_ne n2] at h2
    exact rl.ap j k d1 d2 f1 f2 b h1 hf1 h2 hf2 e1 e2
theorem owned_set {i : Nat} {d : D} {a : Addr} (h : Owned (env.set i (some (d, Fl.sh))) σ a) : Owned env σ a := by
  obtain ⟨j, d', f, e1, e2, e3⟩ := h
  by_cases hij : i = j
  · subst hij
    by_cases hi : i < env.length
    · rw [List.getElem?_set_self hi] at e1
      cases e1
      exact absurd rfl e2
    · rw [List.getElem?_eq_none (by rw [List.length_set]; omega)] at e1
      cases e1
  · rw [List.getElem?_set_ne hij] at e1
    exact ⟨j, d', f, e1, e2, e3⟩
/-- a step, and then the sharing of what it gave -/
theorem Ext.frz (x : Ext σ G H env G1 H1 env1) {a : Addr} (ha : H a = none) (ga : G1 a = none) : Ext σ G H env (frzG G1 H1 a) H1 env1 where
  g := x.g.trans (frz_same ga)
  trk := x.trk
  far := fun b hb gb no => by
    obtain ⟨e, g⟩ := x.far b hb gb no
    have hba : b ≠ a := fun z => by subst z; exact hb ha
    exact ⟨e, by rw [frz_ne hba]; exact g⟩
  len := x.len
  no := x.no
  shs := x.shs
  ows := x.ows
  ios := x.ios
theorem Ext.frzS (x : Ext σ G H env G1 H1 env1) {i : Nat} {d : D} {a : Addr} (h : env1[i]? = Option.some (Option.some (d, Fl.ow))) (e : σ[i]? = Option.some (Option.some (V.ref a))) (ga : G1 a = none) : Ext σ G H env (frzG G1 H1 a) H1 (env1.set i (Option.some (d, Fl.sh))) := by
  have hi : i < env1.length := (List.getElem?_eq_some_iff.mp h).1
  refine x.trans ⟨frz_same ga, fun _ h => h, fun b hb gb no => ?_, by rw [List.length_set], fun j hj => ?_, fun j d' hj => ?_, fun j d' hj => ?_, fun j d' hj => ?_⟩
  · have hba : b ≠ a := fun z => by subst z; exact no ⟨i, d, .ow, h, by decide, e⟩
    exact ⟨rfl, by rw [frz_ne hba]; exact gb⟩
  · have hij : i ≠ j := fun z => by subst z; rw [h] at hj; cases hj
    rw [List.getElem?_set_ne hij]; exact hj
  · have hij : i ≠ j := fun z => by subst z; rw [h] at hj; cases hj
    rw [List.getElem?_set_ne hij]; exact hj
  · by_cases hij : i = j
    · subst hij
      rw [List.getElem?_set_self hi]
      exact ⟨_, _, rfl, by decide⟩
    · rw [List.getElem?_set_ne hij]
      exact ⟨_, _, hj, by decide⟩
  · have hij : i ≠ j := fun z => by subst z; rw [h] at hj; cases hj
    rw [List.getElem?_set_ne hij]; exact ⟨_, hj⟩

theorem fz_ok {r : R} {v : V} {d : D} (x : Ext σ G H env G1 H1 env1) (rl : Rel K G1 H1 env1 σ) (h : RRel K G1 H1 env1 σ r v) (fr : Fresh H r v) (e : fz r env1 = some (d, env2)) :
    ∃ G2, Ext σ G H env G2 H1 env2 ∧ Rel K G2 H1 env2 σ ∧ Tr K G2 v d ∧ Same G1 G2 ∧
      (∀ b, H1 b ≠ none → G1 b = none → ¬ Owned env1 σ b → ¬ (isTemp r = true ∧ v = V.ref b) → G2 b = none) ∧ (∀ b, Owned env2 σ b → Owned env1 σ b) ∧
      (∀ (i : Nat) (d' : D) (f' : Fl), env1[i]? = some (some (d', f')) → ∃ d'' f'', env2[i]? = some (some (d'', f''))) := by
  cases r with
  | v d' f =>
    cases e
    cases f with
    | sh => exact ⟨G1, x, rl, h, Same.refl _, fun _ _ g _ _ => g, fun _ z => z, fun _ _ _ z => ⟨_, _, z⟩⟩
    | io => exact h.elim
    | ow =>
      obtain ⟨a, ea, ga, o, no⟩ := h
      subst ea
      refine ⟨frzG G1 H1 a, x.frz (fr rfl a rfl) ga, rl.frz ga no, o.frz ga, frz_same ga, fun b hb gb nb nt => ?_, fun _ z => z, fun _ _ _ z => ⟨_, _, z⟩⟩
      have hba : b ≠ a := fun z => by subst z; exact nt ⟨rfl, rfl⟩
      rw [frz_ne hba]; exact gb
  | s i =>
    obtain ⟨e1, d0, f0, h2⟩ := h
    simp only [fz, h2] at e
    cases f0 with
    | sh =>
      cases e
      obtain ⟨v', e2, t⟩ := rl.sh i _ h2
      rw [e1] at e2
      cases e2
      exact ⟨G1, x, rl, t, Same.refl _, fun _ _ g _ _ => g, fun _ z => z, fun _ _ _ z => ⟨_, _, z⟩⟩
    | io => cases e
    | ow =>
      cases e
      obtain ⟨a, e2, ga, o⟩ := rl.ow i _ _ h2 (by decide)
      rw [e1] at e2
      cases e2
      refine ⟨frzG G1 H1 a, x.frzS h2 e1 ga, rl.frzS h2 (by decide) e1 ga o, o.frz ga, frz_same ga, fun b hb gb nb nt => ?_, fun _ z => owned_set z, fun j d' f' z => ?_⟩
      · have hba : b ≠ a := fun z => by subst z; exact nb ⟨i, _, _, h2, by decide, e1⟩
        rw [frz_ne hba]; exact gb
      · by_cases hij : i = j
        · subst hij
          rw [List.getElem?_set_self (List.getElem?_eq_some_iff.mp h2).1]
          exact ⟨_, _, rfl⟩
        · rw [List.getElem?_set_ne hij]; exact ⟨_, _, z⟩
/-- another result stays what it is when one is shared -/
theorem RRel.keep {r2 : R} {v2 : V} (h : RRel K G1 H1 env1 σ r2 v2) (gs : Same G1 G2) (gn : ∀ b, H1 b ≠ none → G1 b = none → ¬ Owned env1 σ b → isTemp r2 = true → v2 = V.ref b → G2 b = none)
    (ow : ∀ b, Owned env2 σ b → Owned env1 σ b) (sl : ∀ (i : Nat) (d' : D) (f' : Fl), env1[i]? = some (some (d', f')) → ∃ d'' f'', env2[i]? = some (some (d'', f''))) : RRel K G2 H1 env2 σ r2 v2 := by
  cases r2 with
  | s i =>
    obtain ⟨e, d, f, h2⟩ := h
    exact ⟨e, sl i d f h2⟩
  | v d f =>
    cases f with
    | sh => exact Tr.mn gs h
    | io => exact h
    | ow =>
      obtain ⟨a, e, ga, o, no⟩ := h
      exact ⟨a, e, gn a o.ne ga no rfl e, o.mn gs rfl, fun z => no (ow a z)⟩

/-! ### lists of results -/
def Tmp (a : Addr) : List R → List V → Prop
  | r :: rs, v :: vs => (isTemp r = true ∧ v = V.ref a) ∨ Tmp a rs vs
  | _, _ => False
inductive Rs (K : PySem.W.Frag) (H0 G H : Hp) (env : Env) (σ : L2.St) : List R → List V → Prop
  | nil : Rs K H0 G H env σ [] []
  | cons {r : R} {v : V} {rs : List R} {vs : List V} : RRel K G H env σ r v → Fresh H0 r v → (∀ a, isTemp r = true → v = V.ref a → ¬ Tmp a rs vs) → Rs K H0 G H env σ rs vs → Rs K H0 G H env σ (r :: rs) (v :: vs)
theorem Rs.length {H0 : Hp} : ∀ {rs : List R} {vs : List V}, Rs K H0 G H env σ rs vs → rs.length = vs.length
  | _, _, .nil => rfl
  | _, _, .cons _ _ _ t => by rw [List.length_cons, List.length_cons, t.length]
theorem Rs.fresh {H0 : Hp} {a : Addr} : ∀ {rs : List R} {vs : List V}, Rs K H0 G H env σ rs vs → Tmp a rs vs → H0 a = none
  | _, _, .nil, h => h.elim
  | _, _, .cons _ f _ t, h => by
    rcases h with ⟨h1, h2⟩ | h
    · exact f h1 a h2
    · exact t.fresh h
theorem Rs.back {H0 G0 : Hp} {env0 : Env} : ∀ {rs : List R} {vs : List V}, Rs K H1 G H env σ rs vs → Ext σ G0 H0 env0 G1 H1 env1 → Rs K H0 G H env σ rs vs
  | _, _, .nil, _ => .nil
  | _, _, .cons a f n t, x => .cons a (f.back x) n (t.back x)
theorem Rs.step {H0 : Hp} : ∀ {rs : List R} {vs : List V}, Rs K H0 G H env σ rs vs → Ext σ G H env G1 H1 env1 → Rs K H0 G1 H1 env1 σ rs vs
  | _, _, .nil, _ => .nil
  | _, _, .cons a f n t, x => .cons (a.step x) f n (t.step x)
theorem rdAll_ok {H0 : Hp} (rl : Rel K G H env σ) : ∀ {rs : List R} {vs : List V} {ds : List D}, Rs K H0 G H env σ rs vs → rdAll rs env = some ds → Paired (Vw K G H) vs ds
  | _, _, _, .nil, e => by cases e; exact .nil
  | _, _, _, .cons a f n t, e => by
    simp only [rdAll, Option.bind_eq_some_iff, Option.map_eq_some_iff] at e
    obtain ⟨d, e1, ds, e2, e3⟩ := e
    subst e3
    exact .cons (rd_ok rl a e1) (rdAll_ok rl t e2)
theorem fzAll_ok : ∀ {rs : List R} {vs : List V} {ds : List D} {env2 : Env}, Ext σ G H env G1 H1 env1 → Rel K G1 H1 env1 σ → Rs K H G1 H1 env1 σ rs vs → fzAll rs env1 = some (ds, env2) →
    ∃ G2, Ext σ G H env G2 H1 env2 ∧ Rel K G2 H1 env2 σ ∧ TrAll K G2 vs ds ∧ Same G1 G2 ∧
      (∀ b, H1 b ≠ none → G1 b = none → ¬ Owned env1 σ b → ¬ Tmp b rs vs → G2 b = none) ∧ (∀ b, Owned env2 σ b → Owned env1 σ b) ∧
      (∀ (i : Nat) (d' : D) (f' : Fl), env1[i]? = some (some (d', f')) → ∃ d'' f'', env2[i]? = some (some (d'', f''))) := by
  intro rs vs ds env2 x rl h e
  induction h generalizing ds env2 with
  | nil =>
    cases e
    exact ⟨G1, x, rl, .nil, Same.refl _, fun _ _ g _ _ => g, fun _ z => z, fun _ _ _ z => ⟨_, _, z⟩⟩
  | cons a f n t ih =>
    simp only [fzAll, Option.bind_eq_some_iff, Option.map_eq_some_iff] at e
    obtain ⟨⟨ds1, e1⟩, h1, ⟨d, e2⟩, h2, h3⟩ := e
    cases h3
    obtain ⟨G2, x2, rl2, t2, gs, gn, ow, sl⟩ := ih h1
    have a2 := a.keep gs (fun b hb gb nb ht hv => gn b hb gb nb (n b ht hv)) ow sl
    obtain ⟨G3, x3, rl3, t3, gs3, gn3, ow3, sl3⟩ := fz_ok x2 rl2 a2 f h2
    refine ⟨G3, x3, rl3, .cons t3 (t2.mn gs3), gs.trans gs3, fun b hb gb nb nt => ?_, fun b z => ow b (ow3 b z), fun i d' f' z => ?_⟩
    · exact gn3 b hb (gn b hb gb nb fun z => nt (.inr z)) (fun z => nb (ow b z)) fun z => nt (.inl z)
    · obtain ⟨d1, f1, z1⟩ := sl i d' f' z
      exact sl3 i d1 f1 z1
end
end Ev


set_option Elab.async false
set_option linter.all false
set_option maxRecDepth 100000
set_option maxHeartbeats 1000000
/-! [::-1] of lists and tuples. -/
namespace HT
open PySem PySem.Spec PyProof.Rows
theorem adjust_rev (n : Nat) : Builtin.Slice.sliceAdjust none none (-1) (n : Int) = ((n : Int) - 1, -1) := by
  unfold Builtin.Slice.sliceAdjust
  have h1 : ((-1 : Int) < 0) := by omega
  simp only [h1, if_true]
theorem places_rev (n : Nat) : Builtin.Slice.slicePlaces ((n : Int) - 1) (-1) (-1) = n := by
  unfold Builtin.Slice.slicePlaces
  have h1 : ¬ ((-1 : Int) > 0) := by omega
  have h2 : -(-1 : Int) = 1 := rfl
  simp only [h1, if_false, h2, Int.ediv_one]
  split <;> omega
theorem pick_rev (xs : List Value) : ∀ (k : Nat), k ≤ xs.length → ((List.range k).filterMap fun (m : Nat) => xs.toArray[((xs.length : Int) - 1 + (m : Int) * (-1)).toNat]?) = xs.reverse.take k
  | 0, _ => by simp
  | k + 1, h => by
    rw [List.range_succ, List.filterMap_append, pick_rev xs k (by omega), List.take_succ]
    congr 1
    have e : ((xs.length : Int) - 1 + (k : Int) * (-1)).toNat = xs.length - 1 - k := by omega
    rw [List.filterMap_cons, e, List.getElem?_reverse (by omega)]
    have e2 : xs.toArray[xs.length - 1 - k]? = xs[xs.length - 1 - k]? := by simp
    rw [e2]
    cases xs[xs.length - 1 - k]? <;> rfl
section
variable {prog : Program} {w : World} {A : Around} {E : Value → Shared → Prop} {s : Shared}
theorem sliceApplied_rev {sl : Addr} {vl vu vs : Value} {n : Nat} {Q : Int × Int × Nat → Shared → Prop} (hs : s.heap.IsSliceOf sl vl vu vs) (pl : IsPart vl none) (pu : IsPart vu none) (ps : IsPart vs (some (-1)))
    (h : Q ((n : Int) - 1, -1, n) s) : wpAny (model prog w) A (Builtin.Slice.sliceApplied (.ref sl) (pure (n : Int))) Q E s := by
  obtain ⟨os, hos, hcs, hds⟩ := id hs
  unfold Builtin.Slice.sliceApplied Builtin.Slice.sliceFields
  refine wpAny_bind (wpAny_bind (wpAny_field hos hds (x := vl) rfl (wpAny_bind (wpAny_field hos hds (x := vu) rfl (wpAny_bind (wpAny_field hos hds (x := vs) rfl (wpAny_pure ?_)))))))
  refine wpAny_bind (slicePart_ ps ?_)
  show wpAny _ _ (if ((-1 : Int) == 0) = true then _ else _) _ _ s
  rw [if_neg (by decide)]
  refine wpAny_bind (slicePart_ pl (wpAny_bind (slicePart_ pu (wpAny_bind (wpAny_pure ?_)))))
  show wpAny _ _ (match Builtin.Slice.sliceAdjust none none (-1) (n : Int) with | (lo, hi) => pure (lo, (-1 : Int), Builtin.Slice.slicePlaces lo hi (-1))) _ _ s
  rw [adjust_rev n]
  show wpAny _ _ (pure ((n : Int) - 1, (-1 : Int), Builtin.Slice.slicePlaces ((n : Int) - 1) (-1) (-1))) _ _ s
  rw [places_rev]
  exact wpAny_pure h
theorem getItem_tuple_rev {t sl : Addr} {xs : List Value} {vl vu vs : Value} {Q : Value → Shared → Prop} (ht : IsTup s.heap t xs.toArray) (hs : s.heap.IsSliceOf sl vl vu vs) (pl : IsPart vl none) (pu : IsPart vu none) (ps : IsPart vs (some (-1)))
    (h : Q (.ref s.heap.objs.size) { s with heap := s.heap.push { cls := .type "tuple", data := .seq xs.reverse.toArray } })
    (hsz : xs.length ≤ sizeLine) : wpAny (model prog w) A (getItem (.ref t) (.ref sl)) Q E s := by
  have htake : sizeOk (.seq xs.reverse.toArray) := by
    show xs.reverse.toArray.size ≤ sizeLine
    rw [List.size_toArray, List.length_reverse]
    exact hsz
  obtain ⟨os, hos, hcs, hds⟩ := id hs
  have hTs : s.TypeIs (.ref sl) "slice" := ⟨os, hos, hcs⟩
  unfold getItem
  try with_reducible refine wpAny_holding ?_
  first | refine wpAny_bind (wpAny_pure ?_) | skip
  refine wpAny_bind (wpAny_sequenceKey ht.typeIs (by decide) ?_)
  refine wpAny_bind (wpAny_callSpecial?_slot (name := Str.ofString "__getitem__") ht.typeIs PyProof.Rows.slot_tuple_getitem
    (wpAny_call_entry PyProof.Rows.slot_tuple_getitem ht.typeIs entry_tuple_getitem ?_ (args_tuple_getitem _ _)))
  show wpAny _ _ (Builtin.Tuple.tupleItemsOf (.ref t) >>= _) _ _ s
  refine wpAny_bind (tupleItemsOf_ ht ?_)
  refine wpAny_bind (wpAny_typeOf hTs ?_)
  rw [if_pos (by decide)]
  refine wpAny_bind (sliceApplied_rev hs pl pu ps ?_)
  have hno : ¬ ((((xs.toArray.size : Int) - 1) == 0 && (-1 : Int) == 1 && xs.toArray.size == xs.toArray.size) = true) := by
    intro q
    rw [Bool.and_eq_true, Bool.and_eq_true] at q
    exact absurd (eq_of_beq q.1.2) (by decide)
  show wpAny _ _ (if (((xs.toArray.size : Int) - 1) == 0 && (-1 : Int) == 1 && xs.toArray.size == xs.toArray.size) = true then _ else _) _ _ s
  rw [if_neg hno]
  have hp : ((List.range xs.toArray.size).filterMap fun (m : Nat) => xs.toArray[((xs.toArray.size : Int) - 1 + (m : Int) * (-1)).toNat]?) = xs.reverse := by
    rw [List.size_toArray, pick_rev xs _ (Nat.le_refl _)]
    exact List.take_of_length_le (by rw [List.length_reverse]; exact Nat.le_refl _)
  rw [hp]
  first
    | exact wpAny_bind (m := Builtin.Tuple.tupleExact _) (wpAny_newObj_type (wpAny_pure ⟨_, rfl, wpAny_pure h⟩) htake)
    | exact wpAny_bind (m := Builtin.Tuple.tupleExact _) (wpAny_newObj_type (wpAny_bind (wpAny_pure (wpAny_pure ⟨_, rfl, wpAny_pure h⟩))) htake)
    | exact wpAny_bind (wpAny_bind (m := Builtin.Tuple.tupleExact _) (wpAny_newObj_type (wpAny_pure (wpAny_pure ⟨_, rfl, wpAny_pure h⟩)) htake))
    | exact wpAny_bind (wpAny_bind (m := Builtin.Tuple.tupleExact _) (wpAny_newObj_type (wpAny_pure ⟨_, rfl, wpAny_pure h⟩) htake))
end
end HT
namespace L2
open PySem PySem.Spec PyProof.Rows
section
variable {X : Cx}
/-- e[::-1], e a list or a tuple -/
def tRevA (K : PySem.W.Frag) (te : TE) : TE := fun σ H Q => te σ H fun x H1 => ∃ a xs, x = .ref a ∧ ((SqL K H1 a xs ∧ ∀ p, H1 p = none → Q (.ref p) (upd H1 p (.lst xs.reverse))) ∨ (SqT K H1 a xs ∧ ∀ p, H1 p = none → Q (.ref p) (upd H1 p (.tup xs.reverse))))
theorem pe_revA {e : Expr} {te : TE} {k : Nat} {p1 p2 p3 pos : Pos} (he : PE X e te) : PE X (.Subscript e (.Slice none none (some (.UnaryOp .USub (.Constant (.int 1) k p1) p2)) p3) pos) (tRevA X.K te) := by
  refine ⟨fun pins s σ H Q I h => ?_⟩
  refine Subscript_ (thn (he.run pins s σ H _ I h) fun v s1 ⟨x, H1, I1, r1, q1⟩ => ?_)
  obtain ⟨a, xs, ex, hx⟩ := q1
  subst ex
  cases r1
  have hst : PO X (some (.UnaryOp .USub (.Constant (.int 1) k p1) p2)) (tPart (tUn (rU fun i => .int (-i)) (tC (.int 1)))) := po_some (pe_un un_neg pe_int)
  refine wpAny_Slice (thn (po_none.run pins s1 σ H1 (fun o H2 => o = none ∧ H2 = H1) I1 ⟨rfl, rfl⟩) fun vl s2 ⟨l, H2, I2, pl, el, e2⟩ => ?_)
  subst el e2
  refine thn (po_none.run pins s2 σ H2 (fun o H3 => o = none ∧ H3 = H2) I2 ⟨rfl, rfl⟩) fun vu s3 ⟨u, H3, I3, pu, eu, e3⟩ => ?_
  subst eu e3
  refine thn (hst.run pins s3 σ H3 (fun o H4 => o = some (-1) ∧ H4 = H3) I3 ⟨1, rfl, -1, rfl, rfl, rfl⟩) fun vs s4 ⟨o, H4, I4, ps, eo, e4⟩ => ?_
  subst eo e4
  have I5 : Inv X pins σ H4 { s4 with heap := s4.heap.push { cls := .type "slice", data := .fields #[vl, vu, vs] } } := I4.kept (t' := s4.toks) fun b ob q => Heap.get?_push_of_some _ q
  show wpAny (model X.prog X.w) X.A (subscriptTail e (.Slice none none (some (.UnaryOp .USub (.Constant (.int 1) k p1) p2)) p3) (.ref a) (.ref s4.heap.objs.size)) (EP X pins σ Q) X.xe { s4 with heap := s4.heap.push { cls := .type "slice", data := .fields #[vl, vu, vs] } }
  rcases hx with ⟨hx, q⟩ | ⟨hx, q⟩
  · obtain ⟨its, r, ht, hz⟩ := I5.list hx
    have hlen := r.length
    refine tail_any (ops := [.ref a, .ref s4.heap.objs.size]) ht.isList.typeIs (PySem.slot_list_getitem.lookup) ?_ (by with_unfolding_all rfl)
    refine wpAny_getItem_list_slice ht.isList (Heap.IsSliceOf.new _ vl vu vs) pl pu ps (by decide) ?_ (by rw [List.size_toArray]; omega)
    rw [PySem.W.krv_pick]
    refine ⟨.ref _, _, I5.laid (t' := s4.toks) (o := .lst xs.reverse) (fun b ob q => Heap.get?_push_of_some _ q) (Nat.le_refl _) ?_, rfl, q _ (I5.hok.fresh (Nat.le_refl _))⟩
    exact ⟨by rw [List.length_reverse]; exact hz, _, 0, r.reverse, Heap.get?_push_size _ rfl⟩
  · obtain ⟨its, r, ht, hz⟩ := I5.tuple hx
    have hlen := r.length
    refine tail_any (ops := [.ref a, .ref s4.heap.objs.size]) ht.typeIs (PyProof.Rows.slot_tuple_getitem.lookup) ?_ (by with_unfolding_all rfl)
    refine HT.getItem_tuple_rev ht (Heap.IsSliceOf.new _ vl vu vs) pl pu ps ?_ (by omega)
    refine ⟨.ref _, _, I5.laid (t' := s4.toks) (o := .tup xs.reverse) (fun b ob q => Heap.get?_push_of_some _ q) (Nat.le_refl _) ?_, rfl, q _ (I5.hok.fresh (Nat.le_refl _))⟩
    exact ⟨by rw [List.length_reverse]; exact hz, _, r.reverse, IsTup.new _ _⟩
end
end L2


set_option Elab.async false
set_option linter.all false
set_option maxRecDepth 100000
set_option maxHeartbeats 1000000
/-! Soundness: expressions, construct by construct. -/
namespace L2
open PySem PySem.Spec PyProof.Rows

theorem PE.wk {X : Cx} {e : Expr} {t t' : TE} (h : PE X e t) (w : ∀ σ H Q, t' σ H Q → t σ H Q) : PE X e t' := ⟨fun pins s σ H Q I q => h.run pins s σ H Q I (w σ H Q q)⟩
theorem PT.wk {X : Cx} {e : Expr} {t t' : TT} (h : PT X e t) (w : ∀ σ H Q, t' σ H Q → t σ H Q) : PT X e t' := ⟨fun pins s σ H Q I q => h.run pins s σ H Q I (w σ H Q q)⟩
theorem PW.wk {X : Cx} {e : Expr} {t t' : TT} (h : PW X e t) (w : ∀ σ H Q, t' σ H Q → t σ H Q) : PW X e t' := ⟨fun wh pins s σ H Q I q => h.run wh pins s σ H Q I (w σ H Q q)⟩
theorem PA.wk {X : Cx} {e : List Expr} {t t' : TA} (h : PA X e t) (w : ∀ σ H Q, t' σ H Q → t σ H Q) : PA X e t' := ⟨fun p pins s σ H Q I q => h.run p pins s σ H Q I (w σ H Q q)⟩
theorem PE.never {X : Cx} {e : Expr} {t : TE} (h : ∀ σ H Q, ¬ t σ H Q) : PE X e t := ⟨fun _ _ σ H Q _ q => (h σ H Q q).elim⟩
theorem PT.never {X : Cx} {e : Expr} {t : TT} (h : ∀ σ H Q, ¬ t σ H Q) : PT X e t := ⟨fun _ _ σ H Q _ q => (h σ H Q q).elim⟩
theorem PW.never {X : Cx} {e : Expr} {t : TT} (h : ∀ σ H Q, ¬ t σ H Q) : PW X e t := ⟨fun _ _ _ σ H Q _ q => (h σ H Q q).elim⟩
theorem PA.never {X : Cx} {e : List Expr} {t : TA} (h : ∀ σ H Q, ¬ t σ H Q) : PA X e t := ⟨fun _ _ _ σ H Q _ q => (h σ H Q q).elim⟩

end L2

namespace Ev
open PySem PySem.Spec PyProof.Rows L2

section
variable (K : PySem.W.Frag) (cf : CallF) (io : Nat → List Bool)
/-- the evaluator's run of an expression, as a reading -/
def WE (ir : E) : TE := fun σ H Q => ∃ env G, Rel K G H env σ ∧ ∃ r env', evE cf io ir env = some (r, env') ∧
  ∀ v G' H', Rel K G' H' env' σ → Ext σ G H env G' H' env' → RRel K G' H' env' σ r v → Fresh H r v → Q v H'
def WT (ir : E) : TT := fun σ H Q => ∃ env G, Rel K G H env σ ∧ ∃ b env', evT cf io ir env = some (b, env') ∧
  ∀ G' H', Rel K G' H' env' σ → Ext σ G H env G' H' env' → Q b H'
def WEs (ir : Es) : TA := fun σ H Q => ∃ env G, Rel K G H env σ ∧ ∃ rs env', evEs cf io ir env = some (rs, env') ∧
  ∀ vs G' H', Rel K G' H' env' σ → Ext σ G H env G' H' env' → Rs K H G' H' env' σ rs vs → Q vs H'
def WEd (ir : Es) : TA := fun σ H Q => ∃ env G, Rel K G H env σ ∧ ∃ rs env', evEd cf io ir env = some (rs, env') ∧
  ∀ vs G' H', Rel K G' H' env' σ → Ext σ G H env G' H' env' → Rs K H G' H' env' σ rs vs → Q vs H'
def WO (ir : Eo) : TO := fun σ H Q => ∃ env G, Rel K G H env σ ∧ ∃ o env', evEo cf io ir env = some (o, env') ∧
  ∀ G' H', Rel K G' H' env' σ → Ext σ G H env G' H' env' → Q o H'
end
section
variable {X : Cx} {K : PySem.W.Frag} {cf : CallF} {io : Nat → List Bool} {a b c e : Expr} {ea eb ec ee : E} {pos : Pos}

theorem we_bad : PE X e (WE K cf io .bad) := .never fun σ H Q ⟨env, G, rl, r, env', h, _⟩ => by simp only [evE, reduceCtorEq] at h
theorem wt_of_none {ir : E} (h : ∀ env, evT cf io ir env = none) : PT X e (WT K cf io ir) := .never fun σ H Q ⟨env, G, rl, r, env', h', _⟩ => by rw [h] at h'; cases h'
theorem we_of_none {ir : E} (h : ∀ env, evE cf io ir env = none) : PE X e (WE K cf io ir) := .never fun σ H Q ⟨env, G, rl, r, env', h', _⟩ => by rw [h] at h'; cases h'

/-- two parts in a row, then what is done with both values -/
theorem we_two {r : R2} {ir : E} (h : PE X e (tOp r (WE K cf io ea) (WE K cf io eb)))
    (hev : ∀ env rr env', evE cf io ir env = some (rr, env') → ∃ r1 e1 r2 e2, evE cf io ea env = some (r1, e1) ∧ evE cf io eb e1 = some (r2, e2) ∧
      ∀ σ H G v1 v2, Rel K G H e2 σ → RRel K G H e2 σ r1 v1 → RRel K G H e2 σ r2 v2 → ∀ Q : VK, (∀ v G' H', Rel K G' H' env' σ → Ext σ G H e2 G' H' env' → RRel K G' H' env' σ rr v → Fresh H rr v → Q v H') → r v1 v2 H Q) :
    PE X e (WE K cf io ir) := h.wk fun σ H Q ⟨env, G, rl, rr, env', he, k⟩ => by
  obtain ⟨r1, e1, r2, e2, h1, h2, h3⟩ := hev env rr env' he
  refine ⟨env, G, rl, r1, e1, h1, fun v1 G1 H1 rl1 x1 q1 f1 => ⟨e1, G1, rl1, r2, e2, h2, fun v2 G2 H2 rl2 x2 q2 f2 => ?_⟩⟩
  exact h3 σ H2 G2 v1 v2 rl2 (q1.step x2) q2 Q fun v G' H' rl' x' q' f' => k v G' H' rl' ((x1.trans x2).trans x') q' (f'.back (x1.trans x2))

/-- an operation's value, behind both parts -/
theorem fin_res {σ : L2.St} {H G : Hp} {env : Env} {Q : VK} {d : D} {f : Fl} (rl : Rel K G H env σ) (k : ∀ v G' H', Rel K G' H' env σ → Ext σ G H env G' H' env → RRel K G' H' env σ (.v d f) v → Fresh H (.v d f) v → Q v H') :
    ∀ v G' H', Grow G H G' H' → Res K G' H H' v d f → Q v H' := fun v G' H' g q => k v G' H' (rl.grow g) (.grow g) (q.rrel rl g).1 (q.rrel rl g).2
end
section
variable {X : Cx} {cf : CallF} {io : Nat → List Bool} {a b c e : Expr} {ea eb ec ee : E} {pos : Pos}
theorem we_bin (op : Bop) (ha : PE X a (WE X.K cf io ea)) (hb : PE X b (WE X.K cf io eb)) : PE X (.BinOp a (opOf op) b pos) (WE X.K cf io (.bin op ea eb)) := by
  refine we_two (pe_op (op_bin op) ha hb) fun env rr env' h => ?_
  simp only [evE, Option.bind_eq_some_iff, val, Option.some.injEq, Prod.mk.injEq] at h
  obtain ⟨⟨r1, e1⟩, h1, ⟨r2, e2⟩, h2, x, h3, y, h4, h0⟩ := h
  obtain ⟨hm, h0⟩ := ite'_some h0
  simp only [Option.bind_eq_some_iff, Option.some.injEq, Prod.mk.injEq] at h0
  obtain ⟨⟨d, f⟩, h5, h6, h7⟩ := h0
  subst h6 h7
  refine ⟨r1, e1, r2, e2, h1, h2, fun σ H G v1 v2 rl q1 q2 Q k => ⟨G, x, y, d, f, rl.gh, rd_ok rl q1 h3, rd_ok rl q2 h4, fun ho ds hd => ?_, h5, fin_res rl k⟩⟩
  subst ho hd
  cases r1 with
  | s i => cases hm
  | v d0 f0 =>
    cases h3
    cases f0 with
    | ow =>
      obtain ⟨a, ea, _, o, _⟩ := q1
      exact ⟨a, ea, o⟩
    | sh => cases hm
    | io => cases hm
theorem we_cmp (hu : X.A.units + 65 < cLine) (op : Cop) (ha : PE X a (WE X.K cf io ea)) (hb : PE X b (WE X.K cf io eb)) (hm : behindInMarks (copOf op) b = false) : PE X (.Compare a [copOf op] [b] pos) (WE X.K cf io (.cmp op ea eb)) := by
  refine we_two (pe_cmpR (op_cmp hu op) ha hb hm) fun env rr env' h => ?_
  simp only [evE, Option.bind_eq_some_iff, Option.map_eq_some_iff, Prod.mk.injEq] at h
  obtain ⟨⟨r1, e1⟩, h1, ⟨r2, e2⟩, h2, x, h3, y, h4, c, h5, h6, h7⟩ := h
  subst h6 h7
  exact ⟨r1, e1, r2, e2, h1, h2, fun σ H G v1 v2 rl q1 q2 Q k => ⟨G, x, y, c, rl.gh, rd_ok rl q1 h3, rd_ok rl q2 h4, h5, k _ G H rl .refl (.bl c) fun z => by cases z⟩⟩
theorem wt_cmp (hu : X.A.units + 65 < cLine) (op : Cop) (ha : PE X a (WE X.K cf io ea)) (hb : PE X b (WE X.K cf io eb)) (hm : behindInMarks (copOf op) b = false) : PT X (.Compare a [copOf op] [b] pos) (WT X.K cf io (.cmp op ea eb)) := by
  refine (pt_cmpR (op_cmp hu op) ha hb hm).wk fun σ H Q ⟨env, G, rl, rr, env', h, k⟩ => ?_
  simp only [evT, Option.bind_eq_some_iff, Option.map_eq_some_iff, Prod.mk.injEq] at h
  obtain ⟨⟨r1, e1⟩, h1, ⟨r2, e2⟩, h2, x, h3, y, h4, c, h5, h6, h7⟩ := h
  subst h6 h7
  refine ⟨env, G, rl, r1, e1, h1, fun v1 G1 H1 rl1 x1 q1 f1 => ⟨e1, G1, rl1, r2, e2, h2, fun v2 G2 H2 rl2 x2 q2 f2 => ?_⟩⟩
  exact ⟨G2, x, y, c, rl2.gh, rd_ok rl2 (q1.step x2) h3, rd_ok rl2 q2 h4, h5, c, rfl, k G2 H2 rl2 (x1.trans x2)⟩
theorem we_neg (ha : PE X a (WE X.K cf io ea)) : PE X (.UnaryOp .USub a pos) (WE X.K cf io (.neg ea)) := by
  refine (pe_un un_neg ha).wk fun σ H Q ⟨env, G, rl, rr, env', h, k⟩ => ?_
  simp only [evE, Option.bind_eq_some_iff] at h
  obtain ⟨⟨r1, e1⟩, h1, h2⟩ := h
  refine ⟨env, G, rl, r1, e1, h1, fun v1 G1 H1 rl1 x1 q1 f1 => ?_⟩
  cases r1 with
  | s i => cases h2
  | v d f =>
    cases d <;> simp only [reduceCtorEq, Option.some.injEq, Prod.mk.injEq] at h2
    rename_i i
    obtain ⟨h2, h3⟩ := h2
    subst h2 h3
    have w := rd_ok (r := .v (.int i) f) rl1 q1 rfl
    exact ⟨i, w.int, k _ G1 H1 rl1 x1 (.int _) fun z => by cases z⟩
theorem we_not (ha : PE X a (WE X.K cf io ea)) : PE X (.UnaryOp .Not a pos) (WE X.K cf io (.not ea)) := by
  refine (pe_notT ha).wk fun σ H Q ⟨env, G, rl, rr, env', h, k⟩ => ?_
  simp only [evE, Option.bind_eq_some_iff, Option.map_eq_some_iff, Prod.mk.injEq] at h
  obtain ⟨⟨r1, e1⟩, h1, x, h2, b, h3, h4, h5⟩ := h
  subst h4 h5
  refine ⟨env, G, rl, r1, e1, h1, fun v1 G1 H1 rl1 x1 q1 f1 => ⟨b, (rd_ok rl1 q1 h2).tru rl1.gh h3, k _ G1 H1 rl1 x1 (.bl _) fun z => by cases z⟩⟩
theorem we_and {r : List Expr} (ha : PE X a (WE X.K cf io ea)) (hb : PE X (.BoolOp .And (b :: r) pos) (WE X.K cf io eb)) : PE X (.BoolOp .And (a :: b :: r) pos) (WE X.K cf io (.and ea eb)) := by
  refine (pe_andT ha hb).wk fun σ H Q ⟨env, G, rl, rr, env', h, k⟩ => ?_
  simp only [evE, Option.bind_eq_some_iff] at h
  obtain ⟨⟨r1, e1⟩, h1, h2⟩ := h
  refine ⟨env, G, rl, r1, e1, h1, fun v1 G1 H1 rl1 x1 q1 f1 => ?_⟩
  cases r1 with
  | s i => cases h2
  | v d f =>
    simp only [Option.bind_eq_some_iff] at h2
    obtain ⟨c, h2, h3⟩ := h2
    refine ⟨c, (rd_ok (r := .v d f) rl1 q1 rfl).tru rl1.gh h2, ?_⟩
    cases c with
    | true => exact ⟨e1, G1, rl1, rr, env', h3, fun v2 G2 H2 rl2 x2 q2 f2 => k v2 G2 H2 rl2 (x1.trans x2) q2 (f2.back x1)⟩
    | false =>
      cases h3
      exact k v1 G1 H1 rl1 x1 q1 f1
theorem we_or {r : List Expr} (ha : PE X a (WE X.K cf io ea)) (hb : PE X (.BoolOp .Or (b :: r) pos) (WE X.K cf io eb)) : PE X (.BoolOp .Or (a :: b :: r) pos) (WE X.K cf io (.or ea eb)) := by
  refine (pe_orT ha hb).wk fun σ H Q ⟨env, G, rl, rr, env', h, k⟩ => ?_
  simp only [evE, Option.bind_eq_some_iff] at h
  obtain ⟨⟨r1, e1⟩, h1, h2⟩ := h
  refine ⟨env, G, rl, r1, e1, h1, fun v1 G1 H1 rl1 x1 q1 f1 => ?_⟩
  cases r1 with
  | s i => cases h2
  | v d f =>
    simp only [Option.bind_eq_some_iff] at h2
    obtain ⟨c, h2, h3⟩ := h2
    refine ⟨c, (rd_ok (r := .v d f) rl1 q1 rfl).tru rl1.gh h2, ?_⟩
    cases c with
    | false => exact ⟨e1, G1, rl1, rr, env', h3, fun v2 G2 H2 rl2 x2 q2 f2 => k v2 G2 H2 rl2 (x1.trans x2) q2 (f2.back x1)⟩
    | true =>
      cases h3
      exact k v1 G1 H1 rl1 x1 q1 f1
theorem wt_and {r : List Expr} (ha : PT X a (WT X.K cf io ea)) (hb : PW X (.BoolOp .And (b :: r) pos) (WT X.K cf io eb)) : PW X (.BoolOp .And (a :: b :: r) pos) (WT X.K cf io (.and ea eb)) := by
  refine (pw_and ha hb).wk fun σ H Q ⟨env, G, rl, rr, env', h, k⟩ => ?_
  simp only [evT, Option.bind_eq_some_iff] at h
  obtain ⟨⟨c, e1⟩, h1, h2⟩ := h
  refine ⟨env, G, rl, c, e1, h1, fun G1 H1 rl1 x1 => ?_⟩
  cases c with
  | true => exact ⟨e1, G1, rl1, rr, env', h2, fun G2 H2 rl2 x2 => k G2 H2 rl2 (x1.trans x2)⟩
  | false =>
    cases h2
    exact k G1 H1 rl1 x1
theorem wt_or {r : List Expr} (ha : PT X a (WT X.K cf io ea)) (hb : PW X (.BoolOp .Or (b :: r) pos) (WT X.K cf io eb)) : PW X (.BoolOp .Or (a :: b :: r) pos) (WT X.K cf io (.or ea eb)) := by
  refine (pw_or ha hb).wk fun σ H Q ⟨env, G, rl, rr, env', h, k⟩ => ?_
  simp only [evT, Option.bind_eq_some_iff] at h
  obtain ⟨⟨c, e1⟩, h1, h2⟩ := h
  refine ⟨env, G, rl, c, e1, h1, fun G1 H1 rl1 x1 => ?_⟩
  cases c with
  | false => exact ⟨e1, G1, rl1, rr, env', h2, fun G2 H2 rl2 x2 => k G2 H2 rl2 (x1.trans x2)⟩
  | true =>
    cases h2
    exact k G1 H1 rl1 x1
theorem wt_not (ha : PT X a (WT X.K cf io ea)) : PT X (.UnaryOp .Not a pos) (WT X.K cf io (.not ea)) := by
  refine (pt_not ha).wk fun σ H Q ⟨env, G, rl, rr, env', h, k⟩ => ?_
  simp only [evT, Option.map_eq_some_iff, Prod.mk.injEq] at h
  obtain ⟨⟨c, e1⟩, h1, h2, h3⟩ := h
  subst h2 h3
  exact ⟨env, G, rl, c, e1, h1, fun G1 H1 rl1 x1 => k G1 H1 rl1 x1⟩
theorem we_ife (hc : PT X c (WT X.K cf io ec)) (ha : PE X a (WE X.K cf io ea)) (hb : PE X b (WE X.K cf io eb)) : PE X (.IfExp c a b pos) (WE X.K cf io (.ife ec ea eb)) := by
  refine (pe_ifExp hc ha hb).wk fun σ H Q ⟨env, G, rl, rr, env', h, k⟩ => ?_
  simp only [evE, Option.bind_eq_some_iff] at h
  obtain ⟨⟨c, e1⟩, h1, h2⟩ := h
  refine ⟨env, G, rl, c, e1, h1, fun G1 H1 rl1 x1 => ?_⟩
  cases c with
  | true => exact ⟨e1, G1, rl1, rr, env', h2, fun v2 G2 H2 rl2 x2 q2 f2 => k v2 G2 H2 rl2 (x1.trans x2) q2 (f2.back x1)⟩
  | false => exact ⟨e1, G1, rl1, rr, env', h2, fun v2 G2 H2 rl2 x2 q2 f2 => k v2 G2 H2 rl2 (x1.trans x2) q2 (f2.back x1)⟩
theorem we_cmp2 (hu : X.A.units + 65 < cLine) (op op' : Cop) (ha : PE X a (WE X.K cf io ea)) (hb : PE X b (WE X.K cf io eb)) (hc : PE X c (WE X.K cf io ec)) (hm : lastMarks [copOf op, copOf op'] [b, c] = false) :
    PE X (.Compare a [copOf op, copOf op'] [b, c] pos) (WE X.K cf io (.cmp2 op op' ea eb ec)) := by
  refine (pe_chain (op_cmp hu op) (op_cmp hu op') ha hb hc hm).wk fun σ H Q ⟨env, G, rl, rr, env', h, k⟩ => ?_
  simp only [evE, Option.bind_eq_some_iff] at h
  obtain ⟨⟨r1, e1⟩, h1, ⟨r2, e2⟩, h2, h3⟩ := h
  refine ⟨env, G, rl, r1, e1, h1, fun v1 G1 H1 rl1 x1 q1 f1 => ⟨e1, G1, rl1, r2, e2, h2, fun v2 G2 H2 rl2 x2 q2 f2 => ?_⟩⟩
  have q1 := q1.step x2
  split at h3
  · rename_i x y z1 z2
    have z1 : r1 = .v x .sh := z1
    have z2 : r2 = .v y .sh := z2
    subst z1 z2
    simp only [Option.bind_eq_some_iff] at h3
    obtain ⟨kb, h3, h4⟩ := h3
    refine ⟨G2, x, y, kb, rl2.gh, .inl q1, .inl q2, h3, kb, rfl, ?_⟩
    cases kb with
    | false =>
      cases h4
      exact k _ G2 H2 rl2 (x1.trans x2) (.bl _) fun z => by cases z
    | true =>
      simp only [if_true, Option.bind_eq_some_iff, Option.map_eq_some_iff, Prod.mk.injEq] at h4
      obtain ⟨⟨r3, e3⟩, h5, z, h6, k', h7, h8, h9⟩ := h4
      subst h8 h9
      refine ⟨e2, G2, rl2, r3, e3, h5, fun v3 G3 H3 rl3 x3 q3 f3 => ?_⟩
      exact ⟨G3, y, z, k', rl3.gh, .inl (q2.step x3), rd_ok rl3 q3 h6, h7, k _ G3 H3 rl3 ((x1.trans x2).trans x3) (.bl _) fun z => by cases z⟩
  · cases h3
theorem wt_cmp2 (hu : X.A.units + 65 < cLine) (op op' : Cop) (ha : PE X a (WE X.K cf io ea)) (hb : PE X b (WE X.K cf io eb)) (hc : PE X c (WE X.K cf io ec)) (hm : lastMarks [copOf op, copOf op'] [b, c] = false) :
    PT X (.Compare a [copOf op, copOf op'] [b, c] pos) (WT X.K cf io (.cmp2 op op' ea eb ec)) := by
  refine (pt_chain (op_cmp hu op) (op_cmp hu op') ha hb hc hm).wk fun σ H Q ⟨env, G, rl, rr, env', h, k⟩ => ?_
  simp only [evT, Option.bind_eq_some_iff] at h
  obtain ⟨⟨r1, e1⟩, h1, ⟨r2, e2⟩, h2, h3⟩ := h
  refine ⟨env, G, rl, r1, e1, h1, fun v1 G1 H1 rl1 x1 q1 f1 => ⟨e1, G1, rl1, r2, e2, h2, fun v2 G2 H2 rl2 x2 q2 f2 => ?_⟩⟩
  have q1 := q1.step x2
  split at h3
  · rename_i x y z1 z2
    have z1 : r1 = .v x .sh := z1
    have z2 : r2 = .v y .sh := z2
    subst z1 z2
    simp only [Option.bind_eq_some_iff] at h3
    obtain ⟨kb, h3, h4⟩ := h3
    refine ⟨G2, x, y, kb, rl2.gh, .inl q1, .inl q2, h3, kb, rfl, ?_⟩
    cases kb with
    | false =>
      cases h4
      exact ⟨_, rfl, k G2 H2 rl2 (x1.trans x2)⟩
    | true =>
      simp only [if_true, Option.bind_eq_some_iff, Option.map_eq_some_iff, Prod.mk.injEq] at h4
      obtain ⟨⟨r3, e3⟩, h5, z, h6, k', h7, h8, h9⟩ := h4
      subst h8 h9
      refine ⟨e2, G2, rl2, r3, e3, h5, fun v3 G3 H3 rl3 x3 q3 f3 => ?_⟩
      exact ⟨G3, y, z, k', rl3.gh, .inl (q2.step x3), rd_ok rl3 q3 h6, h7, _, rfl, k G3 H3 rl3 ((x1.trans x2).trans x3)⟩
  · cases h3
/-- a value as a test -/
theorem wt_tru {ir : E} (ha : PE X a (WE X.K cf io ir)) (he : ∀ whole, isTrue a X.env whole = (do let v ← whole; standAt a.pos; holding [v] (truthy v)))
    (hev : ∀ env b env', evT cf io ir env = some (b, env') → ∃ r d, evE cf io ir env = some (r, env') ∧ rd r env' = some d ∧ truD d = some b) : PT X a (WT X.K cf io ir) := by
  refine (pt_truth ha he).wk fun σ H Q ⟨env, G, rl, rr, env', h, k⟩ => ?_
  obtain ⟨r, d, h1, h2, h3⟩ := hev env rr env' h
  exact ⟨env, G, rl, r, env', h1, fun v1 G1 H1 rl1 x1 q1 f1 => ⟨rr, (rd_ok rl1 q1 h2).tru rl1.gh h3, k G1 H1 rl1 x1⟩⟩

/-! ### lists of expressions, displays -/
theorem ws_nil : PA X [] (WEs X.K cf io .nil) := pa_nil.wk fun σ H Q ⟨env, G, rl, rr, env', h, k⟩ => by
  simp only [evEs, Option.some.injEq, Prod.mk.injEq] at h
  obtain ⟨h1, h2⟩ := h
  subst h1 h2
  exact k [] G H rl .refl .nil
theorem ws_cons {es : List Expr} {ir : Es} (ha : PE X a (WE X.K cf io ea)) (hr : PA X es (WEs X.K cf io ir)) (hs : starEach (a :: es) X.env = (false, eval a X.env) :: starEach es X.env) : PA X (a :: es) (WEs X.K cf io (.cons ea ir)) := by
  refine (pa_cons ha hr hs).wk fun σ H Q ⟨env, G, rl, rr, env', h, k⟩ => ?_
  simp only [evEs, Option.bind_eq_some_iff, Option.map_eq_some_iff, Prod.mk.injEq] at h
  obtain ⟨⟨r1, e1⟩, h1, ⟨rs, e2⟩, h2, h3, h4⟩ := h
  subst h3 h4
  refine ⟨env, G, rl, r1, e1, h1, fun v1 G1 H1 rl1 x1 q1 f1 => ⟨e1, G1, rl1, rs, e2, h2, fun vs G2 H2 rl2 x2 q2 => ?_⟩⟩
  refine k _ G2 H2 rl2 (x1.trans x2) (.cons (q1.step x2) f1 (fun b ht hv z => ?_) (q2.back x1))
  have hb := q2.fresh z
  cases r1 with
  | s i => cases ht
  | v d f =>
    cases f <;> simp only [isTemp, reduceCtorEq] at ht
    obtain ⟨b', eb, _, o, _⟩ := q1
    rw [hv] at eb
    cases eb
    exact o.ne hb
theorem wd_nil : PA X [] (WEd X.K cf io .nil) := pa_nil.wk fun σ H Q ⟨env, G, rl, rr, env', h, k⟩ => by
  simp only [evEd, Option.some.injEq, Prod.mk.injEq] at h
  obtain ⟨h1, h2⟩ := h
  subst h1 h2
  exact k [] G H rl .refl .nil
theorem wd_cons {es : List Expr} {ir : Es} (ha : PE X a (WE X.K cf io ea)) (hr : PA X es (WEd X.K cf io ir)) (hs : starEach (a :: es) X.env = (false, eval a X.env) :: starEach es X.env) : PA X (a :: es) (WEd X.K cf io (.cons ea ir)) := by
  refine (pa_cons ha hr hs).wk fun σ H Q ⟨env, G, rl, rr, env', h, k⟩ => ?_
  simp only [evEd, Option.bind_eq_some_iff, Option.map_eq_some_iff, Prod.mk.injEq] at h
  obtain ⟨⟨r1, e1⟩, h1, ⟨rs, e2⟩, h2, h3, h4⟩ := h
  subst h3 h4
  refine ⟨env, G, rl, r1, e1, h1, fun v1 G1 H1 rl1 x1 q1 f1 => ⟨e1, G1, rl1, rs, e2, h2, fun vs G2 H2 rl2 x2 q2 => ?_⟩⟩
  refine k _ G2 H2 rl2 (x1.trans x2) (.cons (q1.step x2) f1 (fun b ht hv z => ?_) (q2.back x1))
  have hb := q2.fresh z
  cases r1 with
  | s i => cases ht
  | v d f =>
    cases f <;> simp only [isTemp, reduceCtorEq] at ht
    obtain ⟨b', eb, _, o, _⟩ := q1
    rw [hv] at eb
    cases eb
    exact o.ne hb
theorem Rs.items {K : PySem.W.Frag} {H0 G H : Hp} {env : Env} {σ : L2.St} : ∀ {ds : List D} {xs : List V} {rs : List R} {vs : List V}, TrAll K G xs ds → Rs K H0 G H env σ rs vs → Rs K H0 G H env σ (ds.map (R.v · .sh) ++ rs) (xs ++ vs)
  | _, _, _, _, .nil, q => q
  | _, _, _, _, .cons a t, q => .cons a (fun z => by cases z) (fun _ z => by cases z) (Rs.items t q)
theorem wd_star {es : List Expr} {ir : Es} {p : Pos} (ha : PE X a (WE X.K cf io ea)) (hr : PA X es (WEd X.K cf io ir)) : PA X (.Starred a p :: es) (WEd X.K cf io (.star ea ir)) := by
  refine (StX.pa_star ha hr).wk fun σ H Q ⟨env, G, rl, rr, env', h, k⟩ => ?_
  simp only [evEd, Option.bind_eq_some_iff, Option.map_eq_some_iff, Prod.mk.injEq] at h
  obtain ⟨⟨r1, e1⟩, h1, x, h2, ds, h3, ⟨rs, e2⟩, h4, h5, h6⟩ := h
  subst h5 h6
  refine ⟨env, G, rl, r1, e1, h1, fun v1 G1 H1 rl1 x1 q1 f1 => ?_⟩
  have w1 := rd_ok rl1 q1 h2
  obtain ⟨c, xs, ev, r2, t2⟩ : ∃ c xs, v1 = V.ref c ∧ (SqT X.K H1 c xs ∨ SqL X.K H1 c xs) ∧ TrAll X.K G1 xs ds := by
    unfold starD at h3
    split at h3
    · cases h3
      obtain ⟨c, vs, rfl, r2, t2⟩ := w1.list rl1.gh
      exact ⟨c, vs, rfl, .inr r2, t2⟩
    · cases h3
      obtain ⟨c, vs, rfl, r2, t2⟩ := w1.tuple rl1.gh
      exact ⟨c, vs, rfl, .inl r2, t2⟩
    · cases h3
  exact ⟨c, xs, ev, r2, e1, G1, rl1, rs, e2, h4, fun vs G2 H2 rl2 x2 q2 => k _ G2 H2 rl2 (x1.trans x2) (.items (t2.mn x2.g) (q2.back x1))⟩
theorem we_tup {es : List Expr} {ir : Es} {n : Nat} (h : PA X es (WEd X.K cf io ir)) : PE X (.Tuple es n pos) (WE X.K cf io (.tup ir)) := by
  have hs : (sizeLine : Nat) = 16777216 := sizeLine_eq
  refine (pe_tup h).wk fun σ H Q ⟨env, G, rl, rr, env', h, k⟩ => ?_
  simp only [evE, Option.bind_eq_some_iff] at h
  obtain ⟨⟨rs, e1⟩, h1, ⟨ds, e2⟩, h2, h3⟩ := h
  obtain ⟨hc, h3⟩ := ite'_some h3
  have hc := of_decide_eq_true hc
  simp only [Option.some.injEq, Prod.mk.injEq] at h3
  obtain ⟨h4, h5⟩ := h3
  subst h4 h5
  refine ⟨env, G, rl, rs, e1, h1, fun vs G1 H1 rl1 x1 q1 => ?_⟩
  obtain ⟨G2, x2, rl2, t2, _⟩ := fzAll_ok x1 rl1 q1 h2
  refine ⟨by rw [t2.length, hs]; exact hc, fun p hp => ?_⟩
  have g := Grow.tup (vs := vs) rl2.gh hp
  exact k _ _ _ (rl2.grow g) (x2.trans (.grow g)) (Tr.newTup rl2.gh hp t2) fun z => by cases z
theorem we_lst {es : List Expr} {ir : Es} (h : PA X es (WEd X.K cf io ir)) : PE X (.List es pos) (WE X.K cf io (.lst ir)) := by
  have hs : (sizeLine : Nat) = 16777216 := sizeLine_eq
  refine (pe_lst h).wk fun σ H Q ⟨env, G, rl, rr, env', h, k⟩ => ?_
  simp only [evE, Option.bind_eq_some_iff] at h
  obtain ⟨⟨rs, e1⟩, h1, ⟨ds, e2⟩, h2, h3⟩ := h
  obtain ⟨hc, h3⟩ := ite'_some h3
  have hc := of_decide_eq_true hc
  simp only [Option.some.injEq, Prod.mk.injEq] at h3
  obtain ⟨h4, h5⟩ := h3
  subst h4 h5
  refine ⟨env, G, rl, rs, e1, h1, fun vs G1 H1 rl1 x1 q1 => ?_⟩
  obtain ⟨G2, x2, rl2, t2, _⟩ := fzAll_ok x1 rl1 q1 h2
  refine ⟨by rw [t2.length, hs]; exact hc, fun p hp => ?_⟩
  have g := Grow.own (o := .lst vs) rl2.gh hp
  have rs := (Res.newL (K := X.K) rl2.gh hp t2).rrel rl2 g
  exact k _ _ _ (rl2.grow g) (x2.trans (.grow g)) rs.1 (rs.2.back x2)
theorem we_dct : PE X (.Dict [] [] pos) (WE X.K cf io .dct) := by
  refine pe_dnewT.wk fun σ H Q ⟨env, G, rl, rr, env', h, k⟩ p hp => ?_
  simp only [evE, Option.some.injEq, Prod.mk.injEq] at h
  obtain ⟨h4, h5⟩ := h
  subst h4 h5
  have g := Grow.own (o := .dT []) rl.gh hp
  have rs : Res X.K G H (upd H p (.dT [])) (.ref p) (.dict []) .ow := ⟨p, rfl, hp, same_none rl.gh hp, .inl ⟨[], upd_same, .nil⟩⟩
  exact k _ _ _ (rl.grow g) (.grow g) (rs.rrel rl g).1 (rs.rrel rl g).2

theorem we_dctK : PE X (.Dict [] [] pos) (WE X.K cf io .dctK) := by
  refine pe_dnewK.wk fun σ H Q ⟨env, G, rl, rr, env', h, k⟩ p hp => ?_
  simp only [evE, Option.some.injEq, Prod.mk.injEq] at h
  obtain ⟨h4, h5⟩ := h
  subst h4 h5
  have g := Grow.own (o := .dK []) rl.gh hp
  have rs : Res X.K G H (upd H p (.dK [])) (.ref p) (.dict [mkD]) .ow := ⟨p, rfl, hp, same_none rl.gh hp, .inr ⟨[], [], rfl, upd_same, .nil⟩⟩
  exact k _ _ _ (rl.grow g) (.grow g) (rs.rrel rl g).1 (rs.rrel rl g).2
theorem we_dctK1 {a b : Expr} {kd vd : D} {kv vv : V} (ha : PE X a (tC kv)) (hb : PE X b (tC vv)) (tk : ∀ G, Tr X.K G kv kd) (tv : ∀ G, Tr X.K G vv vd) : PE X (.Dict [some a] [b] pos) (WE X.K cf io (.dctK1 kd vd)) := by
  refine (pe_disp (pps_cons ha hb pps_nil) rfl rfl (by simp) (by simp)).wk fun σ H Q ⟨env, G, rl, rr, env', h, k⟩ p hp => ?_
  simp only [evE, Option.bind_eq_some_iff] at h
  obtain ⟨kk, h1, h2⟩ := h
  obtain ⟨hf, h2⟩ := ite'_some h2
  simp only [Option.some.injEq, Prod.mk.injEq] at h2
  obtain ⟨h4, h5⟩ := h2
  subst h4 h5
  have ek : kv = kV kk := Vw.key (G := G) (H := H) (.inl (tk G)) h1
  refine ⟨upd_same, [(kk, vv)], by rw [ek]; rfl, by simp, ?_⟩
  have g := Grow.own (o := .dK [(kk, vv)]) rl.gh hp
  have e2 : upd (upd H p (.dK [])) p (.dK (mergeK [] [(kk, vv)])) = upd H p (.dK [(kk, vv)]) := by
    funext b
    by_cases hb : b = p
    · subst hb; rw [upd_same, upd_same]; rfl
    · rw [upd_ne hb, upd_ne hb, upd_ne hb]
  rw [e2]
  have rs : Res X.K G H (upd H p (.dK [(kk, vv)])) (.ref p) (.dict [mkD, (.tuple [kd], vd)]) .ow := ⟨p, rfl, hp, same_none rl.gh hp, .inr ⟨[(kk, vv)], [(.tuple [kd], vd)], rfl, upd_same, .cons (by simp [keysD, h1]) (tv G) .nil⟩⟩
  exact k _ _ _ (rl.grow g) (.grow g) (rs.rrel rl g).1 (rs.rrel rl g).2
theorem we_rev {a : Expr} {ea : E} {n : Nat} {p1 p2 p3 : Pos} (ha : PE X a (WE X.K cf io ea)) : PE X (.Subscript a (.Slice none none (some (.UnaryOp .USub (.Constant (.int 1) n p1) p2)) p3) pos) (WE X.K cf io (.rev ea)) := by
  refine (pe_revA ha).wk fun σ H Q ⟨env, G, rl, rr, env', h, k⟩ => ?_
  simp only [evE, Option.bind_eq_some_iff] at h
  obtain ⟨⟨r1, e1⟩, h1, x, h2, ⟨d, f⟩, h3, h4⟩ := h
  cases h4
  refine ⟨env, G, rl, r1, e1, h1, fun v1 G1 H1 rl1 x1 q1 f1 => ?_⟩
  have w1 := rd_ok rl1 q1 h2
  unfold revD at h3
  split at h3
  · cases h3
    obtain ⟨c, vs, rfl, r2, t2⟩ := w1.list rl1.gh
    refine ⟨c, vs, rfl, .inl ⟨r2, fun p hp => ?_⟩⟩
    have g := Grow.own (o := .lst vs.reverse) rl1.gh hp
    have rs := (Res.newL (K := X.K) rl1.gh hp t2.rev).rrel rl1 g
    exact k _ _ _ (rl1.grow g) (x1.trans (.grow g)) rs.1 (rs.2.back x1)
  · cases h3
    obtain ⟨c, vs, rfl, r2, t2⟩ := w1.tuple rl1.gh
    refine ⟨c, vs, rfl, .inr ⟨r2, fun p hp => ?_⟩⟩
    have g := Grow.tup (vs := vs.reverse) rl1.gh hp
    exact k _ _ _ (rl1.grow g) (x1.trans (.grow g)) (Tr.newTup rl1.gh hp t2.rev) fun z => by cases z
  · cases h3

/-! ### subscripts and parts -/
theorem wo_no : PO X none (WO X.K cf io .no) := ⟨fun pins s σ H Q I ⟨env, G, rl, o, env', h, k⟩ => by
  simp only [evEo, Option.some.injEq, Prod.mk.injEq] at h
  obtain ⟨h1, h2⟩ := h
  subst h1 h2
  exact po_none.run pins s σ H Q I (k G H rl .refl)⟩
theorem wo_yes (ha : PE X a (WE X.K cf io ea)) : PO X (some a) (WO X.K cf io (.yes ea)) := ⟨fun pins s σ H Q I ⟨env, G, rl, o, env', h, k⟩ => by
  simp only [evEo, Option.bind_eq_some_iff] at h
  obtain ⟨⟨r1, e1⟩, h1, h2⟩ := h
  refine (po_some ha).run pins s σ H Q I ⟨env, G, rl, r1, e1, h1, fun v1 G1 H1 rl1 x1 q1 f1 => ?_⟩
  cases r1 with
  | s i => cases h2
  | v d f =>
    cases d <;> simp only [reduceCtorEq, Option.some.injEq, Prod.mk.injEq] at h2
    rename_i i
    obtain ⟨h2, h3⟩ := h2
    subst h2 h3
    exact ⟨i, (rd_ok (r := .v (.int i) f) rl1 q1 rfl).int, k G1 H1 rl1 x1⟩⟩
theorem we_slc {lo hi : Option Expr} {el eh : Eo} {p2 : Pos} (ha : PE X a (WE X.K cf io ea)) (hl : PO X lo (WO X.K cf io el)) (hh : PO X hi (WO X.K cf io eh)) : PE X (.Subscript a (.Slice lo hi none p2) pos) (WE X.K cf io (.slc ea el eh)) := by
  refine (pe_slice sl_D ha hl hh).wk fun σ H Q ⟨env, G, rl, rr, env', h, k⟩ => ?_
  simp only [evE, Option.bind_eq_some_iff, val, Option.some.injEq, Prod.mk.injEq] at h
  obtain ⟨⟨r1, e1⟩, h1, ⟨l, e2⟩, h2, ⟨u, e3⟩, h3, x, h4, ⟨d, f⟩, h5, h6, h7⟩ := h
  subst h6 h7
  refine ⟨env, G, rl, r1, e1, h1, fun v1 G1 H1 rl1 x1 q1 f1 => ⟨e1, G1, rl1, l, e2, h2, fun G2 H2 rl2 x2 => ⟨e2, G2, rl2, u, e3, h3, fun G3 H3 rl3 x3 => ?_⟩⟩⟩
  have q3 := (q1.step x2).step x3
  have xx := (x1.trans x2).trans x3
  exact ⟨G3, x, d, f, rl3.gh, rd_ok rl3 q3 h4, h5, fun v G' H' g q => k v G' H' (rl3.grow g) (xx.trans (.grow g)) (q.rrel rl3 g).1 ((q.rrel rl3 g).2.back xx)⟩
end
end Ev


set_option Elab.async false
set_option linter.all false
set_option maxRecDepth 100000
set_option maxHeartbeats 1000000
/-! Soundness: names, built-in calls, methods, subscripts. -/
namespace Ev
open PySem PySem.Spec PyProof.Rows L2

section
variable {X : Cx}
theorem ix_D (hu : X.A.units + 1 < cLine) : IxR X (rIxD X.K) := by
  have hz : (sizeLine : Nat) = 16777216 := sizeLine_eq
  intro value slice pins s σ H x y v u Q I rx ry h hs
  obtain ⟨G, d1, d2, d, gh, w1, w2, e, q⟩ := h
  unfold ixD at e
  split at e
  · obtain ⟨a, vs, rfl, r1, t1⟩ := w1.list gh
    obtain ⟨z, e1, tz⟩ := t1.atI e
    exact ix_list value slice pins s σ H _ y v u Q I rx ry ⟨a, vs, _, z, rfl, w2.int, r1, e1, q z tz⟩ hs
  · obtain ⟨a, vs, rfl, r1, t1⟩ := w1.tuple gh
    obtain ⟨z, e1, tz⟩ := t1.atI e
    exact ix_tup value slice pins s σ H _ y v u Q I rx ry ⟨a, vs, _, z, rfl, w2.int, r1, e1, q z tz⟩ hs
  · split at e
    · rename_i hl
      rw [Option.map_eq_some_iff] at e
      obtain ⟨c, e1, e2⟩ := e
      subst e2
      exact ix_str value slice pins s σ H x y v u Q I rx ry ⟨_, _, c, w1.str, w2.int, by rw [hz]; exact hl, e1, q _ (.str _)⟩ hs
    · cases e
  · obtain ⟨a, z, rfl, g, tz⟩ := ixK_ok gh w1 w2 e
    have ev : v = Value.ref a := rx
    subst ev
    exact tail_any (dict_typeIs I g) PySem.F.slot_dict_getitem.lookup (d_getItem hu I g ry fun w' s' I' r' => ⟨z, H, I', r', q z tz⟩) hs
  · cases e
end

/-! ### what the text's global names are -/
def BLT : List Str := ["len", "list", "tuple", "abs", "int", "all", "any", "min", "max", "sum", "str", "isinstance", "range", "enumerate", "zip", "bool", "dict", "sorted", "set"]
/-- the addresses of the things that a callee may change -/
def IoA : List Bool → List V → List Addr
  | true :: ms, .ref a :: vs => a :: IoA ms vs
  | _ :: ms, _ :: vs => IoA ms vs
  | _, _ => []
def ArgsRel (K : PySem.W.Frag) (G H : Hp) : List Bool → List V → List D → Prop
  | [], [], [] => True
  | true :: ms, v :: vs, d :: ds => (∃ a, v = V.ref a ∧ G a = none ∧ Own K G H a d ∧ a ∉ IoA ms vs) ∧ ArgsRel K G H ms vs ds
  | false :: ms, v :: vs, d :: ds => Tr K G v d ∧ ArgsRel K G H ms vs ds
  | _, _, _ => False
structure Post (K : PySem.W.Frag) (as : List Addr) (G H G' H' : Hp) (v : V) (d : D) (fl : Fl) (outs : List D) : Prop where
  g : Same G G'
  gh : Same G' H'
  trk : ∀ a, H a ≠ none → H' a ≠ none
  far : ∀ a, H a ≠ none → G a = none → a ∉ as → H' a = H a ∧ G' a = none
  res : Res K G' H H' v d fl
  outs : Paired (fun a o => G' a = none ∧ Own K G' H' a o) as outs
/-- a function's promise: what the evaluator's run of it says -/
def SpF (K : PySem.W.Frag) (io : Nat → List Bool) (cf : CallF) (k : Nat) : Sp := fun vs H Q _ => ∃ G ds, Same G H ∧ ArgsRel K G H (io k) vs ds ∧ ∃ d fl outs, cf k ds = some (d, fl, outs) ∧
  ∀ v G' H', Post K (IoA (io k) vs) G H G' H' v d fl outs → Q v H'
structure GOk (P : Program) (w : World) (K : PySem.W.Frag) (mg : Str → Option Value) (base : Heap) (g : GC) (cf : CallF) (io : Nat → List Bool) (n : Nat) : Prop where
  cons : ∀ x d, g.cons.lookup x = some d → ∃ u v, mg x = some u ∧ RelV v u ∧ ∀ G, Tr K G v d
  blt : ∀ x ∈ BLT, g.fns.lookup x = none → mg x = none
  fns : ∀ x k, g.fns.lookup x = some k → ∃ (fa : Addr) (fd : FuncData) (ps : List Str), mg x = some (.ref fa) ∧ PySem.W.keepIn K (.ref fa) = true ∧ Binds K fd ps [] ∧ FnOk P w K mg base CX0 n fa fd ps (SpF K io cf k) ∧
    (∀ m ns perm, (x, m, ns, perm) ∈ g.kws → KBn K fd ps m ns (fun us ws => permL perm (us ++ ws)) (fun us ws => permL perm (us ++ ws)))
structure XOk (g : GC) (cf : CallF) (io : Nat → List Bool) (n : Nat) (s : SC) (X : Cx) : Prop where
  N : X.N = s.N
  sc : X.env.scope = s.sc
  fn : X.fn = s.fn
  nd : s.N.Nodup
  calm : X.calm = true
  room : Room n X.A
  glob : GOk X.prog X.w X.K X.mg X.base g cf io n
section
variable {g : GC} {cf : CallF} {io : Nat → List Bool} {n : Nat} {s : SC} {X : Cx}
theorem XOk.hu (h : XOk g cf io n s X) : X.A.units + 65 < cLine := by have := h.room.un; omega
theorem XOk.hu1 (h : XOk g cf io n s X) : X.A.units + 1 < cLine := by have := h.room.un; omega
theorem ixStr_ok : ∀ {N : List Str} {x : Str} {i : Nat}, ixStr N x = some i → N[i]? = some x
  | [], _, _, e => by cases e
  | y :: r, x, i, e => by
    simp only [ixStr] at e
    split at e
    · rename_i h
      cases e
      rw [h]; rfl
    · rw [Option.map_eq_some_iff] at e
      obtain ⟨j, e1, rfl⟩ := e
      rw [List.getElem?_cons_succ]
      exact ixStr_ok e1
theorem okName_ok {x : Str} (h : okName x = true) : (x == ("__debug__" : Str)) = false ∧ (x == ("__classdict__" : Str)) = false := by
  unfold okName at h
  simp only [Bool.and_eq_true, Bool.not_eq_true'] at h
  exact h
theorem XOk.slot (h : XOk g cf io n s X) {x : Str} {i : Nat} (e : slotOf s x = some i) : X.N[i]? = some x ∧ Vis X.env.scope x ∧ (x == ("__debug__" : Str)) = false ∧ (x == ("__classdict__" : Str)) = false := by
  unfold slotOf at e
  split at e
  · rename_i hv
    rw [Bool.and_eq_true] at hv
    refine ⟨by rw [h.N]; exact ixStr_ok e, ?_, okName_ok hv.2⟩
    have hv := hv.1
    unfold visB at hv
    rw [h.sc]
    unfold Vis
    split at hv <;> first | (rename_i q; simp [q]) | cases hv
  · cases e
theorem XOk.pv (h : XOk g cf io n s X) {x : Str} {i : Nat} {pos : Pos} (e : slotOf s x = some i) : PE X (.Name x pos) (tVar i) := by
  obtain ⟨h1, h2, h3, h4⟩ := h.slot e
  exact pe_var h1 h2 h3 h4
theorem XOk.gl (h : XOk g cf io n s X) {x : Str} (e : isGl s x = true) : Gl X x := by
  unfold isGl at e
  show X.env.kindOf x = _
  unfold Env.kindOf
  rw [h.sc]
  split at e <;> first | assumption | cases e
theorem we_var {i : Nat} {x : Str} {pos : Pos} (h : PE X (.Name x pos) (tVar i)) : PE X (.Name x pos) (WE X.K cf io (.var i)) := h.wk fun σ H Q ⟨env, G, rl, rr, env', he, k⟩ => by
  simp only [evE, Option.map_eq_some_iff, Prod.mk.injEq] at he
  obtain ⟨r, e1, e2, e3⟩ := he
  subst e2 e3
  unfold slotR at e1
  split at e1
  · rename_i d hs
    cases e1
    obtain ⟨v, ev, t⟩ := rl.sh i d hs
    exact ⟨v, ev, k v G H rl .refl t fun z => by cases z⟩
  · rename_i p hn hs
    cases e1
    obtain ⟨d, f⟩ := p
    have hf : f ≠ .sh := fun z => by subst z; exact hn d rfl
    obtain ⟨a, ev, _, _⟩ := rl.ow i d f hs hf
    exact ⟨_, ev, k _ G H rl .refl ⟨ev, d, f, hs⟩ fun z => by cases z⟩
  · cases e1
theorem we_cst {d : D} {v : V} {e : Expr} (h : PE X e (tC v)) (t : ∀ G, Tr X.K G v d) : PE X e (WE X.K cf io (.cst d)) := h.wk fun σ H Q ⟨env, G, rl, rr, env', he, k⟩ => by
  simp only [evE, Option.some.injEq, Prod.mk.injEq] at he
  obtain ⟨e1, e2⟩ := he
  subst e1 e2
  exact k v G H rl .refl (t G) fun z => by cases z
theorem toV_tr {K : PySem.W.Frag} {d : D} {v : V} (e : toV d = some v) (G : Hp) : Tr K G v d := by
  cases d <;> simp only [toV, Option.some.injEq, reduceCtorEq] at e <;> subst e
  · exact .non
  · exact .bl _
  · exact .int _
  · exact .str _
theorem se_const (c : Const) (k : Nat) (pos : Pos) : PE X (.Constant c k pos) (WE X.K cf io (cConst c)) := by
  cases c with
  | none => exact we_cst pe_non fun _ => .non
  | bool b => exact we_cst pe_bl fun _ => .bl b
  | int i => exact we_cst pe_int fun _ => .int i
  | str z => exact we_cst pe_str fun _ => .str z
  | float _ => exact we_bad
  | complex _ _ => exact we_bad
  | bytes _ => exact we_bad
  | ellipsis => exact we_bad
theorem se_name (h : XOk g cf io n s X) (x : Str) (pos : Pos) : PE X (.Name x pos) (WE X.K cf io (cName g s x)) := by
  unfold cName
  split
  · rename_i i e
    exact we_var (h.pv e)
  · split
    · rename_i hg
      rw [Bool.and_eq_true] at hg
      split
      · rename_i d e
        obtain ⟨u, v, e1, r, e2⟩ := h.glob.cons x d e
        exact we_cst (pe_glob (h.gl hg.1) e1 r (okName_ok hg.2).1) e2
      · exact we_bad
    · exact we_bad

/-! ### subscripts -/
theorem we_ix {a i : Expr} {ea ei : E} {pos : Pos} (hu : X.A.units + 1 < cLine) (ha : PE X a (WE X.K cf io ea)) (hi : PE X i (WE X.K cf io ei)) (hs : PlainIx i) : PE X (.Subscript a i pos) (WE X.K cf io (.ix ea ei)) := by
  refine we_two (pe_ix (ix_D hu) ha hi hs) fun env rr env' h => ?_
  simp only [evE, Option.bind_eq_some_iff, Option.map_eq_some_iff, Prod.mk.injEq] at h
  obtain ⟨⟨r1, e1⟩, h1, ⟨r2, e2⟩, h2, x, h3, y, h4, d, h5, h6, h7⟩ := h
  subst h6 h7
  exact ⟨r1, e1, r2, e2, h1, h2, fun σ H G v1 v2 rl q1 q2 Q k => ⟨G, x, y, d, rl.gh, rd_ok rl q1 h3, rd_ok rl q2 h4, h5, fun v t => k v G H rl .refl t fun z => by cases z⟩⟩

/-! ### built-in functions -/
theorem we_blt {b : Blt} {es : List Expr} {ir : Es} {e : Expr} {r : TA → TE} (hr : ∀ t, PA X es t → PE X e (tCB (rnD X.K (bltD b)) t)) (h : PA X es (WEs X.K cf io ir)) : PE X e (WE X.K cf io (.blt b ir)) := by
  refine (hr _ h).wk fun σ H Q ⟨env, G, rl, rr, env', he, k⟩ => ?_
  simp only [evE, Option.bind_eq_some_iff, val, Option.some.injEq, Prod.mk.injEq] at he
  obtain ⟨⟨rs, e1⟩, h1, ds, h2, ⟨d, f⟩, h3, h4, h5⟩ := he
  subst h4 h5
  refine ⟨env, G, rl, rs, e1, h1, fun vs G1 H1 rl1 x1 q1 => ?_⟩
  exact ⟨G1, ds, d, f, rl1.gh, rdAll_ok rl1 q1 h2, h3, fun v G' H' g q => k v G' H' (rl1.grow g) (x1.trans (.grow g)) (q.rrel rl1 g).1 ((q.rrel rl1 g).2.back x1)⟩
theorem pe_bltAny {b : Blt} {x : Str} {e : Expr} {es : List Expr} {t : TA} {p pos : Pos} (hc : X.calm = true) (hg : Gl X x) (hm : X.mg x = none) (hv : bootBuiltins x = some (bltIs b)) (ha : PA X (e :: es) t) (hn : x ≠ "__name__") (hdb : (x == ("__debug__" : Str)) = false)
    (he : starEach (e :: es) X.env = (false, eval e X.env) :: starEach es X.env) (hpl : (backTo pos (starEach es X.env)).any (·.1) = false) : PE X (.Call (.Name x p) (e :: es) [] pos) (tCB (rnD X.K (bltD b)) t) := by
  have hr := cr_blt (X := X) hc b
  cases b <;> first
    | exact pe_callB hr hg hm hv ha hn hdb he hpl
    | exact pe_callTy hr hg hm hv ha hn hdb he hpl

theorem evEs_one {ir : E} {env : Env} {rs : List R} {e2 : Env} (h : evEs cf io (.cons ir .nil) env = some (rs, e2)) : ∃ r, evE cf io ir env = some (r, e2) ∧ rs = [r] := by
  simp only [evEs, Option.bind_eq_some_iff, Option.map_eq_some_iff] at h
  obtain ⟨⟨r1, e1⟩, h1, ⟨rs0, e3⟩, h2, h3⟩ := h
  cases h2
  cases h3
  exact ⟨r1, h1, rfl⟩
/-! ### methods of texts -/
theorem we_mth {m : Mth} {o a : Expr} {eo ea : E} {e : Expr} (hr : ∀ to te, PE X o to → PE X a te → PE X e (tM1 (rMth X.K m) to te)) (ho : PE X o (WE X.K cf io eo)) (ha : PE X a (WE X.K cf io ea)) : PE X e (WE X.K cf io (.mth m eo (.cons ea .nil))) := by
  refine (hr _ _ ho ha).wk fun σ H Q ⟨env, G, rl, rr, env', he, k⟩ => ?_
  simp only [evE, Option.bind_eq_some_iff] at he
  obtain ⟨⟨r1, e1⟩, h1, he⟩ := he
  refine ⟨env, G, rl, r1, e1, h1, fun v1 G1 H1 rl1 x1 q1 f1 => ?_⟩
  split at he
  · rename_i z hz
    have hz : r1 = .v (.str z) .sh := hz
    subst hz
    simp only [Option.bind_eq_some_iff, val, Option.some.injEq, Prod.mk.injEq] at he
    obtain ⟨⟨rs, e2'⟩, h0, ds, h4, ⟨d, f⟩, h5, h10, h11⟩ := he
    obtain ⟨r2, h2, h6⟩ := evEs_one h0
    subst h10 h11 h6
    have hv1 : v1 = .str z := by cases q1; rfl
    refine ⟨⟨z, hv1⟩, e1, G1, rl1, r2, e2', h2, fun v2 G2 H2 rl2 x2 q2 f2 => ?_⟩
    have hr : Rs X.K H2 G2 H2 e2' σ [r2] [v2] → Paired (Vw X.K G2 H2) [v2] ds := fun z => rdAll_ok rl2 z h4
    have w2 : Paired (Vw X.K G2 H2) [v2] ds := by
      simp only [rdAll, Option.bind_eq_some_iff, Option.map_eq_some_iff] at h4
      obtain ⟨d2, h4, ds', h6, h7⟩ := h4
      cases h6
      subst h7
      exact .cons (rd_ok rl2 q2 h4) .nil
    exact ⟨G2, .str z, ds, d, f, rl2.gh, .inl (by rw [hv1]; exact .str z), w2, h5, fun v G' H' g q => k v G' H' (rl2.grow g) ((x1.trans x2).trans (.grow g)) (q.rrel rl2 g).1 ((q.rrel rl2 g).2.back (x1.trans x2))⟩
  · cases he
end
end Ev


set_option Elab.async false
set_option linter.all false
set_option maxRecDepth 100000
set_option maxHeartbeats 1000000
/-! Soundness: sorted(xs), sorted(set(xs)), len(set(xs)). -/
namespace Ev
open PySem PySem.Spec PyProof.Rows L2
theorem keysD_eq : ∀ {l : List D} {k : List Key}, keysD l = some k → l = k.map keyDt
  | [], k, h => by cases h; rfl
  | d :: l, k, h => by
    simp only [keysD] at h
    split at h
    · rename_i x y h1 h2
      cases h
      rw [List.map_cons, ← keysD_eq h2]
      congr 1
      cases d <;> simp only [keyD, Option.some.injEq, reduceCtorEq] at h1 <;> subst h1 <;> rfl
    · cases h
theorem ktupsD_eq : ∀ {l : List D} {k : List (List Key)}, ktupsD l = some k → l = k.map tupD
  | [], k, h => by cases h; rfl
  | d :: l, k, h => by
    cases d with
    | tuple t =>
      simp only [ktupsD] at h
      split at h
      · rename_i x y h1 h2
        cases h
        rw [List.map_cons, ← ktupsD_eq h2, tupD, ← keysD_eq h1]
      · cases h
    | _ => simp only [ktupsD, reduceCtorEq] at h
section
variable {X : Cx}
def rSetA (X : Cx) : List V → Hp → VK → Prop := fun vs H Q => rSetS X vs H Q ∨ rSetU X vs H Q
def rSrtA (X : Cx) : List V → Hp → VK → Prop := fun vs H Q => rSrtS X vs H Q ∨ rSrtU X vs H Q
def rLenA (X : Cx) : List V → Hp → VK → Prop := fun vs H Q => (∃ (a : Addr) (L : List Str), vs = [V.ref a] ∧ H a = some (TxSetO X.w a L) ∧ Q (.int L.length) H) ∨
  ∃ (G : Hp) (a : Addr) (Dl : List (List Key)), vs = [V.ref a] ∧ H a = some (USetO X.prog X.w (CTr X G) a Dl) ∧ Q (.int Dl.length) H
theorem cr_setA (hc : X.calm = true) (hu : X.A.units + 65 < cLine) : CallR X (.type "set") (rSetA X) := by
  intro pins s σ H vs us Q I r h
  rcases h with h | h
  · exact cr_setS hc pins s σ H vs us Q I r h
  · exact cr_setU hc hu pins s σ H vs us Q I r h
theorem cr_srtA (hc : X.calm = true) (hu : X.A.units + 65 < cLine) : CallR X (.builtin "sorted") (rSrtA X) := by
  intro pins s σ H vs us Q I r h
  rcases h with h | h
  · exact cr_srtS hc hu pins s σ H vs us Q I r h
  · exact cr_srtU hc hu pins s σ H vs us Q I r h
theorem cr_lenA : CallR X (.builtin "len") (rLenA X) := by
  intro pins s σ H vs us Q I r h
  have big : (scanBound : Int) < 2 ^ 63 := by decide
  rcases h with ⟨a, L, rfl, ha, q⟩ | ⟨G, a, L, rfl, ha, q⟩
  · rw [Vals.ref1 r]
    have T := tsetO_get I ha
    obtain ⟨⟨o, es, ep, t, ho, hx, hd, g, pm, hb, hf, hr, hl⟩, nd⟩ := T
    have z : es.size = L.length := by
      have := pm.length_eq
      rwa [List.length_map, Array.length_toList] at this
    exact call_len_set ho hx hd hf (by have := hb; omega) ⟨.int L.length, H, I.tok _, ⟨_, by rw [z]⟩, q⟩
  · rw [Vals.ref1 r]
    have T : USo X.prog X.w (CTr X G) s.heap a L := (I.hok a _ ha).1
    obtain ⟨M, es, ep, t, ⟨o, ho, hx, hd⟩, hr, hf, ris, led, few, pm, hc⟩ := T
    have z : es.size = L.length := by
      have := pm.length_eq
      rw [List.length_map] at this
      rw [urows_len hr, this]
    have := urows_len hr
    exact call_len_set ho hx hd hf (by omega) ⟨.int L.length, H, I.tok _, ⟨_, by rw [z]⟩, q⟩
theorem grow_two {G H : Hp} (h : Same G H) {p p2 : Addr} {o o2 : HO} (e : H p = none) (e2 : upd H p o p2 = none) : Grow G H G (upd (upd H p o) p2 o2) ∧ H p2 = none := by
  have ne : p2 ≠ p := fun z => by rw [z, upd_same] at e2; cases e2
  rw [upd_ne ne] at e2
  have k : Same H (upd (upd H p o) p2 o2) := (same_upd e).trans (same_upd (by rw [upd_ne ne]; exact e2))
  exact ⟨⟨Same.refl _, h.trans k, k, fun _ _ g => g⟩, e2⟩
variable {cf : CallF} {io : Nat → List Bool} {a : Expr} {ea : E}
/-- what set(xs) makes, told on -/
theorem set_made {G H : Hp} {v : V} {ds : List D} (gh : Same G H) (w : Vw X.K G H v (.list ds)) {Q : VK}
    (h1 : ∀ ss p, strsD ds = some ss → ss.length < 4000 → H p = none → Q (.ref p) (upd H p (TxSetO X.w p (DedS ss)))) (h2 : ∀ ks p, strsD ds = none → ktupsD ds = some ks → ks.length < 63 → H p = none → Q (.ref p) (upd H p (USetO X.prog X.w (CTr X G) p (DedS ks))))
    (c : (∃ ss, strsD ds = some ss ∧ ss.length < 4000) ∨ strsD ds = none ∧ ∃ ks, ktupsD ds = some ks ∧ ks.length < 63) : rSetA X [v] H Q := by
  obtain ⟨l, vs, rfl, r1, t1⟩ := w.list gh
  rcases c with ⟨ss, e, z⟩ | ⟨e0, ks, e, z⟩
  · rw [t1.strs e] at r1
    exact .inl ⟨l, ss, rfl, r1, (by show ss.length + 1 < 4096; omega), fun p hp => h1 ss p e z hp⟩
  · have e' := ktupsD_eq e
    subst e'
    exact .inr ⟨G, l, vs, ks, gh, rfl, r1, t1, z, fun p hp => h2 ks p e0 e z hp⟩
theorem we_srt {p pos : Pos} (hu : X.A.units + 65 < cLine) (hg : Gl X "sorted") (hm : X.mg "sorted" = none) (ha : PE X a (WE X.K cf io ea))
    (hs : starEach [a] X.env = (false, eval a X.env) :: starEach [] X.env) : PE X (.Call (.Name "sorted" p) [a] [] pos) (WE X.K cf io (.srt ea)) := by
  refine (pe_callB (cr_sortedD hu) hg hm (by decide +kernel) (pa_cons ha pa_nil hs) (by decide) (by decide +kernel) hs rfl).wk fun σ H Q ⟨env, G, rl, rr, env', he, k⟩ => ?_
  simp only [evE, Option.bind_eq_some_iff, val, Option.some.injEq, Prod.mk.injEq] at he
  obtain ⟨⟨r1, e1⟩, h1, x, h2, ⟨d, f⟩, h3, h4, h5⟩ := he
  subst h4 h5
  refine ⟨env, G, rl, r1, e1, h1, fun v1 G1 H1 rl1 x1 q1 f1 => ?_⟩
  exact ⟨G1, [x], d, f, rl1.gh, .cons (rd_ok rl1 q1 h2) .nil, h3, fun v G' H' g q => k v G' H' (rl1.grow g) (x1.trans (.grow g)) (q.rrel rl1 g).1 ((q.rrel rl1 g).2.back x1)⟩
theorem we_sset {p p2 pos pos2 : Pos} (hc : X.calm = true) (hu : X.A.units + 65 < cLine) (hg : Gl X "sorted") (hm : X.mg "sorted" = none) (hg2 : Gl X "set") (hm2 : X.mg "set" = none) (ha : PE X a (WE X.K cf io ea))
    (hs : starEach [a] X.env = (false, eval a X.env) :: starEach [] X.env) : PE X (.Call (.Name "sorted" p) [.Call (.Name "set" p2) [a] [] pos2] [] pos) (WE X.K cf io (.sset ea)) := by
  refine (pe_callB (cr_srtA hc hu) hg hm (by decide +kernel) (pa_cons (pe_callTy (cr_setA hc hu) hg2 hm2 (by decide +kernel) (pa_cons ha pa_nil hs) (by decide) (by decide +kernel) hs rfl) pa_nil rfl) (by decide) (by decide +kernel) rfl rfl).wk fun σ H Q ⟨env, G, rl, rr, env', he, k⟩ => ?_
  simp only [evE, Option.bind_eq_some_iff, val, Option.some.injEq, Prod.mk.injEq] at he
  obtain ⟨⟨r1, e1⟩, h1, x, h2, ⟨d, f⟩, h3, h4, h5⟩ := he
  subst h4 h5
  refine ⟨env, G, rl, r1, e1, h1, fun v1 G1 H1 rl1 x1 q1 f1 => ?_⟩
  have w := rd_ok rl1 q1 h2
  have gh := rl1.gh
  unfold ssetD at h3
  split at h3
  · rename_i ds
    refine set_made gh w (fun ss p e z hp => ?_) (fun ks p e0 e z hp => ?_) ?_
    · rw [e] at h3
      obtain ⟨_, h3⟩ := ite'_some h3
      cases h3
      refine .inl ⟨p, DedS ss, rfl, upd_same, fun p2 hp2 => ?_⟩
      obtain ⟨g, hn⟩ := grow_two (o2 := .lst ((srtS leS (DedS ss)).map V.str)) gh hp hp2
      have q : Res X.K G1 H1 (upd (upd H1 p (TxSetO X.w p (DedS ss))) p2 (.lst ((srtS leS (DedS ss)).map V.str))) (.ref p2) (.list ((srtS leS (DedS ss)).map .str)) .ow := ⟨p2, rfl, hn, same_none gh hn, _, upd_same, TrAll.ofStrs _⟩
      exact k _ G1 _ (rl1.grow g) (x1.trans (.grow g)) (q.rrel rl1 g).1 ((q.rrel rl1 g).2.back x1)
    · rw [e0, e] at h3
      obtain ⟨c, h3⟩ := ite'_some h3
      rw [Bool.and_eq_true] at c
      cases h3
      refine .inr ⟨G1, p, DedS ks, gh.trans (same_upd hp), rfl, upd_same, c.2, fun p2 xs hp2 ta => ?_⟩
      obtain ⟨g, hn⟩ := grow_two (o2 := .lst xs) gh hp hp2
      have q : Res X.K G1 H1 (upd (upd H1 p (USetO X.prog X.w (CTr X G1) p (DedS ks))) p2 (.lst xs)) (.ref p2) (.list ((srtS leT (DedS ks)).map tupD)) .ow := ⟨p2, rfl, hn, same_none gh hn, _, upd_same, ta⟩
      exact k _ G1 _ (rl1.grow g) (x1.trans (.grow g)) (q.rrel rl1 g).1 ((q.rrel rl1 g).2.back x1)
    · split at h3
      · rename_i ss e
        obtain ⟨c, _⟩ := ite'_some h3
        exact .inl ⟨ss, e, of_decide_eq_true c⟩
      · rename_i e0
        split at h3
        · rename_i ks e
          obtain ⟨c, _⟩ := ite'_some h3
          rw [Bool.and_eq_true] at c
          exact .inr ⟨e0, ks, e, of_decide_eq_true c.1⟩
        · cases h3
  · cases h3
theorem we_lset {p p2 pos pos2 : Pos} (hc : X.calm = true) (hu : X.A.units + 65 < cLine) (hg : Gl X "len") (hm : X.mg "len" = none) (hg2 : Gl X "set") (hm2 : X.mg "set" = none) (ha : PE X a (WE X.K cf io ea))
    (hs : starEach [a] X.env = (false, eval a X.env) :: starEach [] X.env) : PE X (.Call (.Name "len" p) [.Call (.Name "set" p2) [a] [] pos2] [] pos) (WE X.K cf io (.lset ea)) := by
  refine (pe_callB cr_lenA hg hm (by decide +kernel) (pa_cons (pe_callTy (cr_setA hc hu) hg2 hm2 (by decide +kernel) (pa_cons ha pa_nil hs) (by decide) (by decide +kernel) hs rfl) pa_nil rfl) (by decide) (by decide +kernel) rfl rfl).wk fun σ H Q ⟨env, G, rl, rr, env', he, k⟩ => ?_
  simp only [evE, Option.bind_eq_some_iff, val, Option.some.injEq, Prod.mk.injEq] at he
  obtain ⟨⟨r1, e1⟩, h1, x, h2, ⟨d, f⟩, h3, h4, h5⟩ := he
  subst h4 h5
  refine ⟨env, G, rl, r1, e1, h1, fun v1 G1 H1 rl1 x1 q1 f1 => ?_⟩
  have w := rd_ok rl1 q1 h2
  have gh := rl1.gh
  unfold lsetD at h3
  split at h3
  · rename_i ds
    refine set_made gh w (fun ss p e z hp => ?_) (fun ks p e0 e z hp => ?_) ?_
    · rw [e] at h3
      obtain ⟨_, h3⟩ := ite'_some h3
      cases h3
      refine .inl ⟨p, DedS ss, rfl, upd_same, ?_⟩
      exact k _ G1 _ (rl1.grow (Grow.own gh hp)) (x1.trans (.grow (Grow.own gh hp))) (.int _) fun z => by cases z
    · rw [e0, e] at h3
      obtain ⟨c, h3⟩ := ite'_some h3
      cases h3
      refine .inr ⟨G1, p, DedS ks, rfl, upd_same, ?_⟩
      exact k _ G1 _ (rl1.grow (Grow.own gh hp)) (x1.trans (.grow (Grow.own gh hp))) (.int _) fun z => by cases z
    · split at h3
      · rename_i ss e
        obtain ⟨c, _⟩ := ite'_some h3
        exact .inl ⟨ss, e, of_decide_eq_true c⟩
      · rename_i e0
        split at h3
        · rename_i ks e
          obtain ⟨c, _⟩ := ite'_some h3
          exact .inr ⟨e0, ks, e, of_decide_eq_true c⟩
        · cases h3
  · cases h3
end
end Ev


set_option Elab.async false
set_option linter.all false
set_option maxRecDepth 100000
set_option maxHeartbeats 1000000
/-! Soundness: calls of the text's own functions; pop; isinstance. -/
namespace Ev
open PySem PySem.Spec PyProof.Rows L2

section
variable {K : PySem.W.Frag} {σ : L2.St} {G H G1 H1 G2 H2 G3 : Hp} {env env1 env2 env3 : Env}
inductive IsR (env : Env) (σ : L2.St) : List (Option Nat) → List Addr → Prop
  | nil : IsR env σ [] []
  | tmp {a : Addr} {is : List (Option Nat)} {as : List Addr} : ¬ Owned env σ a → IsR env σ is as → IsR env σ (none :: is) (a :: as)
  | slot {i : Nat} {d : D} {f : Fl} {a : Addr} {is : List (Option Nat)} {as : List Addr} : env[i]? = some (some (d, f)) → f ≠ Fl.sh → σ[i]? = some (some (V.ref a)) → some i ∉ is → IsR env σ is as → IsR env σ (some i :: is) (a :: as)
theorem IsR.mem {a : Addr} : ∀ {is : List (Option Nat)} {as : List Addr}, IsR env σ is as → a ∈ as → ¬ Owned env σ a ∨ ∃ (i : Nat) (d : D) (f : Fl), some i ∈ is ∧ env[i]? = some (some (d, f)) ∧ f ≠ Fl.sh ∧ σ[i]? = some (some (V.ref a))
  | _, _, .nil, h => by cases h
  | _, _, .tmp n t, h => by
    rcases List.mem_cons.mp h with rfl | h
    · exact .inl n
    · rcases t.mem h with x | ⟨i, d, f, x⟩
      · exact .inl x
      · exact .inr ⟨i, d, f, List.mem_cons_of_mem _ x.1, x.2⟩
  | _, _, .slot (i := i) (d := d) (f := f) e1 e2 e3 n t, h => by
    rcases List.mem_cons.mp h with rfl | h
    · exact .inr ⟨i, d, f, List.mem_cons_self, e1, e2, e3⟩
    · rcases t.mem h with x | ⟨i, d, f, x⟩
      · exact .inl x
      · exact .inr ⟨i, d, f, List.mem_cons_of_mem _ x.1, x.2⟩
theorem IsR.mono : ∀ {is : List (Option Nat)} {as : List Addr}, IsR env σ is as → (∀ a, Owned env1 σ a → Owned env σ a) → (∀ (i : Nat) (d : D) (f : Fl), some i ∈ is → env[i]? = some (some (d, f)) → f ≠ Fl.sh → ∃ d' f', env1[i]? = some (some (d', f')) ∧ f' ≠ Fl.sh) → IsR env1 σ is as
  | _, _, .nil, _, _ => .nil
  | _, _, .tmp n t, o, s => .tmp (fun z => n (o _ z)) (t.mono o fun i d f h => s i d f (List.mem_cons_of_mem _ h))
  | _, _, .slot (i := i) (d := d) (f := f) e1 e2 e3 n t, o, s => by
    obtain ⟨d', f', h1, h2⟩ := s i d f List.mem_cons_self e1 e2
    exact .slot h1 h2 e3 n (t.mono o fun i d f h => s i d f (List.mem_cons_of_mem _ h))
theorem ArgsRel.mono : ∀ {ms : List Bool} {vs : List V} {ds : List D}, ArgsRel K G H ms vs ds → Same G G1 → (∀ a ∈ IoA ms vs, G1 a = none) → ArgsRel K G1 H ms vs ds
  | [], [], [], _, _, _ => True.intro
  | true :: ms, .ref a :: vs, d :: ds, ⟨⟨b, e, ga, o, n⟩, t⟩, gs, gn => by
    cases e
    exact ⟨⟨a, rfl, gn a (by simp [IoA]), o.mn gs rfl, n⟩, t.mono gs fun c hc => gn c (by simp [IoA, hc])⟩
  | false :: ms, v :: vs, d :: ds, ⟨x, t⟩, gs, gn => ⟨x.mn gs, t.mono gs fun c hc => gn c (by simpa [IoA] using hc)⟩
  | true :: ms, .non :: vs, d :: ds, ⟨⟨b, e, _⟩, t⟩, gs, gn => by cases e
  | true :: ms, .bl _ :: vs, d :: ds, ⟨⟨b, e, _⟩, t⟩, gs, gn => by cases e
  | true :: ms, .int _ :: vs, d :: ds, ⟨⟨b, e, _⟩, t⟩, gs, gn => by cases e
  | true :: ms, .str _ :: vs, d :: ds, ⟨⟨b, e, _⟩, t⟩, gs, gn => by cases e
  | true :: ms, .byt _ :: vs, d :: ds, ⟨⟨b, e, _⟩, t⟩, gs, gn => by cases e
  | true :: ms, .flt _ :: vs, d :: ds, ⟨⟨b, e, _⟩, t⟩, gs, gn => by cases e
  | true :: ms, .ty _ :: vs, d :: ds, ⟨⟨b, e, _⟩, t⟩, gs, gn => by cases e
structure AO (K : PySem.W.Frag) (σ : L2.St) (G H : Hp) (env : Env) (G1 H1 : Hp) (env1 : Env) (rs : List R) (vs : List V) (ms : List Bool) (ds : List D) (env2 : Env) (is : List (Option Nat)) (G2 : Hp) : Prop where
  ext : Ext σ G H env G2 H1 env2
  rel : Rel K G2 H1 env2 σ
  args : ArgsRel K G2 H1 ms vs ds
  isr : IsR env2 σ is (IoA ms vs)
  tmp : ∀ a ∈ IoA ms vs, Owned env2 σ a ∨ Tmp a rs vs
  gs : Same G1 G2
  gn : ∀ b, H1 b ≠ none → G1 b = none → ¬ Owned env1 σ b → ¬ Tmp b rs vs → G2 b = none
  ow : ∀ b, Owned env2 σ b → Owned env1 σ b
  sl : ∀ (i : Nat) (d' : D) (f' : Fl), env1[i]? = some (some (d', f')) → ∃ d'' f'', env2[i]? = some (some (d'', f''))
theorem fz_slot {r : R} {d : D} {i : Nat} {d0 : D} {f0 : Fl} (e : fz r env1 = some (d, env2)) (hi : r ≠ .s i) (h : env1[i]? = some (some (d0, f0))) : env2[i]? = some (some (d0, f0)) := by
  cases r with
  | v _ _ => cases e; exact h
  | s j =>
    simp only [fz] at e
    split at e
    · cases e
      rw [List.getElem?_set_ne (fun z => hi (by rw [z]))]
      exact h
    · cases e; exact h
    · cases e
theorem argsOf_ok {rs : List R} {vs : List V} (x : Ext σ G H env G1 H1 env1) (rl : Rel K G1 H1 env1 σ) (h : Rs K H G1 H1 env1 σ rs vs) :
    ∀ {ms : List Bool} {ds : List D} {env2 : Env} {is : List (Option Nat)}, argsOf ms rs env1 = some (ds, env2, is) → ∃ G2, AO K σ G H env G1 H1 env1 rs vs ms ds env2 is G2 := by
  induction h with
  | nil =>
    intro ms ds env2 is e
    cases ms with
    | nil =>
      simp only [argsOf, Option.some.injEq, Prod.mk.injEq] at e
      obtain ⟨e1, e2, e3⟩ := e
      subst e1 e2 e3
      exact ⟨G1, x, rl, True.intro, IsR.nil, (fun _ h => by cases h), Same.refl _, (fun _ _ g _ _ => g), (fun _ z => z), (fun _ _ _ z => ⟨_, _, z⟩)⟩
    | cons m ms => cases m <;> simp [argsOf] at e
  | @cons r v rs vs a f n t ih =>
    intro ms ds env2 is e
    cases ms with
    | nil => simp [argsOf] at e
    | cons m ms =>
      cases m with
      | false =>
        simp only [argsOf, Option.bind_eq_some_iff] at e
        obtain ⟨⟨ds1, e1, is1⟩, h1, h2⟩ := e
        simp only at h2
        split at h2
        · cases h2
        · rename_i hu
          simp only [Option.map_eq_some_iff, Prod.mk.injEq] at h2
          obtain ⟨⟨d, e2⟩, h2, h3, h4, h5⟩ := h2
          subst h3 h4 h5
          obtain ⟨G2, o⟩ := ih h1
          have a2 := a.keep o.gs (fun b hb gb nb ht hv => o.gn b hb gb nb (n b ht hv)) o.ow o.sl
          obtain ⟨G3, x3, rl3, t3, gs3, gn3, ow3, sl3⟩ := fz_ok o.ext o.rel a2 f h2
          have nu : ∀ i, some i ∈ is1 → r ≠ .s i := fun i hi z => by
            subst z
            apply hu
            simpa [usedBy] using hi
          have isr3 : IsR e2 σ is1 (IoA ms vs) := o.isr.mono ow3 fun i d' f' hi h hf => ⟨d', f', fz_slot h2 (nu i hi) h, hf⟩
          have gio : ∀ b ∈ IoA ms vs, G3 b = none := fun b hb => by
            rcases isr3.mem hb with nb | ⟨i, d', f', _, e1', e2', e3'⟩
            · by_cases ob : Owned e1 σ b
              · rcases o.isr.mem hb with q | ⟨i, d', f', hi, e1', e2', e3'⟩
                · exact absurd ob q
                · exact absurd ⟨i, d', f', fz_slot h2 (nu i hi) e1', e2', e3'⟩ nb
              · rcases o.tmp b hb with q | q
                · exact absurd q ob
                · have hG : G2 b = none := by
                    have := o.args
                    clear isr3 gn3 ow3 sl3
                    have key : ∀ (ms : List Bool) (vs : List V) (ds : List D), ArgsRel K G2 H1 ms vs ds → b ∈ IoA ms vs → G2 b = none ∧ H1 b ≠ none := by
                      intro ms
                      induction ms with
                      | nil => intro vs ds _ hb; cases vs <;> simp [IoA] at hb
                      | cons m ms ih =>
                        intro vs ds ha hb
                        cases vs with
                        | nil => simp [IoA] at hb
                        | cons v vs => cases ds with
                          | nil => cases m <;> exact ha.elim
                          | cons d ds => cases m with
                            | false => exact ih vs ds ha.2 (by simpa [IoA] using hb)
                            | true =>
                              obtain ⟨⟨c, ec, gc, oc, _⟩, ha⟩ := ha
                              subst ec
                              simp only [IoA, List.mem_cons] at hb
                              rcases hb with rfl | hb
                              · exact ⟨gc, oc.ne⟩
                              · exact ih vs ds ha hb
                    exact (key _ _ _ this hb).1
                  have hH : H1 b ≠ none := by
                    have key : ∀ (ms : List Bool) (vs : List V) (ds : List D), ArgsRel K G2 H1 ms vs ds → b ∈ IoA ms vs → H1 b ≠ none := by
                      intro ms
                      induction ms with
                      | nil => intro vs ds _ hb; cases vs <;> simp [IoA] at hb
                      | cons m ms ih =>
                        intro vs ds ha hb
                        cases vs with
                        | nil => simp [IoA] at hb
                        | cons v vs => cases ds with
                          | nil => cases m <;> exact ha.elim
                          | cons d ds => cases m with
                            | false => exact ih vs ds ha.2 (by simpa [IoA] using hb)
                            | true =>
                              obtain ⟨⟨c, ec, gc, oc, _⟩, ha⟩ := ha
                              subst ec
                              simp only [IoA, List.mem_cons] at hb
                              rcases hb with rfl | hb
                              · exact oc.ne
                              · exact ih vs ds ha hb
                    exact key _ _ _ o.args hb
                  exact gn3 b hH hG ob fun z => n b z.1 z.2 q
            · obtain ⟨b', eb, gb, _⟩ := rl3.ow i d' f' e1' e2'
              rw [e3'] at eb
              cases eb
              exact gb
          refine ⟨G3, x3, rl3, ⟨t3, o.args.mono gs3 gio⟩, isr3, fun b hb => ?_, o.gs.trans gs3, fun b hb gb nb nt => ?_, fun b z => o.ow b (ow3 b z), fun i d' f' z => ?_⟩
          · have hb : b ∈ IoA ms vs := by simpa [IoA] using hb
            rcases isr3.mem hb with nb | ⟨i, d', f', _, e1', e2', e3'⟩
            · rcases o.tmp b hb with q | q
              · rcases o.isr.mem hb with w | ⟨i, d', f', hi, e1', e2', e3'⟩
                · exact absurd q w
                · exact .inl ⟨i, d', f', fz_slot h2 (nu i hi) e1', e2', e3'⟩
              · exact .inr (.inr q)
            · exact .inl ⟨i, d', f', e1', e2', e3'⟩
          · exact gn3 b hb (o.gn b hb gb nb fun z => nt (.inr z)) (fun z => nb (o.ow b z)) fun z => nt (.inl z)
          · obtain ⟨d1, f1, z1⟩ := o.sl i d' f' z
            exact sl3 i d1 f1 z1
      | true =>
        cases r with
        | s i =>
          simp only [argsOf, Option.bind_eq_some_iff] at e
          obtain ⟨⟨ds1, e1, is1⟩, h1, h2⟩ := e
          obtain ⟨G2, o⟩ := ih h1
          simp only at h2
          split at h2
          · cases h2
          · rename_i d fl hn hs
            split at h2
            · cases h2
            · rename_i hc
              simp only [Option.some.injEq, Prod.mk.injEq] at h2
              obtain ⟨h3, h4, h5⟩ := h2
              subst h3 h4 h5
              have hf : fl ≠ .sh := fun z => by subst z; exact hn rfl
              obtain ⟨b, eb, gb, ob⟩ := o.rel.ow i d fl hs hf
              have ev : v = V.ref b := by
                have := a.1
                rw [eb] at this
                cases this; rfl
              subst ev
              have nb : b ∉ IoA ms vs := fun hb => by
                rcases o.isr.mem hb with q | ⟨j, d', f', hj, e1', e2', e3'⟩
                · exact q ⟨i, d, fl, hs, hf, eb⟩
                · have := o.rel.ap i j d d' fl f' b hs hf e1' e2' eb e3'
                  subst this
                  exact hc (by simpa using hj)
              refine ⟨G2, o.ext, o.rel, ⟨⟨b, rfl, gb, ob, nb⟩, o.args⟩, .slot hs hf eb (by simpa using hc) o.isr, fun c hc' => ?_, o.gs, fun c hc1 gc nc nt => o.gn c hc1 gc nc fun z => nt (.inr z), o.ow, o.sl⟩
              simp only [IoA, List.mem_cons] at hc'
              rcases hc' with rfl | hc'
              · exact .inl ⟨i, d, fl, hs, hf, eb⟩
              · rcases o.tmp c hc' with q | q
                · exact .inl q
                · exact .inr (.inr q)
          · cases h2
        | v d fl =>
          cases fl with
          | sh => simp [argsOf] at e
          | io => simp [argsOf] at e
          | ow =>
            simp only [argsOf, Option.bind_eq_some_iff, Option.some.injEq, Prod.mk.injEq] at e
            obtain ⟨⟨ds1, e1, is1⟩, h1, h3, h4, h5⟩ := e
            subst h3 h4 h5
            obtain ⟨G2, o⟩ := ih h1
            have a2 := a.keep o.gs (fun b hb gb nb ht hv => o.gn b hb gb nb (n b ht hv)) o.ow o.sl
            obtain ⟨b, ev, gb, ob, nob⟩ := a2
            subst ev
            have nb : b ∉ IoA ms vs := fun hb => by
              rcases o.tmp b hb with q | q
              · exact nob q
              · exact n b rfl rfl q
            refine ⟨G2, o.ext, o.rel, ⟨⟨b, rfl, gb, ob, nb⟩, o.args⟩, .tmp nob o.isr, fun c hc' => ?_, o.gs, fun c hc1 gc nc nt => o.gn c hc1 gc nc fun z => nt (.inr z), o.ow, o.sl⟩
            simp only [IoA, List.mem_cons] at hc'
            rcases hc' with rfl | hc'
            · exact .inr (.inl ⟨rfl, rfl⟩)
            · rcases o.tmp c hc' with q | q
              · exact .inl q
              · exact .inr (.inr q)
end
end Ev


set_option Elab.async false
set_option linter.all false
set_option maxRecDepth 100000
set_option maxHeartbeats 1000000
/-! Soundness: calls of the text's own functions; pop; isinstance. -/
namespace Ev
open PySem PySem.Spec PyProof.Rows L2

section
variable {K : PySem.W.Frag} {σ : L2.St} {G H G1 H1 G2 H2 G3 : Hp} {env env1 env2 env3 : Env}
theorem IsR.addr {i : Nat} {a : Addr} : ∀ {is : List (Option Nat)} {as : List Addr}, IsR env σ is as → some i ∈ is → σ[i]? = some (some (V.ref a)) → a ∈ as
  | _, _, .nil, h, _ => by cases h
  | _, _, .tmp n t, h, e => by
    rcases List.mem_cons.mp h with z | h
    · cases z
    · exact List.mem_cons_of_mem _ (t.addr h e)
  | _, _, .slot e1 e2 e3 n t, h, e => by
    rcases List.mem_cons.mp h with z | h
    · cases z
      rw [e] at e3
      cases e3
      exact List.mem_cons_self
    · exact List.mem_cons_of_mem _ (t.addr h e)
structure RelP (K : PySem.W.Frag) (G H : Hp) (env : Env) (σ : L2.St) (P : Nat → Prop) : Prop where
  len : env.length = σ.length
  gh : Same G H
  sh : ∀ (i : Nat) (d : D), env[i]? = some (some (d, Fl.sh)) → ∃ v, σ[i]? = some (some v) ∧ Tr K G v d
  ow : ∀ (i : Nat) (d : D) (f : Fl), env[i]? = some (some (d, f)) → f ≠ Fl.sh → ∃ a, σ[i]? = some (some (V.ref a)) ∧ G a = none ∧ (P i ∨ Own K G H a d)
  ap : ∀ (i j : Nat) (d d' : D) (f f' : Fl) (a : Addr), env[i]? = some (some (d, f)) → f ≠ Fl.sh → env[j]? = some (some (d', f')) → f' ≠ Fl.sh → σ[i]? = some (some (V.ref a)) → σ[j]? = some (some (V.ref a)) → i = j
structure SameSh (env env3 : Env) : Prop where
  len : env3.length = env.length
  no : ∀ (i : Nat), env[i]? = some none → env3[i]? = some none
  shs : ∀ (i : Nat) (d : D), env[i]? = some (some (d, Fl.sh)) → env3[i]? = some (some (d, Fl.sh))
  fl : ∀ (i : Nat) (d : D) (f : Fl), env[i]? = some (some (d, f)) → ∃ d', env3[i]? = some (some (d', f))
theorem SameSh.owned (s : SameSh env env3) {a : Addr} (h : Owned env3 σ a) : Owned env σ a := by
  obtain ⟨i, d, f, e1, e2, e3⟩ := h
  have hi : i < env3.length := (List.getElem?_eq_some_iff.mp e1).1
  have hi2 : i < env.length := by rw [← s.len]; exact hi
  have e0 := List.getElem?_eq_getElem hi2
  cases q : env[i] with
  | none =>
    rw [q] at e0
    rw [s.no i e0] at e1
    cases e1
  | some p =>
    obtain ⟨d0, f0⟩ := p
    rw [q] at e0
    obtain ⟨d', e4⟩ := s.fl i d0 f0 e0
    rw [e1] at e4
    cases e4
    exact ⟨i, d0, f, e0, e2, e3⟩
theorem putBack_ok : ∀ (is : List (Option Nat)) {as : List Addr} {outs : List D} {env env3 : Env}, IsR env σ is as → Paired (fun a o => G a = none ∧ Own K G H a o) as outs →
    RelP K G H env σ (fun i => some i ∈ is) → putBack is outs env = some env3 → Rel K G H env3 σ ∧ SameSh env env3 := by
  intro is
  induction is with
  | nil =>
    intro as outs env env3 h p r e
    cases h
    cases p
    simp only [putBack, Option.some.injEq] at e
    subst e
    exact ⟨⟨r.len, r.gh, r.sh, fun i d f h hf => by
      obtain ⟨a, e1, e2, e3⟩ := r.ow i d f h hf
      rcases e3 with e3 | e3
      · cases e3
      · exact ⟨a, e1, e2, e3⟩, r.ap⟩, ⟨rfl, fun _ h => h, fun _ _ h => h, fun _ d _ h => ⟨d, h⟩⟩⟩
  | cons x is ih =>
    intro as outs env env3 h p r e
    cases h with
    | tmp n t =>
      cases p with
      | cons p1 p =>
        simp only [putBack] at e
        refine ih t p ⟨r.len, r.gh, r.sh, fun i d f h hf => ?_, r.ap⟩ e
        obtain ⟨a, e1, e2, e3⟩ := r.ow i d f h hf
        exact ⟨a, e1, e2, by simpa using e3⟩
    | @slot i d f a _ as e1 e2 e3 n t =>
      cases p with
      | @cons _ o _ outs p1 p =>
        simp only [putBack, e1] at e
        have hi : i < env.length := (List.getElem?_eq_some_iff.mp e1).1
        have ne : ∀ j, some j ∈ is → i ≠ j := fun j hj z => by subst z; exact n hj
        have ow' : ∀ b, Owned (env.set i (some (o, f))) σ b → Owned env σ b := fun b ⟨j, d', f', h1, h2, h3⟩ => by
          by_cases hij : i = j
          · subst hij
            rw [List.getElem?_set_self hi] at h1
            cases h1
            exact ⟨i, d, f, e1, h2, h3⟩
          · rw [List.getElem?_set_ne hij] at h1
            exact ⟨j, d', f', h1, h2, h3⟩
        have t' : IsR (env.set i (some (o, f))) σ is as := t.mono ow' fun j d' f' hj h hf => ⟨d', f', by rw [List.getElem?_set_ne (ne j hj)]; exact h, hf⟩
        have r' : RelP K G H (env.set i (some (o, f))) σ (fun j => some j ∈ is) := by
          refine ⟨by rw [List.length_set]; exact r.len, r.gh, fun j d' h => ?_, fun j d' f' h hf => ?_, fun j k d1 d2 f1 f2 b h1 hf1 h2 hf2 q1 q2 => ?_⟩
          · by_cases hij : i = j
            · subst hij
              rw [List.getElem?_set_self hi] at h
              cases h
              exact absurd rfl e2
            · rw [List.getElem?_set_ne hij] at h
              exact r.sh j d' h
          · by_cases hij : i = j
            · subst hij
              rw [List.getElem?_set_self hi] at h
              cases h
              exact ⟨a, e3, p1.1, .inr p1.2⟩
            · rw [List.getElem?_set_ne hij] at h
              obtain ⟨b, q1, q2, q3⟩ := r.ow j d' f' h hf
              refine ⟨b, q1, q2, ?_⟩
              rcases q3 with q3 | q3
              · rcases List.mem_cons.mp q3 with z | z
                · exact absurd (Option.some.inj z).symm hij
                · exact .inl z
              · exact .inr q3
          · have g : ∀ (j : Nat) (d1 : D) (f1 : Fl), (env.set i (some (o, f)))[j]? = some (some (d1, f1)) → f1 ≠ Fl.sh → ∃ d1', env[j]? = some (some (d1', f1)) := fun j d1 f1 h hf => by
              by_cases hij : i = j
              · subst hij
                rw [List.getElem?_set_self hi] at h
                cases h
                exact ⟨d, e1⟩
              · rw [List.getElem?_set_ne hij] at h
                exact ⟨d1, h⟩
            obtain ⟨d1', g1⟩ := g j d1 f1 h1 hf1
            obtain ⟨d2', g2⟩ := g k d2 f2 h2 hf2
            exact r.ap j k d1' d2' f1 f2 b g1 hf1 g2 hf2 q1 q2
        obtain ⟨rl, ss⟩ := ih t' p r' e
        refine ⟨rl, ⟨by rw [ss.len, List.length_set], fun j h => ss.no j ?_, fun j d' h => ss.shs j d' ?_, fun j d' f' h => ?_⟩⟩
        · have hij : i ≠ j := fun z => by subst z; rw [e1] at h; cases h
          rw [List.getElem?_set_ne hij]; exact h
        · have hij : i ≠ j := fun z => by subst z; rw [e1] at h; cases h; exact e2 rfl
          rw [List.getElem?_set_ne hij]; exact h
        · by_cases hij : i = j
          · subst hij
            rw [e1] at h
            cases h
            exact ss.fl i o f (by rw [List.getElem?_set_self hi])
          · exact ss.fl j d' f' (by rw [List.getElem?_set_ne hij]; exact h)
theorem Paired.mem {α β : Type} {F : α → β → Prop} {a : α} : ∀ {as : List α} {bs : List β}, Paired F as bs → a ∈ as → ∃ b, F a b
  | _, _, .nil, h => by cases h
  | _, _, .cons p t, h => by
    rcases List.mem_cons.mp h with rfl | h
    · exact ⟨_, p⟩
    · exact Paired.mem t h
/-- behind a call -/
theorem call_ok {rs : List R} {vs : List V} {ms : List Bool} {ds : List D} {is : List (Option Nat)} {v : V} {d : D} {fl : Fl} {outs : List D} {G' H' : Hp} (o : AO K σ G H env G1 H1 env1 rs vs ms ds env2 is G2) (q : Rs K H G1 H1 env1 σ rs vs)
    (p : Post K (IoA ms vs) G2 H1 G' H' v d fl outs) (e : putBack is outs env2 = some env3) : Rel K G' H' env3 σ ∧ Ext σ G H env G' H' env3 ∧ RRel K G' H' env3 σ (.v d fl) v ∧ Fresh H (.v d fl) v := by
  have notio : ∀ (i : Nat) (d0 : D) (f0 : Fl) (a : Addr), some i ∉ is → env2[i]? = some (some (d0, f0)) → f0 ≠ Fl.sh → σ[i]? = some (some (V.ref a)) → a ∉ IoA ms vs := fun i d0 f0 a hi h hf hs hm => by
    rcases o.isr.mem hm with z | ⟨j, d', f', hj, e1', e2', e3'⟩
    · exact z ⟨i, d0, f0, h, hf, hs⟩
    · have := o.rel.ap i j d0 d' f0 f' a h hf e1' e2' hs e3'
      subst this
      exact hi hj
  have rp : RelP K G' H' env2 σ (fun i => some i ∈ is) := by
    refine ⟨o.rel.len, p.gh, fun i d h => ?_, fun i d0 f0 h hf => ?_, o.rel.ap⟩
    · obtain ⟨v', e1, t⟩ := o.rel.sh i d h
      exact ⟨v', e1, t.mn p.g⟩
    · obtain ⟨a, e1, ga, oa⟩ := o.rel.ow i d0 f0 h hf
      by_cases hi : some i ∈ is
      · obtain ⟨_, g', _⟩ := Paired.mem p.outs (o.isr.addr hi e1)
        exact ⟨a, e1, g', .inl hi⟩
      · obtain ⟨e2, g2⟩ := p.far a oa.ne ga (notio i d0 f0 a hi h hf e1)
        exact ⟨a, e1, g2, .inr (oa.mn p.g e2)⟩
  obtain ⟨rl, ss⟩ := putBack_ok is o.isr p.outs rp e
  have tmpio : ∀ b, H b ≠ none → ¬ Owned env σ b → b ∉ IoA ms vs := fun b hb nb hm => by
    rcases o.tmp b hm with z | z
    · exact nb (o.ext.owned z)
    · exact hb (q.fresh z)
  refine ⟨rl, ⟨o.ext.g.trans p.g, fun a h => p.trk a (o.ext.trk a h), fun b hb gb nb => ?_, by rw [ss.len]; exact o.ext.len, fun i h => ss.no i (o.ext.no i h), fun i d h => ss.shs i d (o.ext.shs i d h), fun i d h => ?_, fun i d h => ?_⟩, ?_⟩
  · obtain ⟨e1, g1⟩ := o.ext.far b hb gb nb
    obtain ⟨e2, g2⟩ := p.far b (by rw [e1]; exact hb) g1 (tmpio b hb nb)
    exact ⟨e2.trans e1, g2⟩
  · obtain ⟨d', f', h1, h2⟩ := o.ext.ows i d h
    obtain ⟨d'', h3⟩ := ss.fl i d' f' h1
    exact ⟨d'', f', h3, h2⟩
  · obtain ⟨d', h1⟩ := o.ext.ios i d h
    exact ss.fl i d' .io h1
  · have res := p.res
    cases fl with
    | sh => exact ⟨res, fun z => by cases z⟩
    | io => exact res.elim
    | ow =>
      obtain ⟨a, ea, ha, ga, oa⟩ := res
      refine ⟨⟨a, ea, ga, oa, fun z => ?_⟩, fun _ b eb => ?_⟩
      · obtain ⟨i, d0, f0, h1, h2, h3⟩ := ss.owned z
        obtain ⟨a', e4, _, o'⟩ := o.rel.ow i d0 f0 h1 h2
        rw [h3] at e4
        cases e4
        exact o'.ne ha
      · rw [ea] at eb
        cases eb
        cases q0 : H a with
        | none => rfl
        | some u => exact absurd ha (o.ext.trk a (by rw [q0]; simp))
end
section
variable {g : GC} {cf : CallF} {io : Nat → List Bool} {n : Nat} {s : SC} {X : Cx}
theorem we_call {x : Str} {k : Nat} {e : Expr} {es : List Expr} {ir : Es} {p pos : Pos} (h : XOk g cf io n s X) (hg : Gl X x) (hk : g.fns.lookup x = some k) (hdb : (x == ("__debug__" : Str)) = false) (ha : PA X (e :: es) (WEs X.K cf io ir))
    (he : starEach (e :: es) X.env = (false, eval e X.env) :: starEach es X.env) (hpl : (backTo pos (starEach es X.env)).any (·.1) = false) : PE X (.Call (.Name x p) (e :: es) [] pos) (WE X.K cf io (.call k ir)) := by
  obtain ⟨fa, fd, ps, hm, hkp, hb, F, kb⟩ := h.glob.fns x k hk
  refine (pe_call F h.room hg hm hkp hb .nil pass0 ha hdb he hpl).wk fun σ H Q ⟨env, G, rl, rr, env', hev, kk⟩ => ?_
  simp only [evE, Option.bind_eq_some_iff, Option.map_eq_some_iff, Prod.mk.injEq] at hev
  obtain ⟨⟨rs, e1⟩, h1, ⟨ds, e2, is⟩, h2, ⟨d, fl, outs⟩, h3, e3, h4, h5, h6⟩ := hev
  subst h5 h6
  refine ⟨env, G, rl, rs, e1, h1, fun vs G1 H1 rl1 x1 q1 => ?_⟩
  obtain ⟨G2, o⟩ := argsOf_ok x1 rl1 q1 h2
  rw [List.append_nil]
  refine ⟨G2, ds, o.rel.gh, o.args, d, fl, outs, h3, fun v G' H' p => ?_⟩
  obtain ⟨r1, r2, r3, r4⟩ := call_ok o q1 p h4
  exact kk v G' H' r1 r2 r3 r4
theorem we_call0 {x : Str} {k : Nat} {p pos : Pos} (h : XOk g cf io n s X) (hg : Gl X x) (hk : g.fns.lookup x = some k) (hdb : (x == ("__debug__" : Str)) = false) : PE X (.Call (.Name x p) [] [] pos) (WE X.K cf io (.call k .nil)) := by
  obtain ⟨fa, fd, ps, hm, hkp, hb, F, kb⟩ := h.glob.fns x k hk
  refine (pe_call0 F h.room hg hm hkp hb .nil pass0 hdb).wk fun σ H Q ⟨env, G, rl, rr, env', hev, kk⟩ => ?_
  simp only [evE, Option.bind_eq_some_iff, Option.map_eq_some_iff, Prod.mk.injEq] at hev
  obtain ⟨⟨rs, e1⟩, h1, ⟨ds, e2, is⟩, h2, ⟨d, fl, outs⟩, h3, e3, h4, h5, h6⟩ := hev
  subst h5 h6
  have h1' : rs = [] ∧ e1 = env := by
    simp only [evEs, Option.some.injEq, Prod.mk.injEq] at h1
    exact ⟨h1.1.symm, h1.2.symm⟩
  obtain ⟨z1, z2⟩ := h1'
  subst z1 z2
  obtain ⟨G2, o⟩ := argsOf_ok .refl rl .nil h2
  refine ⟨G2, ds, o.rel.gh, o.args, d, fl, outs, h3, fun v G' H' p => ?_⟩
  obtain ⟨r1, r2, r3, r4⟩ := call_ok o .nil p h4
  exact kk v G' H' r1 r2 r3 r4

/-! ### changing a list that a slot owns -/
theorem mut_ok {K : PySem.W.Frag} {σ : L2.St} {G H : Hp} {env : Env} {i : Nat} {d d' : D} {f : Fl} {a : Addr} {u : HO} (rl : Rel K G H env σ) (h : env[i]? = some (some (d, f))) (hf : f ≠ Fl.sh) (e : σ[i]? = some (some (V.ref a))) (ga : G a = none) (hn : H a ≠ none)
    (ho : Own K G (upd H a u) a d') : Rel K G (upd H a u) (env.set i (some (d', f))) σ ∧ Ext σ G H env G (upd H a u) (env.set i (some (d', f))) := by
  have hi : i < env.length := (List.getElem?_eq_some_iff.mp h).1
  refine ⟨⟨by rw [List.length_set]; exact rl.len, fun b o hb => ?_, fun j d0 hj => ?_, fun j d0 f0 hj hf0 => ?_, fun j k d1 d2 f1 f2 b h1 hf1 h2 hf2 q1 q2 => ?_⟩, Same.refl _, fun b hb => ?_, fun b hb gb nb => ?_, by rw [List.length_set], fun j hj => ?_, fun j d0 hj => ?_, fun j d0 hj => ?_, fun j d0 hj => ?_⟩
  · rw [upd_ne (ne_of_none hb ga)]
    exact rl.gh b o hb
  · by_cases hij : i = j
    · subst hij
      rw [List.getElem?_set_self hi] at hj
      cases hj
      exact absurd rfl hf
    · rw [List.getElem?_set_ne hij] at hj
      exact rl.sh j d0 hj
  · by_cases hij : i = j
    · subst hij
      rw [List.getElem?_set_self hi] at hj
      cases hj
      exact ⟨a, e, ga, ho⟩
    · rw [List.getElem?_set_ne hij] at hj
      obtain ⟨b, eb, gb, ob⟩ := rl.ow j d0 f0 hj hf0
      have hba : b ≠ a := fun z => by subst z; exact hij (rl.ap i j d d0 f f0 b h hf hj hf0 e eb)
      exact ⟨b, eb, gb, ob.mn (Same.refl _) (upd_ne hba)⟩
  · have g : ∀ (j : Nat) (d1 : D) (f1 : Fl), (env.set i (some (d', f)))[j]? = some (some (d1, f1)) → ∃ d1', env[j]? = some (some (d1', f1)) := fun j d1 f1 h0 => by
      by_cases hij : i = j
      · subst hij
        rw [List.getElem?_set_self hi] at h0
        cases h0
        exact ⟨d, h⟩
      · rw [List.getElem?_set_ne hij] at h0
        exact ⟨d1, h0⟩
    obtain ⟨d1', g1⟩ := g j d1 f1 h1
    obtain ⟨d2', g2⟩ := g k d2 f2 h2
    exact rl.ap j k d1' d2' f1 f2 b g1 hf1 g2 hf2 q1 q2
  · by_cases hba : b = a
    · subst hba; rw [upd_same]; simp
    · rw [upd_ne hba]; exact hb
  · have hba : b ≠ a := fun z => by subst z; exact nb ⟨i, d, f, h, hf, e⟩
    exact ⟨upd_ne hba, gb⟩
  · have hij : i ≠ j := fun z => by subst z; rw [h] at hj; cases hj
    rw [List.getElem?_set_ne hij]; exact hj
  · have hij : i ≠ j := fun z => by subst z; rw [h] at hj; cases hj; exact hf rfl
    rw [List.getElem?_set_ne hij]; exact hj
  · by_cases hij : i = j
    · subst hij
      rw [h] at hj
      cases hj
      rw [List.getElem?_set_self hi]
      exact ⟨_, _, rfl, by decide⟩
    · rw [List.getElem?_set_ne hij]; exact ⟨_, _, hj, by decide⟩
  · by_cases hij : i = j
    · subst hij
      rw [h] at hj
      cases hj
      rw [List.getElem?_set_self hi]
      exact ⟨_, rfl⟩
    · rw [List.getElem?_set_ne hij]; exact ⟨_, hj⟩
theorem ownL_ok {env : Env} {i : Nat} {xs : List D} {f : Fl} (h : ownL env i = some (xs, f)) : env[i]? = some (some (.list xs, f)) ∧ f ≠ Fl.sh := by
  unfold ownL at h
  split at h <;> first
    | (rename_i q; cases h; exact ⟨q, by decide⟩)
    | cases h
theorem ownK_ok {env : Env} {i : Nat} {xs : List (D × D)} {f : Fl} (h : ownK env i = some (xs, f)) : env[i]? = some (some (.dict xs, f)) ∧ f ≠ Fl.sh := by
  unfold ownK at h
  split at h <;> first
    | (rename_i q; cases h; exact ⟨q, by decide⟩)
    | cases h
theorem we_pop {o : Expr} {i : Nat} {apos cpos : Pos} (ho : PE X o (tVar i)) (hbase : attributeBase o "pop" X.env (eval o X.env) = eval o X.env) (hline : (apos.endLine == cpos.line) = true) : PE X (.Call (.Attribute o "pop" apos) [] [] cpos) (WE X.K cf io (.pop i)) := by
  refine (pe_bm0 PySem.F.plainAttrs_list PySem.F.slot_list_pop PySem.F.type_list_pop mt_pop ho hbase hline).wk fun σ H Q ⟨env, G, rl, rr, env', hev, k⟩ => ?_
  simp only [evE, Option.bind_eq_some_iff, Option.map_eq_some_iff, Prod.mk.injEq] at hev
  obtain ⟨⟨xs, f⟩, h1, y, h2, h3, h4⟩ := hev
  subst h3 h4
  obtain ⟨h1, hf⟩ := ownL_ok h1
  obtain ⟨a, e, ga, vs, hH, t⟩ := rl.ow i _ f h1 hf
  obtain ⟨v, e2, tv⟩ := t.get (xs.length - 1) h2
  have m := mut_ok (u := .lst vs.dropLast) (d' := .list xs.dropLast) rl h1 hf e ga (by rw [hH]; simp) ⟨_, upd_same, t.dropLast⟩
  exact ⟨_, e, .inl ⟨rfl, vs, .inl (.inl hH)⟩, a, vs, v, rfl, rfl, hH, by rw [t.length]; exact e2, k v G _ m.1 m.2 tv fun z => by cases z⟩
theorem we_popAt {o kx : Expr} {i : Nat} {ek : E} {apos cpos : Pos} (ho : PE X o (tVar i)) (hk : PE X kx (WE X.K cf io ek)) (hbase : attributeBase o "pop" X.env (eval o X.env) = eval o X.env)
    (hfew : ((backTo cpos (starEach [kx] X.env)).all (fun x => !x.1) && (backToKw cpos (keywordEach [] X.env)).all (fun x => x.1.isSome) && decide (([kx] : List Expr).length + ([] : List Keyword).length + (if ([] : List Keyword).isEmpty then 0 else 1) < 30)) = true)
    (hline : (apos.endLine == cpos.line) = true) (hs : starEach [kx] X.env = (false, eval kx X.env) :: starEach [] X.env) : PE X (.Call (.Attribute o "pop" apos) [kx] [] cpos) (WE X.K cf io (.popAt i ek)) := by
  refine (pe_bm PySem.F.plainAttrs_list PySem.F.slot_list_pop PySem.F.type_list_pop mt_popAt ho (pa_cons hk pa_nil hs) hbase hfew hline hs rfl).wk fun σ H Q ⟨env, G, rl, rr, env', hev, k⟩ => ?_
  simp only [evE, Option.bind_eq_some_iff] at hev
  obtain ⟨⟨xs0, f0⟩, h0, ⟨r1, e1⟩, h1, h2⟩ := hev
  obtain ⟨h0, hf0⟩ := ownL_ok h0
  obtain ⟨a, e, ga, vs0, hH0, t0⟩ := rl.ow i _ f0 h0 hf0
  refine ⟨_, e, .inl ⟨rfl, vs0, .inl (.inl hH0)⟩, env, G, rl, r1, e1, h1, fun v1 G1 H1 rl1 x1 q1 f1 => ?_⟩
  cases r1 with
  | s i => cases h2
  | v d f =>
    cases d <;> simp only [reduceCtorEq] at h2
    rename_i j
    obtain ⟨hfit, h2⟩ := ite'_some h2
    have hfit := of_decide_eq_true hfit
    simp only [Option.bind_eq_some_iff, Option.map_eq_some_iff, Prod.mk.injEq] at h2
    obtain ⟨⟨xs, f'⟩, h3, p, h4, y, h5, h6, h7⟩ := h2
    subst h6 h7
    obtain ⟨h3, hf⟩ := ownL_ok h3
    obtain ⟨a', e', ga', vs, hH, t⟩ := rl1.ow i _ f' h3 hf
    rw [e] at e'
    cases e'
    have vj := (rd_ok (r := .v (.int j) f) rl1 q1 rfl).int
    obtain ⟨v, e2, tv⟩ := t.get p h5
    obtain ⟨b1, b2, b3, b4⟩ := ixN_seq h4
    have m := mut_ok (u := .lst (vs.eraseIdx p)) (d' := .list (xs.eraseIdx p)) rl1 h3 hf e ga' (by rw [hH]; simp) ⟨_, upd_same, t.eraseIdx p⟩
    refine ⟨a, vs, j, p, v, rfl, by rw [vj], hH, ?_, ?_, by rw [t.length]; exact b1, e2, k v G1 _ m.1 (x1.trans m.2) tv fun z => by cases z⟩
    · have := hfit.1; omega
    · have := hfit.2; omega

/-! ### isinstance -/
def tyStr : Ty → Str
  | .list => "list"
  | .tuple => "tuple"
  | .str => "str"
  | .bool => "bool"
  | .int => "int"
  | .dict => "dict"
def tyName : Ty → String
  | .list => "list"
  | .tuple => "tuple"
  | .str => "str"
  | .bool => "bool"
  | .int => "int"
  | .dict => "dict"
def kindName : D → String
  | .none => "NoneType"
  | .bool _ => "bool"
  | .int _ => "int"
  | .str _ => "str"
  | .list _ => "list"
  | .tuple _ => "tuple"
  | .dict _ => "dict"
theorem boot_ty (t : Ty) : bootBuiltins (tyStr t) = some (.type (tyName t)) := by cases t <;> decide +kernel
theorem kind_ty (d : D) (t : Ty) : kitB (kindName d) (tyName t) = some (tyD d t) := by
  cases d <;> cases t <;> (simp only [kindName, tyName, tyD]; decide +kernel)
theorem kind_tys {K : PySem.W.Frag} (d : D) : ∀ ts : List Ty, PySem.W.kitAny K (.type (kindName d)) (ts.map fun t => Value.type (tyName t)) = some (isiD d ts)
  | [] => kitAny_nil
  | t :: ts => by
    rw [List.map_cons]
    refine kitAny_cons (b := tyD d t) (kit_ty (kind_ty d t)) (fun h => ?_) fun h => ?_
    · rw [kind_tys d ts]
      simp [isiD, h]
    · simp [isiD, h]
theorem Vw.keep {K : PySem.W.Frag} {G H H' : Hp} {v : V} {d : D} (h : Same H H') (w : Vw K G H v d) : Vw K G H' v d := by
  rcases w with w | ⟨a, e, o⟩
  · exact .inl w
  · refine .inr ⟨a, e, ?_⟩
    cases q : H a with
    | none => exact absurd q o.ne
    | some u => exact o.mn (Same.refl _) (by rw [q, h a u q])
theorem Vw.ty {K : PySem.W.Frag} {G H : Hp} {v : V} {d : D} (gh : Same G H) (w : Vw K G H v d) : ∃ T, T = kindName d ∧ TyX K H v (.type T) := by
  cases d with
  | none => rw [w.none]; exact ⟨_, rfl, .base .non⟩
  | bool b => rw [w.bool]; exact ⟨_, rfl, .base (.bl b)⟩
  | int i => rw [w.int]; exact ⟨_, rfl, .base (.int i)⟩
  | str x => rw [w.str]; exact ⟨_, rfl, .base (.str x)⟩
  | list ds =>
    obtain ⟨a, vs, rfl, r1, t1⟩ := w.list gh
    rcases r1 with (r1 | ⟨o, r1⟩) | ⟨o, its, n, hk, hc, _⟩
    · exact ⟨_, rfl, .base (.lst r1)⟩
    · exact ⟨_, rfl, .base (.frz r1)⟩
    · exact ⟨_, rfl, .kList hk hc⟩
  | tuple ds =>
    obtain ⟨a, vs, rfl, r1, t1⟩ := w.tuple gh
    rcases r1 with (r1 | ⟨o, r1⟩) | ⟨o, its, n, hk, hc, _⟩
    · exact ⟨_, rfl, .base (.tup r1)⟩
    · exact ⟨_, rfl, .fTuple r1⟩
    · exact ⟨_, rfl, .kTuple hk hc⟩
  | dict kvs =>
    rcases w with w | ⟨a, rfl, ⟨ks, e, t⟩ | ⟨ks, r, e0, e, t⟩⟩
    · cases w with
      | dct r t => exact ⟨_, rfl, .base (.dT (gh _ _ r))⟩
      | dck r t => exact ⟨_, rfl, .base (.dK (gh _ _ r))⟩
    · exact ⟨_, rfl, .base (.dT e)⟩
    · exact ⟨_, rfl, .base (.dK e)⟩
def tTys (ts : List Ty) : TA := fun _ H Q => Q (ts.map fun t => V.ty (tyName t)) H
theorem cTy_ok {x : Str} {t : Ty} (h : cTy x = some t) : x = tyStr t := by
  unfold cTy at h
  repeat' (split at h)
  all_goals first | (cases h; assumption) | cases h
theorem tyIn (t : Ty) : tyStr t ∈ BLT := by cases t <;> decide +kernel
end
section
variable {g : GC} {cf : CallF} {io : Nat → List Bool} {n : Nat} {s : SC} {X : Cx}
theorem cTyE_ok {e : Expr} {t : Ty} (h : XOk g cf io n s X) (hf : ∀ t, g.fns.lookup (tyStr t) = none) (e1 : cTyE s e = some t) : PE X e (tC (.ty (tyName t))) ∧ isStar e = false := by
  cases e <;> simp only [cTyE, reduceCtorEq] at e1
  rename_i x p
  split at e1
  · rename_i hg
    have := cTy_ok e1
    subst this
    refine ⟨pe_bltn (h.gl hg) (h.glob.blt _ (tyIn t) (hf t)) (boot_ty t) rfl ?_ ?_, rfl⟩
    · cases t <;> decide
    · cases t <;> decide
  · cases e1
theorem star_cons {e : Expr} {es : List Expr} {env : PySem.Env} (h : isStar e = false) : starEach (e :: es) env = (false, eval e env) :: starEach es env := by
  cases e <;> first | rfl | cases h
theorem cTys_ok (h : XOk g cf io n s X) (hf : ∀ t, g.fns.lookup (tyStr t) = none) : ∀ {es : List Expr} {ts : List Ty}, cTys s es = some ts → PA X es (tTys ts)
  | [], _, e => by cases e; exact pa_nil
  | e :: r, ts, e1 => by
    simp only [cTys] at e1
    split at e1
    · rename_i t ts' h1 h2
      cases e1
      obtain ⟨p, st⟩ := cTyE_ok h hf h1
      exact (pa_cons p (cTys_ok h hf h2) (star_cons st)).wk fun σ H Q q => q
    · cases e1
theorem tysOf_ok {t : Expr} {l : List Ty} {a : Expr} {ea : E} {p pos : Pos} (h : XOk g cf io n s X) (hf : ∀ t, g.fns.lookup (tyStr t) = none) (hg : Gl X "isinstance") (hm : X.mg "isinstance" = none) (e : tysOf s t = some l) (ha : PE X a (WE X.K cf io ea)) (hst : isStar a = false) (hl : l.length ≤ 100) :
    PE X (.Call (.Name "isinstance" p) [a, t] [] pos) (WE X.K cf io (.isi ea l)) := by
  have fin : ∀ {σ : L2.St} {H G : Hp} {env0 env : Env} {H0 G0 : Hp} {rr : R} {env' : Env} {Q : VK} {r1 : R} {e1 : Env} {v1 : V} {d : D}, rd r1 e1 = some d → RRel X.K G H e1 σ r1 v1 → Rel X.K G H e1 σ → ∃ T, T = kindName d ∧ TyX X.K H v1 (.type T) := fun h1 h2 rl => (rd_ok rl h2 h1).ty rl.gh
  have two : ∀ {tt : TE}, PE X t tt → isStar t = false → (∀ (σ : L2.St) (H G : Hp) (e1 : Env) (v1 : V) (d : D) (Q : VK), Rel X.K G H e1 σ → Vw X.K G H v1 d → (∀ v G' H', Grow G H G' H' → v = V.bl (isiD d l) → Q v H') → tt σ H fun x H1 => rIsi X.K [v1, x] H1 Q ∨ rIsiT X.K [v1, x] H1 Q) →
      PE X (.Call (.Name "isinstance" p) [a, t] [] pos) (WE X.K cf io (.isi ea l)) := fun {tt} ht hs hq => by
    refine (pe_callB (CallR.or call_isi call_isiT) hg hm (by decide +kernel) (pa_cons ha (pa_cons ht pa_nil (star_cons hs)) (star_cons hst)) (by decide) (by decide) (star_cons hst) (by rw [star_cons hs]; rfl)).wk fun σ H Q ⟨env, G, rl, rr, env', he, k⟩ => ?_
    simp only [evE, Option.bind_eq_some_iff, Option.map_eq_some_iff, Prod.mk.injEq] at he
    obtain ⟨⟨r1, e1⟩, h1, d, h2, h3, h4⟩ := he
    subst h3 h4
    refine ⟨env, G, rl, r1, e1, h1, fun v1 G1 H1 rl1 x1 q1 f1 => ?_⟩
    exact hq σ H1 G1 e1 v1 d Q rl1 (rd_ok rl1 q1 h2) fun v G' H' g ev => k v G' H' (rl1.grow g) (x1.trans (.grow g)) (by rw [ev]; exact .bl _) fun z => by cases z
  cases t with
  | Tuple ts kk q =>
    refine two (pe_tup (cTys_ok h hf e)) rfl fun σ H G e1 v1 d Q rl w k => ?_
    have hs : (sizeLine : Nat) = 16777216 := sizeLine_eq
    refine ⟨by rw [List.length_map]; omega, fun T hT => ?_⟩
    · refine .inr ⟨v1, T, _, .type (kindName d), _, isiD d l, rfl, upd_same, ?_, ?_, kind_tys d l, ?_⟩
      · clear e hl k two fin
        induction l with
        | nil => exact .nil
        | cons t l ih => exact .cons (.ty _) ih
      · obtain ⟨T', eT, ty⟩ := (w.keep (same_upd hT)).ty (rl.gh.trans (same_upd hT))
        rw [eT] at ty
        exact ty
      · exact k _ G _ (Grow.own rl.gh hT) rfl
  | Name x q =>
    simp only [tysOf, Option.map_eq_some_iff] at e
    obtain ⟨t, e1, e2⟩ := e
    subst e2
    obtain ⟨pt, st⟩ := cTyE_ok h hf e1
    refine two pt st fun σ H G e1 v1 d Q rl w k => ?_
    obtain ⟨T', eT, ty⟩ := w.ty rl.gh
    refine .inl ⟨v1, _, .type T', .type (tyName t), isiD d [t], rfl, .ty _, ty, ?_, k _ G H (Grow.rfl' rl.gh) rfl⟩
    rw [eT]
    refine kit_ty ?_
    rw [kind_ty]
    simp [isiD]
  | _ => simp [tysOf, cTyE] at e
end
end Ev


set_option Elab.async false
set_option linter.all false
set_option maxRecDepth 100000
set_option maxHeartbeats 1000000
/-! Soundness: what a loop walks. -/
namespace Ev
open PySem PySem.Spec PyProof.Rows L2

/-- the iterator gives out the trees xs -/
structure ItOk (K : PySem.W.Frag) (J : L2.It) (G : Hp) (xs : List D) : Prop where
  go : ∀ i H, Same G H → i < xs.length → J.go i H
  stop : ∀ i H, Same G H → xs.length ≤ i → J.stop i H
  yld : ∀ i H Gc d x H', Same G Gc → Same Gc H → xs[i]? = some d → J.yld i H x H' → ∃ G2, Grow Gc H G2 H' ∧ Tr K G2 x d
def WI (K : PySem.W.Frag) (cf : CallF) (io : Nat → List Bool) (ir : It) : TI := fun σ H R => ∃ env G, Rel K G H env σ ∧ ∃ xs env', evI cf io ir env = some (xs, env') ∧
  ∀ J G' H', Rel K G' H' env' σ → Ext σ G H env G' H' env' → ItOk K J G' xs → R J H'
section
variable {K : PySem.W.Frag} {G H : Hp}
theorem ItOk.list {a : Addr} {vs : List V} {ds : List D} (r : SqL K G a vs) (t : TrAll K G vs ds) : ItOk K (Itl K a) G ds where
  go := fun i H h hi => by
    obtain ⟨v, e, _⟩ := t.get i (List.getElem?_eq_getElem hi)
    exact ⟨vs, v, sqL_mono h r, e⟩
  stop := fun i H h hi => ⟨vs, sqL_mono h r, by rw [t.length]; exact hi⟩
  yld := fun i H Gc d x H' h1 h2 hd y => by
    obtain ⟨rfl, y⟩ := y
    obtain ⟨v, e, tv⟩ := t.get i hd
    have := y vs (sqL_mono (h1.trans h2) r)
    rw [e] at this
    cases this
    exact ⟨Gc, Grow.rfl' h2, tv.mn h1⟩
theorem ItOk.tuple {a : Addr} {vs : List V} {ds : List D} (r : SqT K G a vs) (t : TrAll K G vs ds) : ItOk K (Itt K a) G ds where
  go := fun i H h hi => by
    obtain ⟨v, e, _⟩ := t.get i (List.getElem?_eq_getElem hi)
    exact ⟨vs, v, sqT_mono h r, e⟩
  stop := fun i H h hi => ⟨vs, sqT_mono h r, by rw [t.length]; exact hi⟩
  yld := fun i H Gc d x H' h1 h2 hd y => by
    obtain ⟨rfl, y⟩ := y
    obtain ⟨v, e, tv⟩ := t.get i hd
    have := y vs (sqT_mono (h1.trans h2) r)
    rw [e] at this
    cases this
    exact ⟨Gc, Grow.rfl' h2, tv.mn h1⟩
theorem ItOk.str (z : Str) : ItOk K (Its z) G (strItems z) where
  go := fun i H h hi => by
    have q : i < z.cps.size := by simpa [strItems] using hi
    exact q
  stop := fun i H h hi => by
    have q : z.cps.size ≤ i := by simpa [strItems] using hi
    exact q
  yld := fun i H Gc d x H' h1 h2 hd y => by
    obtain ⟨rfl, c, e, rfl⟩ := y
    simp only [strItems, List.getElem?_map, Option.map_eq_some_iff] at hd
    obtain ⟨c', e', rfl⟩ := hd
    rw [Array.getElem?_toList] at e'
    rw [e] at e'
    cases e'
    exact ⟨Gc, Grow.rfl' h2, .str _⟩
theorem rangeD_len (a c : Int) : ∀ n, (rangeD a c n).length = n
  | 0 => rfl
  | n + 1 => by rw [rangeD, List.length_cons, rangeD_len (a + c) c n]
theorem rangeD_get (c : Int) : ∀ (n : Nat) (a : Int) (i : Nat) (d : D), (rangeD a c n)[i]? = some d → d = .int (a + (i : Nat) * c)
  | 0, _, _, _, h => by cases h
  | n + 1, a, 0, d, h => by
    rw [rangeD, List.getElem?_cons_zero] at h
    cases h
    simp
  | n + 1, a, i + 1, d, h => by
    rw [rangeD, List.getElem?_cons_succ] at h
    rw [rangeD_get c n (a + c) i d h]
    congr 1
    rw [Int.natCast_add, Int.add_mul]
    omega
theorem ItOk.rng (a : Int) (n : Nat) : ItOk K (Itr a n) G (rangeD a 1 n) where
  go := fun i H h hi => by rw [rangeD_len] at hi; exact hi
  stop := fun i H h hi => by rw [rangeD_len] at hi; exact hi
  yld := fun i H Gc d x H' h1 h2 hd y => by
    obtain ⟨rfl, rfl⟩ := y
    rw [rangeD_get 1 n a i d hd, Int.mul_one]
    exact ⟨Gc, Grow.rfl' h2, .int _⟩
theorem ItOk.rngC (a c : Int) (n : Nat) : ItOk K (Itc a c n) G (rangeD a c n) where
  go := fun i H h hi => by rw [rangeD_len] at hi; exact hi
  stop := fun i H h hi => by rw [rangeD_len] at hi; exact hi
  yld := fun i H Gc d x H' h1 h2 hd y => by
    obtain ⟨rfl, rfl⟩ := y
    rw [rangeD_get c n a i d hd]
    exact ⟨Gc, Grow.rfl' h2, .int _⟩
theorem enumD_len : ∀ (xs : List D) (k : Int), (enumD k xs).length = xs.length
  | [], _ => rfl
  | x :: r, k => by rw [enumD, List.length_cons, List.length_cons, enumD_len r]
theorem enumD_get : ∀ (xs : List D) (k : Int) (i : Nat) (d : D), (enumD k xs)[i]? = some d → ∃ x, xs[i]? = some x ∧ d = .tuple [.int (k + (i : Nat)), x]
  | [], _, _, _, h => by cases h
  | x :: r, k, 0, d, h => by
    rw [enumD, List.getElem?_cons_zero] at h
    cases h
    exact ⟨x, rfl, by simp⟩
  | x :: r, k, i + 1, d, h => by
    rw [enumD, List.getElem?_cons_succ] at h
    obtain ⟨y, e, hy⟩ := enumD_get r (k + 1) i d h
    refine ⟨y, by simpa using e, ?_⟩
    rw [hy]
    congr 3
    omega
theorem ItOk.enum {a : Addr} {vs : List V} {ds : List D} (r : SqL K G a vs) (t : TrAll K G vs ds) : ItOk K (Ite K a) G (enumD 0 ds) where
  go := fun i H h hi => by
    rw [enumD_len] at hi
    obtain ⟨v, e, _⟩ := t.get i (List.getElem?_eq_getElem hi)
    exact ⟨vs, v, sqL_mono h r, e⟩
  stop := fun i H h hi => ⟨vs, sqL_mono h r, by rw [enumD_len] at hi; rw [t.length]; exact hi⟩
  yld := fun i H Gc d x H' h1 h2 hd y => by
    obtain ⟨T, z, rfl, hT, rfl, y⟩ := y
    obtain ⟨x, hx, rfl⟩ := enumD_get ds 0 i d hd
    obtain ⟨v, e, tv⟩ := t.get i hx
    have := y vs (sqL_mono (h1.trans h2) r)
    rw [e] at this
    cases this
    rw [Int.zero_add]
    exact ⟨_, Grow.tup h2 hT, Tr.newTup h2 hT (.cons (.int _) (.cons (tv.mn h1) .nil))⟩
theorem zipD_len : ∀ xs ys : List D, (zipD xs ys).length = min xs.length ys.length
  | [], _ => by simp [zipD]
  | _ :: _, [] => by simp [zipD]
  | x :: r, y :: t => by rw [zipD, List.length_cons, zipD_len r t, List.length_cons, List.length_cons]; omega
theorem zipD_get : ∀ (xs ys : List D) (i : Nat) (d : D), (zipD xs ys)[i]? = some d → ∃ x y, xs[i]? = some x ∧ ys[i]? = some y ∧ d = .tuple [x, y]
  | [], _, _, _, h => by simp [zipD] at h
  | _ :: _, [], _, _, h => by simp [zipD] at h
  | x :: r, y :: t, 0, d, h => by
    rw [zipD, List.getElem?_cons_zero] at h
    cases h
    exact ⟨x, y, rfl, rfl, rfl⟩
  | x :: r, y :: t, i + 1, d, h => by
    rw [zipD, List.getElem?_cons_succ] at h
    obtain ⟨p, q, e1, e2, e3⟩ := zipD_get r t i d h
    exact ⟨p, q, by simpa using e1, by simpa using e2, e3⟩
theorem ItOk.zip {a b : Addr} {vs ws : List V} {ds es : List D} (r : SqL K G a vs) (r' : SqL K G b ws) (t : TrAll K G vs ds) (t' : TrAll K G ws es) : ItOk K (Itz K a b) G (zipD ds es) where
  go := fun i H h hi => by
    rw [zipD_len] at hi
    obtain ⟨v, e, _⟩ := t.get i (List.getElem?_eq_getElem (by omega))
    obtain ⟨v', e', _⟩ := t'.get i (List.getElem?_eq_getElem (by omega))
    exact ⟨vs, ws, v, v', sqL_mono h r, sqL_mono h r', e, e'⟩
  stop := fun i H h hi => ⟨vs, ws, sqL_mono h r, sqL_mono h r', by rw [zipD_len] at hi; rw [t.length, t'.length]; omega⟩
  yld := fun i H Gc d x H' h1 h2 hd y => by
    obtain ⟨T, z1, z2, rfl, hT, rfl, y1, y2⟩ := y
    obtain ⟨x, x', hx, hx', rfl⟩ := zipD_get ds es i d hd
    obtain ⟨v, e, tv⟩ := t.get i hx
    obtain ⟨v', e', tv'⟩ := t'.get i hx'
    have q1 := y1 vs (sqL_mono (h1.trans h2) r)
    have q2 := y2 ws (sqL_mono (h1.trans h2) r')
    rw [e] at q1
    rw [e'] at q2
    cases q1
    cases q2
    exact ⟨_, Grow.tup h2 hT, Tr.newTup h2 hT (.cons (tv.mn h1) (.cons (tv'.mn h1) .nil))⟩
theorem ItOk.zipT {a b : Addr} {vs ws : List V} {ds es : List D} (r : SqT K G a vs) (r' : SqT K G b ws) (t : TrAll K G vs ds) (t' : TrAll K G ws es) : ItOk K (RZ.ItzT K a b) G (zipD ds es) where
  go := fun i H h hi => by
    rw [zipD_len] at hi
    obtain ⟨v, e, _⟩ := t.get i (List.getElem?_eq_getElem (by omega))
    obtain ⟨v', e', _⟩ := t'.get i (List.getElem?_eq_getElem (by omega))
    exact ⟨vs, ws, v, v', sqT_mono h r, sqT_mono h r', e, e'⟩
  stop := fun i H h hi => ⟨vs, ws, sqT_mono h r, sqT_mono h r', by rw [zipD_len] at hi; rw [t.length, t'.length]; omega⟩
  yld := fun i H Gc d x H' h1 h2 hd y => by
    obtain ⟨T, z1, z2, rfl, hT, rfl, y1, y2⟩ := y
    obtain ⟨x, x', hx, hx', rfl⟩ := zipD_get ds es i d hd
    obtain ⟨v, e, tv⟩ := t.get i hx
    obtain ⟨v', e', tv'⟩ := t'.get i hx'
    have q1 := y1 vs (sqT_mono (h1.trans h2) r)
    have q2 := y2 ws (sqT_mono (h1.trans h2) r')
    rw [e] at q1
    rw [e'] at q2
    cases q1
    cases q2
    exact ⟨_, Grow.tup h2 hT, Tr.newTup h2 hT (.cons (tv.mn h1) (.cons (tv'.mn h1) .nil))⟩
theorem Tr.listG {G : Hp} {v : V} {ds : List D} (x : Tr K G v (.list ds)) : ∃ a vs, v = .ref a ∧ SqL K G a vs ∧ TrAll K G vs ds := by
  cases x with
  | lst r t => exact ⟨_, _, rfl, r, t⟩
theorem Tr.tupG {G : Hp} {v : V} {ds : List D} (x : Tr K G v (.tuple ds)) : ∃ a vs, v = .ref a ∧ SqT K G a vs ∧ TrAll K G vs ds := by
  cases x with
  | tup r k t => exact ⟨_, _, rfl, r, t⟩
theorem Tr.strG {G : Hp} {v : V} {z : Str} (x : Tr K G v (.str z)) : v = .str z := by cases x; rfl
end
section
variable {X : Cx} {cf : CallF} {io : Nat → List Bool} {tg : Expr}
/-- what is walked by its value -/
def iAny (K : PySem.W.Frag) (te : TE) : TI := fun σ H R => te σ H fun x H1 => (∃ a xs, x = V.ref a ∧ SqL K H1 a xs ∧ R (Itl K a) H1) ∨ (∃ a xs, x = V.ref a ∧ SqT K H1 a xs ∧ R (Itt K a) H1) ∨ ∃ z, x = V.str z ∧ R (Its z) H1
theorem pi_any {e : Expr} {te : TE} (he : PE X e te) : PI X tg e (iAny X.K te) := by
  refine ⟨fun pins s σ H R I h => thn (he.run pins s σ H _ I h) fun v s1 ⟨x, H1, I1, r1, q1⟩ => ?_⟩
  rcases q1 with ⟨a, xs, ex, hx, q⟩ | ⟨a, xs, ex, hx, q⟩ | ⟨z, ex, q⟩
  · subst ex
    have ev : v = Value.ref a := r1
    subst ev
    obtain ⟨its, _, p, _⟩ := I1.list hx
    exact wpAny_pyIter_list p.isList (pi_one (tk := s1.toks) I1 _ (turn_list a _) ⟨_, Heap.get?_push_size _ rfl, rfl, rfl⟩ q)
  · subst ex
    have ev : v = Value.ref a := r1
    subst ev
    obtain ⟨its, _, p, _⟩ := I1.tuple hx
    exact wpAny_pyIter_tuple (show s1.heap.IsTuple a its.toArray from p) (pi_one (tk := s1.toks) I1 _ (turn_tuple a _) ⟨_, Heap.get?_push_size _ rfl, rfl, rfl⟩ q)
  · subst ex
    obtain ⟨t, et⟩ := r1
    subst et
    by_cases hw : z.cps.all (· < 128) = true
    · exact wpAny_pyIter_ascii hw (pi_one (tk := s1.toks) I1 _ (turn_str _ z t "str_ascii_iterator" (.inl rfl)) ⟨_, Heap.get?_push_size _ rfl, rfl, rfl⟩ q)
    · exact wpAny_pyIter_wide (by simpa using hw) (pi_one (tk := s1.toks) I1 _ (turn_str _ z t "str_iterator" (.inr rfl)) ⟨_, Heap.get?_push_size _ rfl, rfl, rfl⟩ q)
theorem PI.wk {e : Expr} {t t' : TI} (h : PI X tg e t) (w : ∀ σ H R, t' σ H R → t σ H R) : PI X tg e t' := ⟨fun pins s σ H R I q => h.run pins s σ H R I (w σ H R q)⟩
theorem wi_seq {e : Expr} {ir : E} (he : PE X e (WE X.K cf io ir)) : PI X tg e (WI X.K cf io (.seq ir)) := by
  refine PI.wk (pi_any he) fun σ H R ⟨env, G, rl, xs, env', h, k⟩ => ?_
  simp only [evI, Option.bind_eq_some_iff, Option.map_eq_some_iff, Prod.mk.injEq] at h
  obtain ⟨⟨r, e1⟩, h1, ⟨d, e2⟩, h2, ys, h3, h4, h5⟩ := h
  subst h4 h5
  refine ⟨env, G, rl, r, e1, h1, fun v G1 H1 rl1 x1 q1 f1 => ?_⟩
  obtain ⟨G2, x2, rl2, t2, _⟩ := fz_ok x1 rl1 q1 f1 h2
  have h3 : seqItems d = some ys := h3
  unfold seqItems at h3
  split at h3
  · cases h3
    obtain ⟨a, vs, rfl, r, t⟩ := t2.listG
    exact .inl ⟨a, vs, rfl, sqL_mono rl2.gh r, k _ G2 H1 rl2 x2 (.list r t)⟩
  · cases h3
    obtain ⟨a, vs, rfl, r, t⟩ := t2.tupG
    exact .inr (.inl ⟨a, vs, rfl, sqT_mono rl2.gh r, k _ G2 H1 rl2 x2 (.tuple r t)⟩)
  · cases h3
    exact .inr (.inr ⟨_, t2.strG, k _ G2 H1 rl2 x2 (.str _)⟩)
  · cases h3
theorem fitI_ok {i : Int} (h : fitI i = true) : -(2 ^ 62) ≤ i ∧ i < 2 ^ 62 := of_decide_eq_true h
theorem wi_range1 {a : Expr} {ea : E} {p pos : Pos} (hg : Gl X "range") (hm : X.mg "range" = none) (ha : PE X a (WE X.K cf io ea)) (hst : isStar a = false) : PI X tg (.Call (.Name "range" p) [a] [] pos) (WI X.K cf io (.range1 ea)) := by
  refine PI.wk (pi_range1 hg hm (pa_cons ha pa_nil (star_cons hst)) (star_cons hst)) fun σ H R ⟨env, G, rl, xs, env', h, k⟩ => ?_
  simp only [evI, Option.bind_eq_some_iff] at h
  obtain ⟨⟨r, e1⟩, h1, h2⟩ := h
  refine ⟨env, G, rl, r, e1, h1, fun v G1 H1 rl1 x1 q1 f1 => ?_⟩
  split at h2
  · rename_i i f hr
    have hr : r = .v (.int i) f := hr
    subst hr
    obtain ⟨hf, h2⟩ := ite'_some h2
    cases h2
    obtain ⟨b1, b2⟩ := fitI_ok hf
    exact ⟨i, by rw [(rd_ok (r := .v (.int i) f) rl1 q1 rfl).int], b1, b2, k _ G1 H1 rl1 x1 (.rng 0 _)⟩
  · cases h2
theorem wi_range2 {a b : Expr} {ea eb : E} {p pos : Pos} (hg : Gl X "range") (hm : X.mg "range" = none) (ha : PE X a (WE X.K cf io ea)) (hb : PE X b (WE X.K cf io eb)) (hst : isStar a = false) (hst2 : isStar b = false) :
    PI X tg (.Call (.Name "range" p) [a, b] [] pos) (WI X.K cf io (.range2 ea eb)) := by
  refine PI.wk (pi_range2 hg hm (pa_cons ha (pa_cons hb pa_nil (star_cons hst2)) (star_cons hst)) (by rw [star_cons hst, star_cons hst2]; rfl) (star_cons hst2)) fun σ H R ⟨env, G, rl, xs, env', h, k⟩ => ?_
  simp only [evI, Option.bind_eq_some_iff] at h
  obtain ⟨⟨r, e1⟩, h1, ⟨r2, e2⟩, h2, h3⟩ := h
  refine ⟨env, G, rl, r, e1, h1, fun v G1 H1 rl1 x1 q1 f1 => ⟨e1, G1, rl1, r2, e2, h2, fun v2 G2 H2 rl2 x2 q2 f2 => ?_⟩⟩
  split at h3
  · rename_i i f j f' hr hr2
    have hr : r = .v (.int i) f := hr
    have hr2 : r2 = .v (.int j) f' := hr2
    subst hr hr2
    obtain ⟨hf, h3⟩ := ite'_some h3
    cases h3
    rw [Bool.and_eq_true] at hf
    obtain ⟨b1, b2⟩ := fitI_ok hf.1
    obtain ⟨b3, b4⟩ := fitI_ok hf.2
    exact ⟨i, j, by rw [(rd_ok (r := .v (.int i) f) rl2 (q1.step x2) rfl).int, (rd_ok (r := .v (.int j) f') rl2 q2 rfl).int], ⟨b1, b2, b3, b4⟩, k _ G2 H2 rl2 (x1.trans x2) (.rng i _)⟩
  · cases h3
theorem wi_range3 {a b c : Expr} {ea eb ec : E} {p pos : Pos} (hg : Gl X "range") (hm : X.mg "range" = none) (ha : PE X a (WE X.K cf io ea)) (hb : PE X b (WE X.K cf io eb)) (hc : PE X c (WE X.K cf io ec)) (hst : isStar a = false) (hst2 : isStar b = false) (hst3 : isStar c = false) :
    PI X tg (.Call (.Name "range" p) [a, b, c] [] pos) (WI X.K cf io (.range3 ea eb ec)) := by
  refine PI.wk (pi_range3 hg hm (pa_cons ha (pa_cons hb (pa_cons hc pa_nil (star_cons hst3)) (star_cons hst2)) (star_cons hst)) (star_cons hst) (by rw [star_cons hst2, star_cons hst3]; rfl)) fun σ H R ⟨env, G, rl, xs, env', h, k⟩ => ?_
  simp only [evI, Option.bind_eq_some_iff] at h
  obtain ⟨⟨r, e1⟩, h1, ⟨r2, e2⟩, h2, ⟨r3, e3⟩, h3, h4⟩ := h
  refine ⟨env, G, rl, r, e1, h1, fun v G1 H1 rl1 x1 q1 f1 => ⟨e1, G1, rl1, r2, e2, h2, fun v2 G2 H2 rl2 x2 q2 f2 => ⟨e2, G2, rl2, r3, e3, h3, fun v3 G3 H3 rl3 x3 q3 f3 => ?_⟩⟩⟩
  split at h4
  · rename_i i f j f' kk f'' hr hr2 hr3
    have hr : r = .v (.int i) f := hr
    have hr2 : r2 = .v (.int j) f' := hr2
    have hr3 : r3 = .v (.int kk) f'' := hr3
    subst hr hr2 hr3
    obtain ⟨hf, h4⟩ := ite'_some h4
    cases h4
    simp only [Bool.and_eq_true, decide_eq_true_eq] at hf
    obtain ⟨⟨hf1, hf2⟩, hk⟩ := hf
    subst hk
    obtain ⟨b1, b2⟩ := fitI_ok hf1
    obtain ⟨b3, b4⟩ := fitI_ok hf2
    exact ⟨i, j, -1, _, by rw [(rd_ok (r := .v (.int i) f) rl3 ((q1.step x2).step x3) rfl).int, (rd_ok (r := .v (.int j) f') rl3 (q2.step x3) rfl).int, (rd_ok (r := .v (.int (-1)) f'') rl3 q3 rfl).int], RgC.neg b1 b2 b3 b4, k _ G3 H3 rl3 ((x1.trans x2).trans x3) (.rngC i (-1) _)⟩
  · cases h4
theorem wi_zip {a b : Expr} {ea eb : E} {p pos tpos : Pos} {elts : List Expr} {kk : Nat} (hg : Gl X "zip") (hm : X.mg "zip" = none) (ha : PE X a (WE X.K cf io ea)) (hb : PE X b (WE X.K cf io eb)) (hst : isStar a = false) (hst2 : isStar b = false) :
    PI X (.Tuple elts kk tpos) (.Call (.Name "zip" p) [a, b] [] pos) (WI X.K cf io (.zip ea eb)) := by
  refine PI.wk (RZ.pi_zipA hg hm (pa_cons ha (pa_cons hb pa_nil (star_cons hst2)) (star_cons hst)) (star_cons hst) (by rw [star_cons hst2]; rfl)) fun σ H R ⟨env, G, rl, xs, env', h, k⟩ => ?_
  simp only [evI, Option.bind_eq_some_iff] at h
  obtain ⟨⟨r, e1⟩, h1, ⟨r2, e2⟩, h2, ⟨d, e3⟩, h3, ⟨d2, e4⟩, h4, h5⟩ := h
  refine ⟨env, G, rl, r, e1, h1, fun v G1 H1 rl1 x1 q1 f1 => ⟨e1, G1, rl1, r2, e2, h2, fun v2 G2 H2 rl2 x2 q2 f2 => ?_⟩⟩
  have ne : ∀ b, isTemp r = true → v = V.ref b → isTemp r2 = true → v2 = V.ref b → False := fun b t1 t2 t3 t4 => by
    have z := f2 t3 b t4
    cases r with
    | s _ => cases t1
    | v d f =>
      cases f <;> simp only [isTemp, reduceCtorEq] at t1
      obtain ⟨b', e, _, o, _⟩ := q1
      rw [t2] at e
      cases e
      exact o.ne z
  obtain ⟨G3, x3, rl3, t3, gs3, gn3, ow3, sl3⟩ := fz_ok (x1.trans x2) rl2 (q1.step x2) f1 h3
  have q2' := q2.keep gs3 (fun b hb gb nb ht hv => gn3 b hb gb nb fun z => ne b z.1 z.2 ht hv) ow3 sl3
  obtain ⟨G4, x4, rl4, t4, gs4, _⟩ := fz_ok x3 rl3 q2' (f2.back x1) h4
  have t3 := t3.mn gs4
  cases d <;> cases d2 <;> simp only [reduceCtorEq, Option.some.injEq, Prod.mk.injEq] at h5
  · rename_i xs0 ys0
    obtain ⟨h5, h6⟩ := h5
    subst h5 h6
    obtain ⟨a', vs, rfl, r, t⟩ := t3.listG
    obtain ⟨b', ws, rfl, r', t'⟩ := t4.listG
    exact ⟨a', b', vs, ws, rfl, .inl ⟨sqL_mono rl4.gh r, sqL_mono rl4.gh r', k _ G4 H2 rl4 x4 (.zip r r' t t')⟩⟩
  · rename_i xs0 ys0
    obtain ⟨h5, h6⟩ := h5
    subst h5 h6
    obtain ⟨a', vs, rfl, r, t⟩ := t3.tupG
    obtain ⟨b', ws, rfl, r', t'⟩ := t4.tupG
    exact ⟨a', b', vs, ws, rfl, .inr ⟨sqT_mono rl4.gh r, sqT_mono rl4.gh r', k _ G4 H2 rl4 x4 (.zipT r r' t t')⟩⟩
end
end Ev


set_option Elab.async false
set_option linter.all false
set_option maxRecDepth 100000
set_option maxHeartbeats 1000000
/-! enumerate of a tuple. -/
namespace Ev
open PySem PySem.Spec PyProof.Rows L2

set_option maxHeartbeats 2000000 in
/-- one argument, whatever begins -/
theorem enum_new1 {v : Value} {o : Obj} {Hx : Heap → Prop} (B : Begins v o Hx) :
    Meets (Builtin.«enumerate.__new__» ⟨[.type "enumerate", v], []⟩) (fun _ R s => Hx s.heap ∧
      R (.ok (.ret (.ref (s.heap.push o).objs.size))) { s with heap := (s.heap.push o).push { cls := .type "enumerate", data := .fields #[.none, .bool false, .ref s.heap.objs.size, rawInt 0, .none, .none] } }) :=
  .of_wp fun prog w A R s h => by
    obtain ⟨hp, g, d, tk, os⟩ := s
    obtain ⟨h1, h⟩ := h
    have sub := sub_enumerate
    have go : ∀ {A' : Around} {E : Value → Shared → Prop} {Q : Value → Shared → Prop}, Q (.ref hp.objs.size) ⟨hp.push o, g, d, tk, os⟩ → wpAny (model prog w) A' (pyIter v) Q E ⟨hp, g, d, tk, os⟩ := fun q => B.iter prog w _ _ ⟨hp, g, d, tk, os⟩ _ h1 q
    wp_walk using go
    refine wpAny_stack_any fun st => wpAny_pure ?_
    split
    · rename_i c _ _ _ _ _
      cases (c == Value.type "enumerate") <;> (wp_walk using go; exact ⟨_, rfl, h⟩)
    · wp_walk using go
      exact ⟨_, rfl, h⟩
theorem enum_call1 {prog : Program} {w : World} {A : Around} {E : Value → Shared → Prop} {s : Shared} {v : Value} {o : Obj} {Hx : Heap → Prop} {Q : Value → Shared → Prop} (B : Begins v o Hx) (h1 : Hx s.heap)
    (h : ∀ h', IsEnum h' (s.heap.objs.size + 1) s.heap.objs.size 0 .none → h'.get? s.heap.objs.size = some o → h'.objs.size = s.heap.objs.size + 2 → (∀ b u, s.heap.get? b = some u → h'.get? b = some u) → Q (.ref (s.heap.objs.size + 1)) { s with heap := h' }) :
    wpAny (model prog w) A (call (.type "enumerate") [v]) Q E s := by
  refine callType_new F.called_enumerate (by decide) (F.typeCall_enumerate_1 _) (F.newCall_enumerate_1 _) (fun obj => F.args_object_init_2 obj _) F.entry_enumerate_new (enum_new1 B) ⟨h1, ?_⟩
  have sz : (s.heap.push o).objs.size = s.heap.objs.size + 1 := Heap.size_push ..
  show _ ∧ _
  rw [sz]
  have en : IsEnum ((s.heap.push o).push { cls := .type "enumerate", data := .fields #[.none, .bool false, .ref s.heap.objs.size, rawInt 0, .none, .none] }) (s.heap.objs.size + 1) s.heap.objs.size 0 .none := by
    have q := Heap.get?_push_size (s.heap.push o) (o := { cls := .type "enumerate", data := .fields #[.none, .bool false, .ref s.heap.objs.size, rawInt 0, .none, .none] }) rfl
    rw [sz] at q
    exact q
  refine ⟨⟨_, en, rfl⟩, h _ en (Heap.get?_push_of_some _ (Heap.get?_push_size _ B.free)) (by rw [Heap.size_push, sz]) fun b u x => Heap.get?_push_of_some _ (Heap.get?_push_of_some _ x)⟩
def IteT (K : PySem.W.Frag) (a : Addr) : L2.It :=
  ⟨fun i H => ∃ (xs : List V) (x : V), SqT K H a xs ∧ xs[i]? = some x, fun i H v H' => ∃ T x, v = .ref T ∧ H T = none ∧ H' = upd H T (.tup [.int (i : Nat), x]) ∧ ∀ xs, SqT K H a xs → xs[i]? = some x, fun i H => ∃ xs : List V, SqT K H a xs ∧ xs.length ≤ i⟩
theorem turn_enumT {P : Program} {w : World} {K : PySem.W.Frag} {elts : List Expr} {kk : Nat} {tpos : Pos} (a e it : Addr) :
    Turn P w K (.Tuple elts kk tpos) (IteT K a) [e, it] e (fun i h => (∃ old, IsEnum h e it ((i : Nat) : Int) old) ∧ h.IsTupleIter it a i ∧ e ≠ it ∧ a ≠ it ∧ a ≠ e) where
  mem := by simp
  obj := fun i h st b hb => by
    obtain ⟨⟨old, he⟩, ⟨o, ho, hc, hd⟩, _⟩ := st
    rcases List.mem_cons.mp hb with z | z
    · rw [z]; exact ⟨_, he, fun v q => nomatch q⟩
    · rw [List.mem_singleton.mp z]; exact ⟨o, ho, fun v q => by rw [hd] at q; cases q⟩
  keep := fun i h h' st k => by
    obtain ⟨⟨old, he⟩, hi, hne⟩ := st
    exact ⟨⟨old, k e (by simp) _ he⟩, hi.at fun o q => k it (by simp) o q, hne⟩
  item := by
    intro X hP hw hK hc i pins s σ H E I hf st hg
    subst hP hw hK
    obtain ⟨⟨old, he⟩, hit, hne, hai, hae⟩ := st
    obtain ⟨xs, x, hq, hx⟩ := hg
    obtain ⟨its, rv, p, hz⟩ := I.tuple hq
    obtain ⟨u, hu, ru⟩ := rv.get hx
    have hel : e < s.heap.objs.size := Heap.lt_size he
    have hil : it < s.heap.objs.size := by obtain ⟨_, q, _⟩ := hit; exact Heap.lt_size q
    have hlt : i < its.toArray.size := by
      rw [List.size_toArray]
      exact (List.getElem?_eq_some_iff.mp hu).1
    have hh : X.A.in1.handled = none := I.ok.hd hc
    refine wpAny_pyNext_enum_itemD (Draws.tuple hh it a hai its.toArray) he ⟨hit, p⟩ hlt hne (by simp [hne, Ne.symm hae]) fun u' h' tk hu' ho hit' hT hsz hk => ?_
    have eu : u' = u := by
      have q : its.toArray[i]? = some u := by simpa using hu
      rw [q] at hu'
      exact (Option.some.inj hu').symm
    subst eu
    refine ⟨_, rfl, wpAny_letOwnedTupleGo_enum (s := { s with heap := h', toks := tk + 1 }) ho fun h'' he' sb => ?_⟩
    have hT2 : h''.get? s.heap.objs.size = some { cls := .type "tuple", data := .seq #[.int i tk, u'] } := (sb.2 _ (Nat.ne_of_gt hel)).trans hT
    have new : ObjOk X.prog X.w (upd H s.heap.objs.size (.tup [.int (i : Nat), x])) h'' s.heap.objs.size (.tup [.int (i : Nat), x]) :=
      ⟨by show 2 ≤ sizeLine; decide, [.int i tk, u'], .cons ⟨_, rfl⟩ (.cons ru .nil), ⟨_, hT2, rfl, _, rfl⟩⟩
    have I1 : Inv X pins σ (upd H s.heap.objs.size (.tup [.int (i : Nat), x])) { s with heap := h'', toks := tk + 1 } := I.turnedNew (ch := [e, it]) (fun b ob hb q => by
      have b1 : b ≠ e := fun z => hb (by simp [z])
      have b2 : b ≠ it := fun z => hb (by simp [z])
      exact (sb.2 b b1).trans (hk b ob b1 b2 q)) hf (Nat.le_refl _) new
    refine ⟨.ref s.heap.objs.size, _, I1, rfl, ⟨_, x, rfl, I.hok.fresh (Nat.le_refl _), rfl, fun ys hy => by rw [I.tuple_inj hy hq]; exact hx⟩, ⟨⟨u', ?_⟩, hit'.1.at fun o q => (sb.2 it (Ne.symm hne)).trans q, hne, hai, hae⟩, fun b hb => ?_⟩
    · rw [show ((i + 1 : Nat) : Int) = (i : Int) + 1 by omega]
      exact he'
    · have hb' : b < s.heap.objs.size := by
        rcases List.mem_cons.mp hb with z | z
        · rw [z]; exact hel
        · rw [List.mem_singleton.mp z]; exact hil
      rw [upd_ne (Nat.ne_of_lt hb')]
      exact (hf b hb).1
  done := by
    intro X hP hw hK hc i pins s σ H E I hf st hg
    subst hP hw hK
    obtain ⟨⟨old, he⟩, hit, hne, hai, hae⟩ := st
    obtain ⟨xs, hq, hx⟩ := hg
    obtain ⟨its, rv, p, hz⟩ := I.tuple hq
    obtain ⟨f0, f1, f2, f3, f4, f5⟩ := hf it (by simp)
    have hl := rv.length
    have hh : X.A.in1.handled = none := I.ok.hd hc
    have Dr : Draws X.prog X.w X.A.in1 it [it, a] i (fun _ _ => True) (fun j h => j = i ∧ h.IsTupleIter it a i ∧ h.IsTuple a its.toArray) := {
      live := fun _ _ st => let ⟨o, ho, _⟩ := st.2.1; ⟨o, ho⟩
      frame := fun _ _ _ st hk => ⟨st.1, st.2.1.at fun o e => hk it (by simp) o e, st.2.2.at fun o e => hk a (by simp) o e⟩
      item := fun j s Q E hj st _ => absurd st.1 (Nat.ne_of_lt hj)
      done := fun s Q E st hE => wpAny_nextOf_tuple_end hh st.2.1 st.2.2 (by simp only [List.getElem?_toArray, List.getElem?_eq_none_iff]; omega) hE }
    exact wpAny_pyNext_enum_endD Dr he ⟨rfl, hit, p⟩ fun h' eb => ⟨rfl, I.turned (t' := s.toks) (fun b o hb e => eb b o hb e) f0 f1 f3 f4 f5⟩
  self := fun A i s Q E st h => by
    obtain ⟨⟨_, he⟩, _⟩ := st
    exact wpAny_pyIter_enum he h
def iEnumA (K : PySem.W.Frag) (ta : TA) : TI := fun σ H R => ta σ H fun vs H1 => ∃ a, vs = [.ref a] ∧ ((∃ xs, SqL K H1 a xs ∧ R (Ite K a) H1) ∨ ∃ xs, SqT K H1 a xs ∧ R (IteT K a) H1)
theorem pi_enumA {X : Cx} {e : Expr} {ta : TA} {p pos tpos : Pos} {elts : List Expr} {kk : Nat} (hg : Gl X "enumerate") (hm : X.mg "enumerate" = none) (ha : PA X [e] ta) (hs : starEach [e] X.env = [(false, eval e X.env)]) :
    PI X (.Tuple elts kk tpos) (.Call (.Name "enumerate" p) [e] [] pos) (iEnumA X.K ta) := by
  refine ⟨fun pins s σ H R I h => ?_⟩
  refine Call_ (ld_blt I hg hm boot_enumerate (PyProof.Rows.callWith_type1 (thn (ha.run pos pins s σ H _ I h) fun us s1 ⟨vs, H1, I1, r1, q1⟩ => ?_) hs rfl))
  obtain ⟨a, ex, q1⟩ := q1
  subst ex
  obtain ⟨u, rfl, ru⟩ := vals1 r1
  have ru : u = Value.ref a := ru
  subst ru
  have two : ∀ b ∈ [s1.heap.objs.size + 1, s1.heap.objs.size], FpOk X pins H1 b := fun b hb => by
    have le : s1.heap.objs.size ≤ b := by
      rcases List.mem_cons.mp hb with z | z
      · rw [z]; exact Nat.le_add_right _ _
      · rw [List.mem_singleton.mp z]; exact Nat.le_refl _
    exact I1.fpOk le (I1.hok.fresh le)
  rcases q1 with ⟨xs, hq, q⟩ | ⟨xs, hq, q⟩
  · obtain ⟨its, rv, pl, hz⟩ := I1.list hq
    exact call_enumerate_list pl.isList fun h' he hit hsz hk => wpAny_pyIter_enum he
      ⟨s1.heap.objs.size + 1, [s1.heap.objs.size + 1, s1.heap.objs.size], _, _, H1, rfl, I1.kept (t' := s1.toks) hk, turn_enum a (s1.heap.objs.size + 1) s1.heap.objs.size, ⟨⟨.none, he⟩, hit, Nat.succ_ne_self _⟩, two, q⟩
  · obtain ⟨its, rv, pl, hz⟩ := I1.tuple hq
    have hal : a < s1.heap.objs.size := pl.lt
    refine enum_call1 (begins_tuple a its.toArray) pl fun h' he hit hsz hk => wpAny_pyIter_enum he
      ⟨s1.heap.objs.size + 1, [s1.heap.objs.size + 1, s1.heap.objs.size], _, _, H1, rfl, I1.kept (t' := s1.toks) hk, turn_enumT a (s1.heap.objs.size + 1) s1.heap.objs.size, ⟨⟨.none, he⟩, ⟨_, hit, rfl, rfl⟩, Nat.succ_ne_self _, Nat.ne_of_lt hal, Nat.ne_of_lt (Nat.lt_of_lt_of_le hal (Nat.le_add_right _ _))⟩, two, q⟩
section
variable {K : PySem.W.Frag} {G H : Hp}
theorem ItOk.enumT {a : Addr} {vs : List V} {ds : List D} (r : SqT K G a vs) (t : TrAll K G vs ds) : ItOk K (IteT K a) G (enumD 0 ds) where
  go := fun i H h hi => by
    rw [enumD_len] at hi
    obtain ⟨v, e, _⟩ := t.get i (List.getElem?_eq_getElem hi)
    exact ⟨vs, v, sqT_mono h r, e⟩
  stop := fun i H h hi => ⟨vs, sqT_mono h r, by rw [enumD_len] at hi; rw [t.length]; exact hi⟩
  yld := fun i H Gc d x H' h1 h2 hd y => by
    obtain ⟨T, z, rfl, hT, rfl, y⟩ := y
    obtain ⟨x, hx, rfl⟩ := enumD_get ds 0 i d hd
    obtain ⟨v, e, tv⟩ := t.get i hx
    have := y vs (sqT_mono (h1.trans h2) r)
    rw [e] at this
    cases this
    rw [Int.zero_add]
    exact ⟨_, Grow.tup h2 hT, Tr.newTup h2 hT (.cons (.int _) (.cons (tv.mn h1) .nil))⟩
end
theorem wi_enum {X : Cx} {cf : CallF} {io : Nat → List Bool} {e : Expr} {ir : E} {p pos tpos : Pos} {elts : List Expr} {kk : Nat} (hg : Gl X "enumerate") (hm : X.mg "enumerate" = none) (he : PE X e (WE X.K cf io ir)) (hst : isStar e = false) :
    PI X (.Tuple elts kk tpos) (.Call (.Name "enumerate" p) [e] [] pos) (WI X.K cf io (.enum ir)) := by
  refine PI.wk (pi_enumA hg hm (pa_cons he pa_nil (star_cons hst)) (star_cons hst)) fun σ H R ⟨env, G, rl, xs, env', h, k⟩ => ?_
  simp only [evI, Option.bind_eq_some_iff] at h
  obtain ⟨⟨r, e1⟩, h1, ⟨d, e2⟩, h2, h3⟩ := h
  refine ⟨env, G, rl, r, e1, h1, fun v G1 H1 rl1 x1 q1 f1 => ?_⟩
  obtain ⟨G2, x2, rl2, t2, _⟩ := fz_ok x1 rl1 q1 f1 h2
  cases d <;> simp only [reduceCtorEq, Option.some.injEq, Prod.mk.injEq] at h3
  · obtain ⟨h3, h4⟩ := h3
    subst h3 h4
    obtain ⟨a, vs, rfl, r, t⟩ := t2.listG
    exact ⟨a, rfl, .inl ⟨vs, sqL_mono rl2.gh r, k _ G2 H1 rl2 x2 (.enum r t)⟩⟩
  · obtain ⟨h3, h4⟩ := h3
    subst h3 h4
    obtain ⟨a, vs, rfl, r, t⟩ := t2.tupG
    exact ⟨a, rfl, .inr ⟨vs, sqT_mono rl2.gh r, k _ G2 H1 rl2 x2 (.enumT r t)⟩⟩
end Ev


set_option Elab.async false
set_option linter.all false
set_option maxRecDepth 100000
set_option maxHeartbeats 1000000
/-! Soundness: targets, stores. -/
namespace Ev
open PySem PySem.Spec PyProof.Rows L2

/-- what a statement may change -/
structure Stp (σ : L2.St) (G H : Hp) (env : Env) (σ' : L2.St) (G' H' : Hp) (env' : Env) : Prop where
  g : Same G G'
  trk : ∀ a, H a ≠ none → H' a ≠ none
  far : ∀ a, H a ≠ none → G a = none → ¬ Owned env σ a → H' a = H a ∧ G' a = none ∧ ¬ Owned env' σ' a
  len : env'.length = env.length
  io : ∀ (i : Nat) (d : D), env[i]? = some (some (d, Fl.io)) → (∃ d', env'[i]? = some (some (d', Fl.io))) ∧ σ'[i]? = σ[i]?
section
variable {K : PySem.W.Frag} {σ σ1 σ2 : L2.St} {G H G1 H1 G2 H2 : Hp} {env env1 env2 : Env}
theorem Stp.refl : Stp σ G H env σ G H env := ⟨Same.refl _, fun _ h => h, fun _ _ g n => ⟨rfl, g, n⟩, rfl, fun _ d h => ⟨⟨d, h⟩, rfl⟩⟩
theorem Ext.stp (x : Ext σ G H env G1 H1 env1) : Stp σ G H env σ G1 H1 env1 :=
  ⟨x.g, x.trk, fun a h g n => ⟨(x.far a h g n).1, (x.far a h g n).2, fun z => n (x.owned z)⟩, x.len, fun i d h => ⟨x.ios i d h, rfl⟩⟩
theorem Stp.trans (x : Stp σ G H env σ1 G1 H1 env1) (y : Stp σ1 G1 H1 env1 σ2 G2 H2 env2) : Stp σ G H env σ2 G2 H2 env2 where
  g := x.g.trans y.g
  trk := fun a h => y.trk a (x.trk a h)
  far := fun a h g n => by
    obtain ⟨e1, g1, n1⟩ := x.far a h g n
    obtain ⟨e2, g2, n2⟩ := y.far a (by rw [e1]; exact h) g1 n1
    exact ⟨e2.trans e1, g2, n2⟩
  len := y.len.trans x.len
  io := fun i d h => by
    obtain ⟨⟨d1, h1⟩, e1⟩ := x.io i d h
    obtain ⟨h2, e2⟩ := y.io i d1 h1
    exact ⟨h2, e2.trans e1⟩
theorem store_some {i : Nat} {d : D} {f : Fl} (h : store env i d f = some env1) : i < env.length ∧ env1 = env.set i (some (d, f)) ∧ ∀ d0, env[i]? ≠ some (some (d0, Fl.io)) := by
  unfold store at h
  split at h
  · cases h
  · rename_i s hn hs
    cases h
    refine ⟨(List.getElem?_eq_some_iff.mp hs).1, rfl, fun d0 z => ?_⟩
    rw [hs] at z
    cases z
    exact hn d0 rfl
  · cases h
/-- a shared value into a slot -/
theorem store_sh {i : Nat} {d : D} {v : V} (rl : Rel K G H env σ) (t : Tr K G v d) (h : store env i d .sh = some env1) : Rel K G H env1 (σ.set i (some v)) ∧ Stp σ G H env (σ.set i (some v)) G H env1 := by
  obtain ⟨hi, rfl, hn⟩ := store_some h
  have hi' : i < σ.length := by rw [← rl.len]; exact hi
  have back : ∀ {j : Nat} {d0 : D} {f0 : Fl}, (env.set i (some (d, Fl.sh)))[j]? = some (some (d0, f0)) → f0 ≠ Fl.sh → i ≠ j ∧ env[j]? = some (some (d0, f0)) ∧ (σ.set i (some v))[j]? = σ[j]? := fun {j d0 f0} h hf => by
    have hij : i ≠ j := fun z => by
      subst z
      rw [List.getElem?_set_self hi] at h
      cases h
      exact hf rfl
    rw [List.getElem?_set_ne hij] at h
    exact ⟨hij, h, by rw [List.getElem?_set_ne hij]⟩
  refine ⟨⟨by rw [List.length_set, List.length_set]; exact rl.len, rl.gh, fun j d0 h => ?_, fun j d0 f0 h hf => ?_, fun j k d1 d2 f1 f2 b h1 hf1 h2 hf2 e1 e2 => ?_⟩, Same.refl _, fun _ h => h, fun a h g n => ⟨rfl, g, fun ⟨j, d0, f0, h1, h2, h3⟩ => ?_⟩, by rw [List.length_set], fun j d0 h => ?_⟩
  · by_cases hij : i = j
    · subst hij
      rw [List.getElem?_set_self hi] at h
      cases h
      exact ⟨v, by rw [List.getElem?_set_self hi'], t⟩
    · rw [List.getElem?_set_ne hij] at h
      rw [List.getElem?_set_ne hij]
      exact rl.sh j d0 h
  · obtain ⟨hij, h, e⟩ := back h hf
    rw [e]
    exact rl.ow j d0 f0 h hf
  · obtain ⟨_, h1, e1'⟩ := back h1 hf1
    obtain ⟨_, h2, e2'⟩ := back h2 hf2
    rw [e1'] at e1
    rw [e2'] at e2
    exact rl.ap j k d1 d2 f1 f2 b h1 hf1 h2 hf2 e1 e2
  · obtain ⟨_, h1, e1'⟩ := back h1 h2
    rw [e1'] at h3
    exact n ⟨j, d0, f0, h1, h2, h3⟩
  · have hij : i ≠ j := fun z => by subst z; exact hn d0 h
    rw [List.getElem?_set_ne hij, List.getElem?_set_ne hij]
    exact ⟨⟨d0, h⟩, rfl⟩
/-- a new thing into a slot -/
theorem store_ow {i : Nat} {d : D} {a : Addr} (rl : Rel K G1 H1 env1 σ) (x : Ext σ G H env G1 H1 env1) (ga : G1 a = none) (o : Own K G1 H1 a d) (no : ¬ Owned env1 σ a) (ha : H a = none) (h : store env1 i d .ow = some env2) :
    Rel K G1 H1 env2 (σ.set i (some (.ref a))) ∧ Stp σ G H env (σ.set i (some (.ref a))) G1 H1 env2 := by
  obtain ⟨hi, rfl, hn⟩ := store_some h
  have hi' : i < σ.length := by rw [← rl.len]; exact hi
  have back : ∀ {j : Nat} {d0 : D} {f0 : Fl}, (env1.set i (some (d, Fl.ow)))[j]? = some (some (d0, f0)) → (i = j ∧ d0 = d ∧ (σ.set i (some (V.ref a)))[j]? = some (some (V.ref a))) ∨ (i ≠ j ∧ env1[j]? = some (some (d0, f0)) ∧ (σ.set i (some (V.ref a)))[j]? = σ[j]?) := fun {j d0 f0} h => by
    by_cases hij : i = j
    · subst hij
      rw [List.getElem?_set_self hi] at h
      cases h
      exact .inl ⟨rfl, rfl, by rw [List.getElem?_set_self hi']⟩
    · rw [List.getElem?_set_ne hij] at h
      exact .inr ⟨hij, h, by rw [List.getElem?_set_ne hij]⟩
  refine ⟨⟨by rw [List.length_set, List.length_set]; exact rl.len, rl.gh, fun j d0 h => ?_, fun j d0 f0 h hf => ?_, fun j k d1 d2 f1 f2 b h1 hf1 h2 hf2 e1 e2 => ?_⟩, x.g, x.trk, fun b hb g n => ?_, by rw [List.length_set]; exact x.len, fun j d0 h => ?_⟩
  · rcases back h with ⟨rfl, _, _⟩ | ⟨hij, h, e⟩
    · rw [List.getElem?_set_self hi] at h
      cases h
    · rw [e]
      exact rl.sh j d0 h
  · rcases back h with ⟨rfl, rfl, e⟩ | ⟨hij, h, e⟩
    · exact ⟨a, e, ga, o⟩
    · rw [e]
      exact rl.ow j d0 f0 h hf
  · rcases back h1 with ⟨z1, z2, e1'⟩ | ⟨hij, g1, e1'⟩
    · rcases back h2 with ⟨z3, _, _⟩ | ⟨hik, g2, e2'⟩
      · exact z1.symm.trans z3
      · rw [e1'] at e1
        rw [e2'] at e2
        cases e1
        exact absurd ⟨k, d2, f2, g2, hf2, e2⟩ no
    · rcases back h2 with ⟨z1, z2, e2'⟩ | ⟨hik, g2, e2'⟩
      · rw [e1'] at e1
        rw [e2'] at e2
        cases e2
        exact absurd ⟨j, d1, f1, g1, hf1, e1⟩ no
      · rw [e1'] at e1
        rw [e2'] at e2
        exact rl.ap j k d1 d2 f1 f2 b g1 hf1 g2 hf2 e1 e2
  · obtain ⟨e1, g1⟩ := x.far b hb g n
    refine ⟨e1, g1, fun ⟨j, d0, f0, h1, h2, h3⟩ => ?_⟩
    rcases back h1 with ⟨rfl, rfl, e⟩ | ⟨hij, h1, e⟩
    · rw [e] at h3
      cases h3
      exact hb ha
    · rw [e] at h3
      exact n (x.owned ⟨j, d0, f0, h1, h2, h3⟩)
  · obtain ⟨d1, h1⟩ := x.ios j d0 h
    have hij : i ≠ j := fun z => by subst z; exact hn d1 h1
    rw [List.getElem?_set_ne hij, List.getElem?_set_ne hij]
    exact ⟨⟨d1, h1⟩, rfl⟩
theorem storeR_ok {i : Nat} {r : R} {v : V} (x : Ext σ G H env G1 H1 env1) (rl : Rel K G1 H1 env1 σ) (q : RRel K G1 H1 env1 σ r v) (fr : Fresh H r v) (h : storeR r env1 i = some env2) :
    ∃ G2, Rel K G2 H1 env2 (σ.set i (some v)) ∧ Stp σ G H env (σ.set i (some v)) G2 H1 env2 := by
  cases r with
  | v d f =>
    cases f with
    | sh =>
      obtain ⟨r1, s1⟩ := store_sh rl q h
      exact ⟨G1, r1, x.stp.trans s1⟩
    | io => exact q.elim
    | ow =>
      obtain ⟨a, ea, ga, o, no⟩ := q
      subst ea
      obtain ⟨r1, s1⟩ := store_ow rl x ga o no (fr rfl a rfl) h
      exact ⟨G1, r1, s1⟩
  | s j =>
    simp only [storeR, Option.bind_eq_some_iff] at h
    obtain ⟨⟨d, e1⟩, h1, h2⟩ := h
    obtain ⟨G2, x2, rl2, t2, _⟩ := fz_ok x rl q fr h1
    obtain ⟨r1, s1⟩ := store_sh rl2 t2 h2
    exact ⟨G2, r1, x2.stp.trans s1⟩

/-! ### targets -/
/-- outside the target's slots all is as it was -/
def OnlyT (tg : Tg) (σ : L2.St) (env : Env) (σ' : L2.St) (env' : Env) : Prop := σ'.length = σ.length ∧ env'.length = env.length ∧ ∀ i, i ∉ tgSlots tg → σ'[i]? = σ[i]? ∧ env'[i]? = env[i]?
def ShT (tg : Tg) (env' : Env) : Prop := ∀ i ∈ tgSlots tg, ∀ (d : D) (f : Fl), env'[i]? = some (some (d, f)) → f = Fl.sh
def WG (K : PySem.W.Frag) (tg : Tg) : TG := fun v σ H Q => ∃ env G d, Rel K G H env σ ∧ Tr K G v d ∧ ∃ env', bindT tg d env = some env' ∧
  ∀ σ', Rel K G H env' σ' → Stp σ G H env σ' G H env' → OnlyT tg σ env σ' env' → ShT tg env' → Q σ' H
theorem OnlyT.trans {a b : Tg} {c : Tg} (x : OnlyT a σ env σ1 env1) (y : OnlyT b σ1 env1 σ2 env2) (h : ∀ i, i ∈ tgSlots a ∨ i ∈ tgSlots b → i ∈ tgSlots c) : OnlyT c σ env σ2 env2 :=
  ⟨y.1.trans x.1, y.2.1.trans x.2.1, fun i hi => by
    obtain ⟨e1, e2⟩ := x.2.2 i fun z => hi (h i (.inl z))
    obtain ⟨e3, e4⟩ := y.2.2 i fun z => hi (h i (.inr z))
    exact ⟨e3.trans e1, e4.trans e2⟩⟩
theorem ShT.append {a b c : Tg} (x : ShT a env1) (y : ShT b env2) (o : OnlyT b σ1 env1 σ2 env2) (h : ∀ i, i ∈ tgSlots c → i ∈ tgSlots a ∨ i ∈ tgSlots b) : ShT c env2 := fun i hi d f e => by
  by_cases hb : i ∈ tgSlots b
  · exact y i hb d f e
  · have ha : i ∈ tgSlots a := by rcases h i hi with z | z; exact z; exact absurd z hb
    rw [(o.2.2 i hb).2] at e
    exact x i ha d f e
theorem bindT_pair {a b : Tg} {d : D} (h : bindT (.pair a b) d env = some env1) : ∃ x y e1, (d = .tuple [x, y] ∨ d = .list [x, y]) ∧ bindT a x env = some e1 ∧ bindT b y e1 = some env1 := by
  generalize hp : Tg.pair a b = t at h
  unfold bindT at h
  split at h <;> cases hp
  · rw [Option.bind_eq_some_iff] at h
    obtain ⟨e1, h1, h2⟩ := h
    exact ⟨_, _, e1, .inl rfl, h1, h2⟩
  · rw [Option.bind_eq_some_iff] at h
    obtain ⟨e1, h1, h2⟩ := h
    exact ⟨_, _, e1, .inr rfl, h1, h2⟩
  · cases h
theorem bindT_trip {a b c : Tg} {d : D} (h : bindT (.trip a b c) d env = some env1) : ∃ x y z e1 e2, (d = .tuple [x, y, z] ∨ d = .list [x, y, z]) ∧ bindT a x env = some e1 ∧ bindT b y e1 = some e2 ∧ bindT c z e2 = some env1 := by
  generalize hp : Tg.trip a b c = t at h
  unfold bindT at h
  split at h <;> cases hp
  · simp only [Option.bind_eq_some_iff] at h
    obtain ⟨e1, h1, e2, h2, h3⟩ := h
    exact ⟨_, _, _, e1, e2, .inl rfl, h1, h2, h3⟩
  · simp only [Option.bind_eq_some_iff] at h
    obtain ⟨e1, h1, e2, h2, h3⟩ := h
    exact ⟨_, _, _, e1, e2, .inr rfl, h1, h2, h3⟩
  · cases h
theorem Tr.items {G : Hp} {v : V} {d : D} {ds : List D} (t : Tr K G v d) (h : d = .tuple ds ∨ d = .list ds) (gh : Same G H) : ∃ a vs, v = .ref a ∧ (SqT K H a vs ∨ SqL K H a vs) ∧ TrAll K G vs ds := by
  rcases h with h | h
  · subst h
    obtain ⟨a, vs, e, r, t⟩ := t.tupG
    exact ⟨a, vs, e, .inl (sqT_mono gh r), t⟩
  · subst h
    obtain ⟨a, vs, e, r, t⟩ := t.listG
    exact ⟨a, vs, e, .inr (sqL_mono gh r), t⟩
end
section
variable {X : Cx} {g : GC} {cf : CallF} {io : Nat → List Bool} {n : Nat} {s : SC}
theorem PG.wk {e : Expr} {t t' : TG} (h : PG X e t) (w : ∀ v σ H Q, t' v σ H Q → t v σ H Q) : PG X e t' := ⟨fun pins s σ H v u Q I r q => h.run pins s σ H v u Q I r (w v σ H Q q)⟩
theorem PG.or {e : Expr} {t t' : TG} (h : PG X e t) (h' : PG X e t') : PG X e (fun v σ H Q => t v σ H Q ∨ t' v σ H Q) := ⟨fun pins s σ H v u Q I r q => by
  rcases q with q | q
  · exact h.run pins s σ H v u Q I r q
  · exact h'.run pins s σ H v u Q I r q⟩
theorem XOk.loc (h : XOk g cf io n s X) {x : Str} {i : Nat} (e : locOf s x = some i) : X.N[i]? = some x ∧ Loc X.env.scope x ∧ (X.fn x = true ∨ X.env.scope.names.lookup x = some .local) := by
  unfold locOf at e
  split at e
  · rename_i hv
    refine ⟨by rw [h.N]; exact ixStr_ok e, ?_⟩
    unfold locB at hv
    rw [h.sc, h.fn]
    split at hv
    · rename_i q; exact ⟨.inl q, .inr q⟩
    · rename_i q; exact ⟨.inr q, .inl hv⟩
    · cases hv
  · cases e
theorem cTg_plain {e : Expr} {t : Tg} (h : cTg s e = some t) : (∃ x p, e = .Name x p) ∨ ∃ es k p, e = .Tuple es k p := by
  unfold cTg at h
  split at h
  · exact .inl ⟨_, _, rfl⟩
  · exact .inr ⟨_, _, _, rfl⟩
  · exact .inr ⟨_, _, _, rfl⟩
  · cases h
theorem ae2 {a b : Expr} {env : PySem.Env} {ta tb : Tg} (ha : cTg s a = some ta) (hb : cTg s b = some tb) : (assignEach [a, b] env).length = 2 ∧ (assignEach [a, b] env).findIdx? (·.1) = none := by
  rcases cTg_plain ha with ⟨x, p, rfl⟩ | ⟨es, k, p, rfl⟩ <;> rcases cTg_plain hb with ⟨y, q, rfl⟩ | ⟨es', k', q, rfl⟩ <;> exact ⟨rfl, rfl⟩
theorem ae3 {a b c : Expr} {env : PySem.Env} {ta tb tc : Tg} (ha : cTg s a = some ta) (hb : cTg s b = some tb) (hc : cTg s c = some tc) : (assignEach [a, b, c] env).length = 3 ∧ (assignEach [a, b, c] env).findIdx? (·.1) = none := by
  rcases cTg_plain ha with ⟨x, p, rfl⟩ | ⟨es, k, p, rfl⟩ <;> rcases cTg_plain hb with ⟨y, q, rfl⟩ | ⟨es', k', q, rfl⟩ <;> rcases cTg_plain hc with ⟨z, q2, rfl⟩ | ⟨es2, k2, q2, rfl⟩ <;> exact ⟨rfl, rfl⟩
theorem wg_name (h : XOk g cf io n s X) {x : Str} {i : Nat} {p : Pos} (e : locOf s x = some i) : PG X (.Name x p) (WG X.K (.name i)) := by
  obtain ⟨h1, h2, h3⟩ := h.loc e
  have hN : X.N.Nodup := by rw [h.N]; exact h.nd
  refine PG.wk (pg_name hN h1 h2 h3) fun v σ H Q ⟨env, G, d, rl, t, env', hb, k⟩ => ?_
  have hb : store env i d .sh = some env' := hb
  obtain ⟨r1, s1⟩ := store_sh rl t hb
  obtain ⟨hi, e1, _⟩ := store_some hb
  refine k _ r1 s1 ⟨by rw [List.length_set], by rw [e1, List.length_set], fun j hj => ?_⟩ fun j hj d' f' hd => ?_
  · have hij : i ≠ j := fun z => hj (by rw [z]; exact List.mem_singleton.mpr rfl)
    rw [e1, List.getElem?_set_ne hij, List.getElem?_set_ne hij]
    exact ⟨rfl, rfl⟩
  · have hij : j = i := List.mem_singleton.mp hj
    subst hij
    rw [e1, List.getElem?_set_self hi] at hd
    cases hd
    rfl
theorem wg_tg (h : XOk g cf io n s X) : ∀ (t : Tg) (e : Expr), cTg s e = some t → PG X e (WG X.K t)
  | .name i, e, ht => by
    unfold cTg at ht
    split at ht
    · rw [Option.map_eq_some_iff] at ht
      obtain ⟨j, e1, e2⟩ := ht
      cases e2
      exact wg_name h e1
    · split at ht <;> cases ht
    · split at ht <;> cases ht
    · cases ht
  | .pair a b, e, ht => by
    unfold cTg at ht
    split at ht
    · rw [Option.map_eq_some_iff] at ht
      obtain ⟨j, e1, e2⟩ := ht
      cases e2
    · split at ht
      · rename_i ta tb ha hb
        cases ht
        obtain ⟨l1, l2⟩ := ae2 (env := X.env) ha hb
        have two := pgs_cons (wg_tg h a _ ha) (pgs_cons (wg_tg h b _ hb) pgs_nil (by rcases cTg_plain hb with ⟨y, q, rfl⟩ | ⟨es', k', q, rfl⟩ <;> rfl)) (by rcases cTg_plain ha with ⟨y, q, rfl⟩ | ⟨es', k', q, rfl⟩ <;> rfl)
        refine PG.wk (PG.or (pg_tup h.calm two l1 l2) (pg_lst h.calm two l1 l2)) fun v σ H Q ⟨env, G, d, rl, t, env', hb', k⟩ => ?_
        obtain ⟨x, y, e1, hd, h1, h2⟩ := bindT_pair hb'
        obtain ⟨c, vs, rfl, hs, ts⟩ := t.items hd rl.gh
        cases ts with
        | @cons v1 _ _ _ t1 ts => cases ts with
          | @cons v2 _ _ _ t2 ts => cases ts with
            | nil =>
              have fin : gCons (WG X.K a) (gCons (WG X.K b) gNil) [v1, v2] σ H Q := by
                refine ⟨v1, [v2], rfl, env, G, x, rl, t1, e1, h1, fun σ1 rl1 s1 o1 sh1 => ⟨v2, [], rfl, e1, G, y, rl1, t2, env', h2, fun σ2 rl2 s2 o2 sh2 => ⟨rfl, ?_⟩⟩⟩
                refine k σ2 rl2 (s1.trans s2) (o1.trans o2 fun i hi => ?_) (sh1.append sh2 o2 fun i hi => ?_)
                · simpa [tgSlots] using hi
                · simpa [tgSlots] using hi
              rcases hs with hs | hs
              · exact .inl ⟨c, _, rfl, hs, rfl, fin⟩
              · exact .inr ⟨c, _, rfl, hs, rfl, fin⟩
      · cases ht
    · split at ht <;> cases ht
    · cases ht
  | .trip a b c, e, ht => by
    unfold cTg at ht
    split at ht
    · rw [Option.map_eq_some_iff] at ht
      obtain ⟨j, e1, e2⟩ := ht
      cases e2
    · split at ht <;> cases ht
    · split at ht
      · rename_i ta tb tc ha hb hc
        cases ht
        obtain ⟨l1, l2⟩ := ae3 (env := X.env) ha hb hc
        have two := pgs_cons (wg_tg h a _ ha) (pgs_cons (wg_tg h b _ hb) (pgs_cons (wg_tg h c _ hc) pgs_nil (by rcases cTg_plain hc with ⟨y, q, rfl⟩ | ⟨es', k', q, rfl⟩ <;> rfl))
          (by rcases cTg_plain hb with ⟨y, q, rfl⟩ | ⟨es', k', q, rfl⟩ <;> rfl)) (by rcases cTg_plain ha with ⟨y, q, rfl⟩ | ⟨es', k', q, rfl⟩ <;> rfl)
        refine PG.wk (PG.or (pg_tup h.calm two l1 l2) (pg_lst h.calm two l1 l2)) fun v σ H Q ⟨env, G, d, rl, t, env', hb', k⟩ => ?_
        obtain ⟨x, y, z, e1, e2, hd, h1, h2, h3⟩ := bindT_trip hb'
        obtain ⟨c', vs, rfl, hs, ts⟩ := t.items hd rl.gh
        cases ts with
        | @cons v1 _ _ _ t1 ts => cases ts with
          | @cons v2 _ _ _ t2 ts => cases ts with
            | @cons v3 _ _ _ t3 ts => cases ts with
              | nil =>
                have fin : gCons (WG X.K a) (gCons (WG X.K b) (gCons (WG X.K c) gNil)) [v1, v2, v3] σ H Q := by
                  refine ⟨v1, [v2, v3], rfl, env, G, x, rl, t1, e1, h1, fun σ1 rl1 s1 o1 sh1 => ⟨v2, [v3], rfl, e1, G, y, rl1, t2, e2, h2, fun σ2 rl2 s2 o2 sh2 => ⟨v3, [], rfl, e2, G, z, rl2, t3, env', h3, fun σ3 rl3 s3 o3 sh3 => ⟨rfl, ?_⟩⟩⟩⟩
                  have o12 : OnlyT (.pair a b) σ env σ2 e2 := o1.trans o2 fun i hi => by simpa [tgSlots] using hi
                  have sh12 : ShT (.pair a b) e2 := sh1.append sh2 o2 fun i hi => by simpa [tgSlots] using hi
                  refine k σ3 rl3 ((s1.trans s2).trans s3) (o12.trans o3 fun i hi => ?_) (sh12.append sh3 o3 fun i hi => ?_)
                  · simpa [tgSlots, or_assoc] using hi
                  · simpa [tgSlots, or_assoc] using hi
                rcases hs with hs | hs
                · exact .inl ⟨c', _, rfl, hs, rfl, fin⟩
                · exact .inr ⟨c', _, rfl, hs, rfl, fin⟩
      · cases ht
    · cases ht
end
end Ev


set_option Elab.async false
set_option linter.all false
set_option maxRecDepth 100000
set_option maxHeartbeats 2000000
/-! Soundness: list comprehensions. -/
namespace Ev
open PySem PySem.Spec PyProof.Rows L2

section
variable {K : PySem.W.Frag} {σ σ1 σ2 : L2.St} {G H G1 H1 G2 H2 : Hp} {env env1 env2 : Env} {vs : List Nat}
theorem wipeE_len (env : Env) : ∀ vs : List Nat, (wipeE env vs).length = env.length
  | [] => rfl
  | v :: vs => by rw [wipeE, List.length_set, wipeE_len env vs]
theorem wipeE_out {i : Nat} : ∀ {vs : List Nat}, i ∉ vs → (wipeE env vs)[i]? = env[i]?
  | [], _ => rfl
  | v :: vs, h => by
    have h1 : v ≠ i := fun e => h (by rw [e]; exact List.mem_cons_self)
    rw [wipeE, List.getElem?_set_ne h1, wipeE_out fun m => h (List.mem_cons_of_mem _ m)]
theorem wipeE_in {i : Nat} : ∀ {vs : List Nat}, i ∈ vs → i < env.length → (wipeE env vs)[i]? = some none
  | v :: vs, h, hi => by
    rw [wipeE]
    by_cases hv : v = i
    · subst hv
      rw [List.getElem?_set_self (by rw [wipeE_len]; exact hi)]
    · rw [List.getElem?_set_ne hv]
      rcases List.mem_cons.mp h with z | z
      · exact absurd z.symm hv
      · exact wipeE_in z hi
theorem wipe_in {i : Nat} : ∀ {vs : List Nat}, i ∈ vs → i < σ.length → (wipe σ vs)[i]? = some none
  | v :: vs, h, hi => by
    unfold wipe
    by_cases hv : v = i
    · subst hv
      rw [List.getElem?_set_self (by rw [wipe_length]; exact hi)]
    · rw [List.getElem?_set_ne hv]
      rcases List.mem_cons.mp h with z | z
      · exact absurd z.symm hv
      · exact wipe_in z hi
theorem wipeE_some {i : Nat} {p : D × Fl} (h : (wipeE env vs)[i]? = some (some p)) : i ∉ vs ∧ env[i]? = some (some p) := by
  by_cases hi : i ∈ vs
  · have hl : i < env.length := by
      have := (List.getElem?_eq_some_iff.mp h).1
      rw [wipeE_len] at this
      exact this
    rw [wipeE_in hi hl] at h
    cases h
  · rw [wipeE_out hi] at h
    exact ⟨hi, h⟩
theorem wipe_eq {σ σ' : L2.St} (hl : σ'.length = σ.length) (h : ∀ i, i ∉ vs → σ'[i]? = σ[i]?) : wipe σ' vs = wipe σ vs := by
  apply List.ext_getElem?
  intro i
  by_cases hi : i ∈ vs
  · by_cases hlt : i < σ.length
    · rw [wipe_in hi hlt, wipe_in hi (by omega)]
    · rw [List.getElem?_eq_none (by rw [wipe_length]; omega), List.getElem?_eq_none (by rw [wipe_length]; omega)]
  · rw [wipe_out hi, wipe_out hi, h i hi]
theorem wipe_wipe {σ : L2.St} : wipe (wipe σ vs) vs = wipe σ vs := wipe_eq (wipe_length σ vs) fun i hi => wipe_out hi
theorem owned_wipe {a : Addr} (h : Owned (wipeE env vs) (wipe σ vs) a) : ∃ (i : Nat) (d : D) (f : Fl), i ∉ vs ∧ env[i]? = some (some (d, f)) ∧ f ≠ Fl.sh ∧ σ[i]? = some (some (V.ref a)) := by
  obtain ⟨i, d, f, h1, h2, h3⟩ := h
  obtain ⟨hi, h1⟩ := wipeE_some h1
  rw [wipe_out hi] at h3
  exact ⟨i, d, f, hi, h1, h2, h3⟩
theorem Rel.wipe (rl : Rel K G H env σ) (vs : List Nat) : Rel K G H (wipeE env vs) (L2.wipe σ vs) where
  len := by rw [wipeE_len, wipe_length]; exact rl.len
  gh := rl.gh
  sh := fun i d h => by
    obtain ⟨hi, h⟩ := wipeE_some h
    rw [wipe_out hi]
    exact rl.sh i d h
  ow := fun i d f h hf => by
    obtain ⟨hi, h⟩ := wipeE_some h
    rw [wipe_out hi]
    exact rl.ow i d f h hf
  ap := fun i j d d' f f' a h1 hf1 h2 hf2 e1 e2 => by
    obtain ⟨hi, h1⟩ := wipeE_some h1
    obtain ⟨hj, h2⟩ := wipeE_some h2
    rw [wipe_out hi] at e1
    rw [wipe_out hj] at e2
    exact rl.ap i j d d' f f' a h1 hf1 h2 hf2 e1 e2
/-- a foreign thing is changed -/
theorem Rel.updF (rl : Rel K G H env σ) {a : Addr} {u : HO} (ga : G a = none) (no : ¬ Owned env σ a) : Rel K G (upd H a u) env σ where
  len := rl.len
  gh := fun b o h => by rw [upd_ne (ne_of_none h ga)]; exact rl.gh b o h
  sh := rl.sh
  ow := fun i d f h hf => by
    obtain ⟨b, e, gb, o⟩ := rl.ow i d f h hf
    have hb : b ≠ a := fun z => by subst z; exact no ⟨i, d, f, h, hf, e⟩
    exact ⟨b, e, gb, o.mn (Same.refl _) (upd_ne hb)⟩
  ap := rl.ap
theorem Ext.updF (x : Ext σ G H env G1 H1 env1) {a : Addr} {u : HO} (ha : H a = none) : Ext σ G H env G1 (upd H1 a u) env1 where
  g := x.g
  trk := fun b hb => by
    by_cases z : b = a
    · subst z; rw [upd_same]; simp
    · rw [upd_ne z]; exact x.trk b hb
  far := fun b hb gb nb => by
    have z : b ≠ a := fun z => by subst z; exact hb ha
    rw [upd_ne z]
    exact x.far b hb gb nb
  len := x.len
  no := x.no
  shs := x.shs
  ows := x.ows
  ios := x.ios

/-- the state of a comprehension's loop: from (G0, H0, e0) on, where the new list at D was not there yet; ys: what the list has; vo: the block's own slots; vs: those that are wiped now -/
structure LS (K : PySem.W.Frag) (σo : L2.St) (vo : List Nat) (Dd : Addr) (G0 H0 : Hp) (e0 : Env) (σw : L2.St) (vs : List Nat) (G H : Hp) (en : Env) (ys : List D) : Prop where
  rel : Rel K G H (wipeE en vs) σw
  ext : Ext σo G0 H0 (wipeE e0 vo) G H (wipeE en vo)
  acc : ∃ acc, H Dd = some (.lst acc) ∧ TrAll K G acc ys
  gd : G Dd = none
  no : ¬ Owned (wipeE en vs) σw Dd
  h0 : H0 Dd = none
  shs : ∀ (i : Nat) (d : D) (f : Fl), i ∈ vo → (wipeE en vs)[i]? = some (some (d, f)) → f = Fl.sh
  hw : L2.wipe σw vo = σo
  sub : ∀ i ∈ vs, i ∈ vo

/-- what an iteration's inner run may change, seen with the block's own slots wiped -/
theorem Ext.wipe (x : Ext σ2 G H env1 G1 H1 env2) {σw : L2.St} {en : Env} (hs : L2.wipe σ2 vs = σw) (hl : en.length = env1.length) (ho : ∀ i, i ∉ vs → env1[i]? = en[i]?) (hsh : ∀ (i : Nat) (d : D) (f : Fl), i ∈ vs → env1[i]? = Option.some (Option.some (d, f)) → f = Fl.sh) :
    Ext σw G H (wipeE en vs) G1 H1 (wipeE env2 vs) where
  g := x.g
  trk := x.trk
  far := fun a ha ga na => x.far a ha ga fun ⟨i, d, f, h1, h2, h3⟩ => by
    by_cases hi : i ∈ vs
    · exact h2 (hsh i d f hi h1)
    · refine na ⟨i, d, f, ?_, h2, ?_⟩
      · rw [wipeE_out hi, ← ho i hi]; exact h1
      · rw [← hs, wipe_out hi]; exact h3
  len := by rw [wipeE_len, wipeE_len, x.len, hl]
  no := fun i h => by
    by_cases hi : i ∈ vs
    · have hlt : i < en.length := by
        have := (List.getElem?_eq_some_iff.mp h).1
        rw [wipeE_len] at this
        exact this
      exact wipeE_in hi (by rw [x.len, ← hl]; exact hlt)
    · rw [wipeE_out hi] at h ⊢
      exact x.no i (by rw [ho i hi]; exact h)
  shs := fun i d h => by
    obtain ⟨hi, h⟩ := wipeE_some h
    rw [wipeE_out hi]
    exact x.shs i d (by rw [ho i hi]; exact h)
  ows := fun i d h => by
    obtain ⟨hi, h⟩ := wipeE_some h
    rw [wipeE_out hi]
    exact x.ows i d (by rw [ho i hi]; exact h)
  ios := fun i d h => by
    obtain ⟨hi, h⟩ := wipeE_some h
    rw [wipeE_out hi]
    exact x.ios i d (by rw [ho i hi]; exact h)
end

theorem wipe_sub {σ : L2.St} {vs vs' : List Nat} (h : ∀ i ∈ vs, i ∈ vs') : wipe (wipe σ vs) vs' = wipe σ vs' := wipe_eq (wipe_length σ vs) fun i hi => wipe_out fun z => hi (h i z)
theorem wipeE_sub {env : Env} {vs vs' : List Nat} (h : ∀ i ∈ vs, i ∈ vs') : wipeE (wipeE env vs) vs' = wipeE env vs' := by
  apply List.ext_getElem?
  intro i
  by_cases hi : i ∈ vs'
  · by_cases hlt : i < env.length
    · rw [wipeE_in hi hlt, wipeE_in hi (by rw [wipeE_len]; exact hlt)]
    · rw [List.getElem?_eq_none (by rw [wipeE_len, wipeE_len]; omega), List.getElem?_eq_none (by rw [wipeE_len]; omega)]
  · rw [wipeE_out hi, wipeE_out hi, wipeE_out fun z => hi (h i z)]
theorem Ext.sh2 {σ : L2.St} {G H G1 H1 : Hp} {env env1 : Env} {vs : List Nat} (x : Ext σ G H env G1 H1 env1) (h : ∀ (i : Nat) (d : D) (f : Fl), i ∈ vs → env[i]? = Option.some (Option.some (d, f)) → f = Fl.sh) :
    ∀ (i : Nat) (d : D) (f : Fl), i ∈ vs → env1[i]? = Option.some (Option.some (d, f)) → f = Fl.sh := fun i d f hi h1 => by
  obtain ⟨s0, h0⟩ := x.slot h1
  cases s0 with
  | none =>
    have := x.no i h0
    rw [h1] at this
    cases this
  | some p =>
    obtain ⟨d0, f0⟩ := p
    have := h i d0 f0 hi h0
    subst this
    have := x.shs i d0 h0
    rw [h1] at this
    cases this
    rfl
section
variable {K : PySem.W.Frag} {σo σw σ2 : L2.St} {vo vs : List Nat} {Dd : Addr} {G0 H0 G H G1 H1 : Hp} {e0 en en1 : Env} {ys : List D}
theorem LS.step (l : LS K σo vo Dd G0 H0 e0 σ2 [] G H en ys) (x : Ext σ2 G H en G1 H1 en1) (rl : Rel K G1 H1 en1 σ2) : LS K σo vo Dd G0 H0 e0 σ2 [] G1 H1 en1 ys := by
  obtain ⟨acc, hD, t⟩ := l.acc
  obtain ⟨hD1, g1⟩ := x.far Dd (by rw [hD]; simp) l.gd l.no
  exact ⟨rl, l.ext.trans (x.wipe l.hw rfl (fun _ _ => rfl) l.shs), ⟨acc, by rw [hD1, hD], t.mn x.g⟩, g1, fun z => l.no (x.owned z), l.h0, x.sh2 l.shs, l.hw, l.sub⟩
theorem LS.wipe (l : LS K σo vo Dd G0 H0 e0 σw vs G H en ys) {vs' : List Nat} (h : ∀ i ∈ vs, i ∈ vs') (h' : ∀ i ∈ vs', i ∈ vo) : LS K σo vo Dd G0 H0 e0 (L2.wipe σw vs') vs' G H en ys where
  rel := by
    have r := l.rel.wipe vs'
    rw [wipeE_sub h] at r
    exact r
  ext := l.ext
  acc := l.acc
  gd := l.gd
  no := fun z => by
    rw [← wipeE_sub h] at z
    obtain ⟨i, d, f, _, h1, h2, h3⟩ := owned_wipe z
    exact l.no ⟨i, d, f, h1, h2, h3⟩
  h0 := l.h0
  shs := fun i d f hi z => by
    rw [← wipeE_sub h] at z
    exact l.shs i d f hi (wipeE_some z).2
  hw := by rw [wipe_sub h']; exact l.hw
  sub := h'
end

section
variable {K : PySem.W.Frag}
def WC (K : PySem.W.Frag) (cf : CallF) (io : Nat → List Bool) (c : Eo) : TT := fun σ H Q => ∃ env G, Rel K G H env σ ∧ ∃ b env', evC cf io c env = some (b, env') ∧
  ∀ G' H', Rel K G' H' env' σ → Ext σ G H env G' H' env' → Q b H'
/-- a clause's target and test -/
theorem head_ok {cf : CallF} {io : Nat → List Bool} {σo σ0 : L2.St} {vo vs : List Nat} {Dd : Addr} {G0 H0 : Hp} {e0 : Env} {G H G' H' : Hp} {en e2 e3 : Env} {ys : List D} {tg : Tg} {c : Eo} {x : D} {v : V} {k : Bool} {C : Bool → L2.St → Hp → Prop}
    (ls : LS K σo vo Dd G0 H0 e0 (wipe σ0 vs) vs G H en ys) (gr : Grow G H G' H') (tx : Tr K G' v x) (ht : ∀ i ∈ tgSlots tg, i ∈ vs)
    (hb : bindT tg x (wipeE en vs) = some e2) (hc : evC cf io c e2 = some (k, e3)) (hN : ∀ σ2 G3 H3, LS K σo vo Dd G0 H0 e0 σ2 [] G3 H3 e3 ys → Same G G3 → wipe σ2 vs = wipe σ0 vs → C k σ2 H3) :
    WG K tg v (wipe σ0 vs) H' fun σ2 H2 => wipe σ2 vs = wipe σ0 vs ∧ WC K cf io c σ2 H2 fun b H3 => C b σ2 H3 := by
  obtain ⟨acc, hD, tacc⟩ := ls.acc
  have rl' := ls.rel.grow gr
  have hD' : H' Dd = some (.lst acc) := gr.keep _ _ hD
  have gd' : G' Dd = none := gr.new Dd (by rw [hD]; simp) ls.gd
  refine ⟨wipeE en vs, G', x, rl', tx, e2, hb, fun σ2 rl2 s2 o2 sh2 => ?_⟩
  have hw : wipe σ2 vs = wipe σ0 vs := by
    have q : wipe σ2 vs = wipe (wipe σ0 vs) vs := wipe_eq o2.1 fun i hi => (o2.2.2 i fun z => hi (ht i z)).1
    rw [q, wipe_wipe]
  have hwo : wipe σ2 vo = σo := by
    rw [← wipe_sub ls.sub, hw]
    exact ls.hw
  have own2 : ∀ (i : Nat) (d : D) (f : Fl), i ∈ vo → e2[i]? = some (some (d, f)) → f = Fl.sh := fun i d f hi h => by
    by_cases hit : i ∈ tgSlots tg
    · exact sh2 i hit d f h
    · rw [(o2.2.2 i hit).2] at h
      exact ls.shs i d f hi h
  have out2 : ∀ i, i ∉ vo → e2[i]? = en[i]? := fun i hi => by rw [(o2.2.2 i fun z => hi (ls.sub i (ht i z))).2, wipeE_out fun z => hi (ls.sub i z)]
  have len2 : en.length = e2.length := by rw [o2.2.1, wipeE_len]
  have nod2 : ¬ Owned e2 σ2 Dd := fun ⟨i, d, f, h1, h2, h3⟩ => by
    by_cases hi : i ∈ vo
    · exact h2 (own2 i d f hi h1)
    · have nt : i ∉ tgSlots tg := fun z => hi (ls.sub i (ht i z))
      refine ls.no ⟨i, d, f, ?_, h2, ?_⟩
      · rw [← (o2.2.2 i nt).2]; exact h1
      · rw [← (o2.2.2 i nt).1]; exact h3
  have l2 : LS K σo vo Dd G0 H0 e0 σ2 [] G' H' e2 ys := ⟨rl2, (ls.ext.trans (.grow gr)).trans ((Ext.refl (σ := σ2) (G := G') (H := H') (env := e2)).wipe hwo len2 out2 own2), ⟨acc, hD', tacc.mn gr.g⟩, gd', nod2, ls.h0, own2, hwo, fun _ z => by cases z⟩
  refine ⟨hw, e2, G', rl2, k, e3, hc, fun G3 H3 rl3 x3 => ?_⟩
  exact hN σ2 G3 H3 (l2.step x3 rl3) (gr.g.trans x3.g) hw
/-- one iteration of an innermost clause -/
theorem body_ok {cf : CallF} {io : Nat → List Bool} {σo σ0 : L2.St} {vo vs : List Nat} {Dd : Addr} {G0 H0 : Hp} {e0 : Env} {G H G' H' : Hp} {en en' : Env} {ys o : List D} {tg : Tg} {c : Eo} {e : E} {x : D} {v : V} {Nx : Hp → Prop}
    (ls : LS K σo vo Dd G0 H0 e0 (wipe σ0 vs) vs G H en ys) (gr : Grow G H G' H') (tx : Tr K G' v x) (ht : ∀ i ∈ tgSlots tg, i ∈ vs)
    (hf : ((bindT tg x (wipeE en vs)).bind fun e2 => (evC cf io c e2).bind fun (k, e3) => if k = true then (evE cf io e e3).bind fun (r, e4) => (fz r e4).map fun (d, e5) => ([d], e5) else some ([], e3)) = some (o, en'))
    (hz : (ys ++ o).length ≤ LINE) (hN : ∀ G'' H'', LS K σo vo Dd G0 H0 e0 (wipe σ0 vs) vs G'' H'' en' (ys ++ o) → Same G G'' → Nx H'') :
    WG K tg v (wipe σ0 vs) H' fun σ2 H2 => wipe σ2 vs = wipe σ0 vs ∧ WC K cf io c σ2 H2 fun b H3 => if b = true then WE K cf io e σ2 H3 fun y H4 => ∃ acc, H4 Dd = some (.lst acc) ∧ acc.length < sizeLine ∧ Nx (upd H4 Dd (.lst (acc ++ [y]))) else Nx H3 := by
  have hs : (sizeLine : Nat) = 16777216 := sizeLine_eq
  simp only [Option.bind_eq_some_iff] at hf
  obtain ⟨e2, hb, ⟨k, e3⟩, hc, hk⟩ := hf
  refine head_ok ls gr tx ht hb hc fun σ2 G3 H3 l3 s3 hw => ?_
  cases k with
  | false =>
    simp only [Bool.false_eq_true, if_false, Option.some.injEq, Prod.mk.injEq] at hk ⊢
    obtain ⟨h1, h2⟩ := hk
    subst h1 h2
    have l4 := l3.wipe (vs' := vs) (fun _ z => by cases z) ls.sub
    rw [hw] at l4
    refine hN G3 H3 (by rw [List.append_nil]; exact l4) s3
  | true =>
    simp only [if_true, Option.bind_eq_some_iff, Option.map_eq_some_iff, Prod.mk.injEq] at hk ⊢
    obtain ⟨⟨r, e4⟩, h1, ⟨d, e5⟩, h2, h3, h4⟩ := hk
    subst h3 h4
    refine ⟨e3, G3, l3.rel, r, e4, h1, fun y G4 H4 rl4 x4 q4 f4 => ?_⟩
    obtain ⟨acc, hD3, t3⟩ := l3.acc
    obtain ⟨hD4, gd4⟩ := x4.far Dd (by rw [hD3]; simp) l3.gd l3.no
    obtain ⟨G5, x5, rl5, t5, gs5, gn5, ow5, sl5⟩ := fz_ok x4 rl4 q4 f4 h2
    have nod4 : ¬ Owned e4 σ2 Dd := fun z => l3.no (x4.owned z)
    have gd5 : G5 Dd = none := gn5 Dd (by rw [hD4, hD3]; simp) gd4 nod4 fun z => by
      have q := f4 z.1 Dd z.2
      rw [hD3] at q
      cases q
    have tl := t3.length
    rw [List.length_append] at hz
    refine ⟨acc, by rw [hD4, hD3], by rw [hs, tl]; simp only [List.length_singleton] at hz; exact hz, ?_⟩
    have l5 := l3.step x5 rl5
    have l6 : LS K σo vo Dd G0 H0 e0 σ2 [] G5 (upd H4 Dd (.lst (acc ++ [y]))) e5 (ys ++ [d]) := ⟨l5.rel.updF l5.gd l5.no, l5.ext.updF l5.h0, ⟨_, upd_same, ((t3.mn x4.g).mn gs5).append (.cons t5 .nil)⟩, l5.gd, l5.no, l5.h0, l5.shs, l5.hw, l5.sub⟩
    have l7 := l6.wipe (vs' := vs) (fun _ z => by cases z) ls.sub
    rw [hw] at l7
    exact hN G5 _ l7 (s3.trans (x4.g.trans gs5))
theorem loopC_step {f : D → Env → Option (List D × Env)} {xs : List D} {en e6 : Env} {ys : List D} {i : Nat} (h : loopC f (xs.drop i) en = some (ys, e6)) (hi : i < xs.length) :
    ∃ x o en' ys', xs[i]? = some x ∧ f x en = some (o, en') ∧ loopC f (xs.drop (i + 1)) en' = some (ys', e6) ∧ ys = o ++ ys' := by
  rw [List.drop_eq_getElem_cons hi] at h
  simp only [loopC, Option.bind_eq_some_iff, Option.map_eq_some_iff, Prod.mk.injEq] at h
  obtain ⟨⟨o, en'⟩, h1, ⟨ys', e'⟩, h2, h3, h4⟩ := h
  subst h3 h4
  exact ⟨_, o, en', ys', List.getElem?_eq_getElem hi, h1, h2, rfl⟩
/-- a comprehension's loop, whatever an iteration's step is -/
theorem loop_ok {σo σw : L2.St} {vo vs : List Nat} {Dd : Addr} {G0 H0 : Hp} {e0 : Env} {G1 H1 : Hp} {e1 e6 : Env} {ys0 ys : List D} {xs : List D} {J : L2.It} {f : D → Env → Option (List D × Env)} {step : V → Hp → (Hp → Prop) → Prop} {Qd : Hp → Prop}
    (it : ItOk K J G1 xs) (ls : LS K σo vo Dd G0 H0 e0 σw vs G1 H1 e1 ys0) (h : loopC f xs e1 = some (ys, e6)) (hz : (ys0 ++ ys).length ≤ LINE)
    (hs : ∀ G H G' H' en en' ysn x o v Nx, LS K σo vo Dd G0 H0 e0 σw vs G H en ysn → Grow G H G' H' → Tr K G' v x → f x en = some (o, en') → (ysn ++ o).length ≤ LINE → (∀ G'' H'', LS K σo vo Dd G0 H0 e0 σw vs G'' H'' en' (ysn ++ o) → Same G G'' → Nx H'') → step v H' Nx)
    (hd : ∀ G H, LS K σo vo Dd G0 H0 e0 σw vs G H e6 (ys0 ++ ys) → Same G1 G → Qd H) :
    ∃ W : Nat → Nat → Hp → Prop, (∃ m, W 0 m H1) ∧ ∀ i m H, W i m H → (J.stop i H ∧ Qd H) ∨ (J.go i H ∧ ∃ Nx : Hp → Prop, (∀ H', Nx H' → ∃ m', m' < m ∧ W (i + 1) m' H') ∧ ∀ x H', J.yld i H x H' → step x H' Nx) := by
  refine ⟨fun i m H => m = xs.length - i ∧ i ≤ xs.length ∧ ∃ G en ysd ysr, LS K σo vo Dd G0 H0 e0 σw vs G H en ysd ∧ Same G1 G ∧ loopC f (xs.drop i) en = some (ysr, e6) ∧ ys0 ++ ys = ysd ++ ysr, ⟨xs.length, by simp, Nat.zero_le _, G1, e1, ys0, ys, ls, Same.refl _, h, rfl⟩, ?_⟩
  rintro i m H ⟨rfl, hi, G, en, ysd, ysr, lsi, gs, hl, he⟩
  by_cases hlt : i < xs.length
  · obtain ⟨x, o, en', ys', hx, hf, hr, ey⟩ := loopC_step hl hlt
    refine .inr ⟨it.go i H (gs.trans lsi.rel.gh) hlt, fun H' => ∃ G', LS K σo vo Dd G0 H0 e0 σw vs G' H' en' (ysd ++ o) ∧ Same G1 G', fun H' ⟨G', l', gs'⟩ => ⟨xs.length - (i + 1), by omega, rfl, hlt, G', en', ysd ++ o, ys', l', gs', hr, by rw [he, ey, List.append_assoc]⟩, fun v H' y => ?_⟩
    obtain ⟨G', gr, tx⟩ := it.yld i H G x v H' gs lsi.rel.gh hx y
    refine hs G H G' H' en en' ysd x o v _ lsi gr tx hf (by rw [he, ey, ← List.append_assoc, List.length_append] at hz; omega) fun G'' H'' l g2 => ⟨G'', l, gs.trans g2⟩
  · have e : i = xs.length := by omega
    subst e
    rw [List.drop_length] at hl
    simp only [loopC, Option.some.injEq, Prod.mk.injEq] at hl
    obtain ⟨h1, h2⟩ := hl
    subst h1 h2
    rw [List.append_nil] at he
    exact .inl ⟨it.stop _ H (gs.trans lsi.rel.gh) (Nat.le_refl _), hd G H (by rw [he]; exact lsi) gs⟩
end
end Ev


set_option Elab.async false
set_option linter.all false
set_option maxRecDepth 100000
set_option maxHeartbeats 2000000
/-! Soundness: list comprehensions as values. -/
namespace Ev
open PySem PySem.Spec PyProof.Rows L2

theorem backE_len (old env : Env) : ∀ vs : List Nat, (backE old env vs).length = env.length
  | [] => rfl
  | v :: vs => by rw [backE, List.length_set, backE_len old env vs]
theorem backE_out {old env : Env} {i : Nat} : ∀ {vs : List Nat}, i ∉ vs → (backE old env vs)[i]? = env[i]?
  | [], _ => rfl
  | v :: vs, h => by
    have h1 : v ≠ i := fun e => h (by rw [e]; exact List.mem_cons_self)
    rw [backE, List.getElem?_set_ne h1, backE_out fun m => h (List.mem_cons_of_mem _ m)]
theorem backE_in {old env : Env} {i : Nat} : ∀ {vs : List Nat}, i ∈ vs → i < env.length → old.length = env.length → (backE old env vs)[i]? = old[i]?
  | v :: vs, h, hi, hl => by
    rw [backE]
    by_cases hv : v = i
    · subst hv
      rw [List.getElem?_set_self (by rw [backE_len]; exact hi), List.getElem?_eq_getElem (by omega)]
      rfl
    · rw [List.getElem?_set_ne hv]
      rcases List.mem_cons.mp h with z | z
      · exact absurd z.symm hv
      · exact backE_in z hi hl
section
variable {K : PySem.W.Frag} {σ : L2.St} {vs : List Nat} {Dd : Addr} {G H G1 H1 G6 H6 : Hp} {env e1 e6 : Env} {ys : List D}
theorem LS.len (l : LS K (L2.wipe σ vs) vs Dd G1 H1 e1 (L2.wipe σ vs) vs G6 H6 e6 ys) : e6.length = e1.length := by
  have := l.ext.len
  rw [wipeE_len, wipeE_len] at this
  exact this
theorem back_get (l : LS K (wipe σ vs) vs Dd G1 H1 e1 (wipe σ vs) vs G6 H6 e6 ys) {i : Nat} {p : Slot} (h : (backE e1 e6 vs)[i]? = some p) : (i ∈ vs ∧ e1[i]? = some p) ∨ (i ∉ vs ∧ e6[i]? = some p) := by
  by_cases hi : i ∈ vs
  · have hlt : i < e6.length := by
      have := (List.getElem?_eq_some_iff.mp h).1
      rw [backE_len] at this
      exact this
    rw [backE_in hi hlt l.len.symm] at h
    exact .inl ⟨hi, h⟩
  · rw [backE_out hi] at h
    exact .inr ⟨hi, h⟩
theorem own_in (rl : Rel K G1 H1 e1 σ) {i : Nat} {d : D} {f : Fl} {a : Addr} (hi : i ∈ vs) (h : e1[i]? = some (some (d, f))) (hf : f ≠ Fl.sh) (e : σ[i]? = some (some (V.ref a))) : ¬ Owned (wipeE e1 vs) (wipe σ vs) a := fun z => by
  obtain ⟨j, d', f', hj, h1, h2, h3⟩ := owned_wipe z
  have := rl.ap i j d d' f f' a h hf h1 h2 e h3
  subst this
  exact hj hi
theorem LS.back (rl : Rel K G1 H1 e1 σ) (l : LS K (L2.wipe σ vs) vs Dd G1 H1 e1 (L2.wipe σ vs) vs G6 H6 e6 ys) : Rel K G6 H6 (backE e1 e6 vs) σ where
  len := by rw [backE_len, l.len]; exact rl.len
  gh := l.rel.gh
  sh := fun i d h => by
    rcases back_get l h with ⟨hi, h⟩ | ⟨hi, h⟩
    · obtain ⟨v, e, t⟩ := rl.sh i d h
      exact ⟨v, e, t.mn l.ext.g⟩
    · obtain ⟨v, e, t⟩ := l.rel.sh i d (by rw [wipeE_out hi]; exact h)
      rw [wipe_out hi] at e
      exact ⟨v, e, t⟩
  ow := fun i d f h hf => by
    rcases back_get l h with ⟨hi, h⟩ | ⟨hi, h⟩
    · obtain ⟨a, e, ga, o⟩ := rl.ow i d f h hf
      obtain ⟨h6, g6⟩ := l.ext.far a o.ne ga (own_in rl hi h hf e)
      exact ⟨a, e, g6, o.mn l.ext.g h6⟩
    · obtain ⟨a, e, ga, o⟩ := l.rel.ow i d f (by rw [wipeE_out hi]; exact h) hf
      rw [wipe_out hi] at e
      exact ⟨a, e, ga, o⟩
  ap := fun i j d d' f f' a h1 hf1 h2 hf2 e1' e2' => by
    have mix : ∀ {i j : Nat} {d d' : D} {f f' : Fl}, i ∈ vs → e1[i]? = some (some (d, f)) → f ≠ Fl.sh → j ∉ vs → e6[j]? = some (some (d', f')) → f' ≠ Fl.sh → σ[i]? = some (some (V.ref a)) → σ[j]? = some (some (V.ref a)) → False := fun {i j d d' f f'} hi g1 q1 hj g2 q2 u1 u2 =>
      own_in rl hi g1 q1 u1 (l.ext.owned ⟨j, d', f', by rw [wipeE_out hj]; exact g2, q2, by rw [wipe_out hj]; exact u2⟩)
    rcases back_get l h1 with ⟨hi, g1⟩ | ⟨hi, g1⟩
    · rcases back_get l h2 with ⟨hj, g2⟩ | ⟨hj, g2⟩
      · exact rl.ap i j d d' f f' a g1 hf1 g2 hf2 e1' e2'
      · exact (mix hi g1 hf1 hj g2 hf2 e1' e2').elim
    · rcases back_get l h2 with ⟨hj, g2⟩ | ⟨hj, g2⟩
      · exact (mix hj g2 hf2 hi g1 hf1 e2' e1').elim
      · exact l.rel.ap i j d d' f f' a (by rw [wipeE_out hi]; exact g1) hf1 (by rw [wipeE_out hj]; exact g2) hf2 (by rw [wipe_out hi]; exact e1') (by rw [wipe_out hj]; exact e2')
theorem LS.backX (rl : Rel K G1 H1 e1 σ) (l : LS K (L2.wipe σ vs) vs Dd G1 H1 e1 (L2.wipe σ vs) vs G6 H6 e6 ys) : Ext σ G1 H1 e1 G6 H6 (backE e1 e6 vs) where
  g := l.ext.g
  trk := l.ext.trk
  far := fun a ha ga na => l.ext.far a ha ga fun z => by
    obtain ⟨j, d', f', hj, h1, h2, h3⟩ := owned_wipe z
    exact na ⟨j, d', f', h1, h2, h3⟩
  len := by rw [backE_len, l.len]
  no := fun i h => by
    by_cases hi : i ∈ vs
    · rw [backE_in hi (by rw [l.len]; exact (List.getElem?_eq_some_iff.mp h).1) l.len.symm]; exact h
    · have := l.ext.no i (by rw [wipeE_out hi]; exact h)
      rw [wipeE_out hi] at this
      rw [backE_out hi]; exact this
  shs := fun i d h => by
    by_cases hi : i ∈ vs
    · rw [backE_in hi (by rw [l.len]; exact (List.getElem?_eq_some_iff.mp h).1) l.len.symm]; exact h
    · have := l.ext.shs i d (by rw [wipeE_out hi]; exact h)
      rw [wipeE_out hi] at this
      rw [backE_out hi]; exact this
  ows := fun i d h => by
    by_cases hi : i ∈ vs
    · exact ⟨d, _, by rw [backE_in hi (by rw [l.len]; exact (List.getElem?_eq_some_iff.mp h).1) l.len.symm]; exact h, fun z => by cases z⟩
    · have := l.ext.ows i d (by rw [wipeE_out hi]; exact h)
      rw [wipeE_out hi] at this
      rw [backE_out hi]; exact this
  ios := fun i d h => by
    by_cases hi : i ∈ vs
    · exact ⟨d, by rw [backE_in hi (by rw [l.len]; exact (List.getElem?_eq_some_iff.mp h).1) l.len.symm]; exact h⟩
    · have := l.ext.ios i d (by rw [wipeE_out hi]; exact h)
      rw [wipeE_out hi] at this
      rw [backE_out hi]; exact this
theorem LS.start (rl : Rel K G1 H1 e1 σ) (hD : H1 Dd = none) : LS K (L2.wipe σ vs) vs Dd G1 H1 e1 (L2.wipe σ vs) vs G1 (upd H1 Dd (.lst [])) e1 [] := by
  have gd : G1 Dd = none := by
    cases z : G1 Dd with
    | none => rfl
    | some o => rw [rl.gh _ _ z] at hD; cases hD
  have no : ¬ Owned (wipeE e1 vs) (L2.wipe σ vs) Dd := fun z => by
    obtain ⟨j, d', f', hj, h1, h2, h3⟩ := owned_wipe z
    obtain ⟨a, e, ga, o⟩ := rl.ow j d' f' h1 h2
    rw [h3] at e
    cases e
    exact o.ne hD
  exact ⟨(rl.wipe vs).updF gd no, Ext.refl.updF hD, ⟨[], upd_same, .nil⟩, gd, no, hD, fun i d f hi z => absurd hi (wipeE_some z).1, wipe_wipe, fun _ z => z⟩
theorem LS.done (rl : Rel K G1 H1 e1 σ) (x1 : Ext σ G H env G1 H1 e1) (l : LS K (L2.wipe σ vs) vs Dd G1 H1 e1 (L2.wipe σ vs) vs G6 H6 e6 ys) :
    Rel K G6 H6 (backE e1 e6 vs) σ ∧ Ext σ G H env G6 H6 (backE e1 e6 vs) ∧ RRel K G6 H6 (backE e1 e6 vs) σ (.v (.list ys) .ow) (.ref Dd) ∧ Fresh H (.v (.list ys) .ow) (.ref Dd) := by
  have h0 := l.h0
  have r6 := l.back rl
  refine ⟨r6, x1.trans (l.backX rl), ⟨Dd, rfl, l.gd, ?_, fun z => ?_⟩, fun _ a e => ?_⟩
  · obtain ⟨acc, hD, t⟩ := l.acc
    exact ⟨acc, hD, t⟩
  · obtain ⟨i, d, f, g1, g2, g3⟩ := z
    rcases back_get l g1 with ⟨hi, q⟩ | ⟨hi, q⟩
    · obtain ⟨a, e, ga, o⟩ := rl.ow i d f q g2
      rw [g3] at e
      cases e
      exact o.ne h0
    · exact l.no ⟨i, d, f, by rw [wipeE_out hi]; exact q, g2, by rw [wipe_out hi]; exact g3⟩
  · cases e
    cases z : H Dd with
    | none => rfl
    | some o => exact absurd h0 (x1.trk Dd (by rw [z]; simp))
end
section
variable {X : Cx} {cf : CallF} {io : Nat → List Bool}
theorem comp_w {vs : List Nat} {tg : Tg} {it : It} {c : Eo} {er : E} {σ : L2.St} {H : Hp} {Q : VK} (ht : ∀ i ∈ tgSlots tg, i ∈ vs) (q : WE X.K cf io (.comp vs tg it c er) σ H Q) : tLc (WI X.K cf io it) (WG X.K tg) (WC X.K cf io c) (WE X.K cf io er) vs σ H Q := by
  obtain ⟨env, G, rl, rr, env', he, k⟩ := q
  simp only [evE, Option.bind_eq_some_iff] at he
  obtain ⟨⟨xs, e1⟩, h1, ⟨ys, e6⟩, h2, h3⟩ := he
  obtain ⟨hl, h3⟩ := ite'_some h3
  have hl := of_decide_eq_true hl
  cases h3
  refine ⟨env, G, rl, xs, e1, h1, fun J G1 H1 rl1 x1 it1 Dd hD => ?_⟩
  have l0 := LS.start (vs := vs) rl1 hD
  refine loop_ok (Qd := fun H6 => Q (.ref Dd) H6) (step := fun v H' Nx => WG X.K tg v (wipe σ vs) H' fun σ2 H2 => wipe σ2 vs = wipe σ vs ∧ WC X.K cf io c σ2 H2 fun b H3 => if b = true then WE X.K cf io er σ2 H3 fun y H4 => ∃ acc, H4 Dd = some (.lst acc) ∧ acc.length < sizeLine ∧ Nx (upd H4 Dd (.lst (acc ++ [y]))) else Nx H3)
    it1 l0 h2 (by rw [List.nil_append]; exact hl) (fun Ga Ha Gb Hb en en' ysn o x v Nx ls gr tx hf hz hN => body_ok ls gr tx ht hf hz hN) fun G6 H6 l6 _ => ?_
  rw [List.nil_append] at l6
  obtain ⟨a1, a2, a3, a4⟩ := l6.done rl1 x1
  exact k _ G6 H6 a1 a2 a3 a4
theorem we_comp {vs : List Nat} {tg : Tg} {it : It} {c : Eo} {er : E} {e : Expr} (h : PE X e (tLc (WI X.K cf io it) (WG X.K tg) (WC X.K cf io c) (WE X.K cf io er) vs)) (ht : ∀ i ∈ tgSlots tg, i ∈ vs) : PE X e (WE X.K cf io (.comp vs tg it c er)) :=
  h.wk fun σ H Q q => comp_w ht q
theorem comp2_w {vs vs1 : List Nat} {tg tg1 : Tg} {it it1 : It} {c c1 : Eo} {er : E} {σ : L2.St} {H : Hp} {Q : VK} (ht : ∀ i ∈ tgSlots tg, i ∈ vs) (ht1 : ∀ i ∈ tgSlots tg1, i ∈ vs1) (hv : ∀ i ∈ vs1, i ∈ vs)
    (q : WE X.K cf io (.comp2 vs vs1 tg it c tg1 it1 c1 er) σ H Q) : tLc2 (WI X.K cf io it) (WG X.K tg) (WC X.K cf io c) (WI X.K cf io it1) (WG X.K tg1) (WC X.K cf io c1) (WE X.K cf io er) vs vs1 σ H Q := by
  obtain ⟨env, G, rl, rr, env', he, k⟩ := q
  simp only [evE, Option.bind_eq_some_iff] at he
  obtain ⟨⟨xs, e1⟩, h1, ⟨ys, e6⟩, h2, h3⟩ := he
  obtain ⟨hl, h3⟩ := ite'_some h3
  have hl := of_decide_eq_true hl
  cases h3
  refine ⟨env, G, rl, xs, e1, h1, fun J G1 H1 rl1 x1 it1' Dd hD => ?_⟩
  have l0 := LS.start (vs := vs) rl1 hD
  refine loop_ok (Qd := fun H6 => Q (.ref Dd) H6) (step := fun v H' Nx => WG X.K tg v (wipe σ vs) H' fun σ2 H2 => wipe σ2 vs = wipe σ vs ∧ WC X.K cf io c σ2 H2 fun b H3 =>
      if b = true then WI X.K cf io it1 σ2 H3 fun J1 H4 => ∃ W1 : Nat → Nat → Hp → Prop, (∃ m, W1 0 m H4) ∧ ∀ j k H, W1 j k H →
        (J1.stop j H ∧ Nx H) ∨ (J1.go j H ∧ ∃ Nx1 : Hp → Prop, (∀ H', Nx1 H' → ∃ k', k' < k ∧ W1 (j + 1) k' H') ∧ ∀ x H', J1.yld j H x H' → WG X.K tg1 x (wipe σ2 vs1) H' fun σ3 H5 => wipe σ3 vs1 = wipe σ2 vs1 ∧ WC X.K cf io c1 σ3 H5 fun b H6 =>
          if b = true then WE X.K cf io er σ3 H6 fun y H7 => ∃ acc, H7 Dd = some (.lst acc) ∧ acc.length < sizeLine ∧ Nx1 (upd H7 Dd (.lst (acc ++ [y]))) else Nx1 H6)
      else Nx H3)
    it1' l0 h2 (by rw [List.nil_append]; exact hl) (fun Ga Ha Gb Hb en en' ysn o x v Nx ls gr tx hf hz hN => ?_) fun G6 H6 l6 _ => ?_
  · simp only [Option.bind_eq_some_iff] at hf
    obtain ⟨e2, hb, ⟨k, e3⟩, hc, hk⟩ := hf
    refine head_ok ls gr tx ht hb hc fun σ2 G3 H3 l3 s3 hw => ?_
    cases k with
    | false =>
      simp only [Bool.false_eq_true, if_false, Option.some.injEq, Prod.mk.injEq] at hk ⊢
      obtain ⟨h1, h2⟩ := hk
      subst h1 h2
      have l4 := l3.wipe (vs' := vs) (fun _ z => by cases z) ls.sub
      rw [hw] at l4
      refine hN G3 H3 (by rw [List.append_nil]; exact l4) s3
    | true =>
      simp only [if_true, Option.bind_eq_some_iff] at hk ⊢
      obtain ⟨⟨xs1, e4⟩, hi, hlp⟩ := hk
      refine ⟨e3, G3, l3.rel, xs1, e4, hi, fun J1 G4 H4 rl4 x4 it4 => ?_⟩
      have l4 := (l3.step x4 rl4).wipe (vs' := vs1) (fun _ z => by cases z) hv
      refine loop_ok (Qd := Nx) (step := fun v H' Nx1 => WG X.K tg1 v (wipe σ2 vs1) H' fun σ3 H5 => wipe σ3 vs1 = wipe σ2 vs1 ∧ WC X.K cf io c1 σ3 H5 fun b H6 => if b = true then WE X.K cf io er σ3 H6 fun y H7 => ∃ acc, H7 Dd = some (.lst acc) ∧ acc.length < sizeLine ∧ Nx1 (upd H7 Dd (.lst (acc ++ [y]))) else Nx1 H6)
        it4 l4 hlp hz (fun Gc Hc Gd' Hd' en1 en2 ysm o1 x1 v1 Nx1 ls1 gr1 tx1 hf1 hz1 hN1 => body_ok ls1 gr1 tx1 ht1 hf1 hz1 hN1) fun G6 H6 l6 s6 => ?_
      have l7 := l6.wipe (vs' := vs) hv (fun _ z => z)
      rw [wipe_sub hv, hw] at l7
      exact hN G6 H6 l7 (s3.trans (x4.g.trans s6))
  · rw [List.nil_append] at l6
    obtain ⟨a1, a2, a3, a4⟩ := l6.done rl1 x1
    exact k _ G6 H6 a1 a2 a3 a4
theorem we_comp2 {vs vs1 : List Nat} {tg tg1 : Tg} {it it1 : It} {c c1 : Eo} {er : E} {e : Expr} (h : PE X e (tLc2 (WI X.K cf io it) (WG X.K tg) (WC X.K cf io c) (WI X.K cf io it1) (WG X.K tg1) (WC X.K cf io c1) (WE X.K cf io er) vs vs1)) (ht : ∀ i ∈ tgSlots tg, i ∈ vs) (ht1 : ∀ i ∈ tgSlots tg1, i ∈ vs1) (hv : ∀ i ∈ vs1, i ∈ vs) :
    PE X e (WE X.K cf io (.comp2 vs vs1 tg it c tg1 it1 c1 er)) :=
  h.wk fun σ H Q q => comp2_w ht ht1 hv q
end
end Ev


set_option Elab.async false
set_option linter.all false
set_option maxRecDepth 100000
set_option maxHeartbeats 2000000
/-! Soundness: all expressions. -/
namespace Ev
open PySem PySem.Spec PyProof.Rows L2

/-- forms whose test is the truth of their value -/
def plainT : E → Bool
  | .not _ => false
  | .and _ _ => false
  | .or _ _ => false
  | _ => true
theorem evT_val {cf : CallF} {io : Nat → List Bool} {ir : E} (hp : plainT ir = true) : ∀ env b env', evT cf io ir env = some (b, env') → ∃ r d, evE cf io ir env = some (r, env') ∧ rd r env' = some d ∧ truD d = some b := by
  intro env b env' h
  cases ir <;> simp only [plainT, reduceCtorEq, Bool.false_eq_true] at hp <;> simp only [evT, reduceCtorEq] at h <;> simp only [evE]
  case var i =>
    simp only [Option.bind_eq_some_iff, Option.map_eq_some_iff, Prod.mk.injEq] at h
    obtain ⟨r, h1, d, h2, b', h3, h4, h5⟩ := h
    subst h4 h5
    exact ⟨r, d, by rw [h1]; rfl, h2, h3⟩
  case cmp op x y =>
    simp only [Option.bind_eq_some_iff, Option.map_eq_some_iff, Prod.mk.injEq] at h
    obtain ⟨⟨r1, e1⟩, h1, ⟨r2, e2⟩, h2, a, h3, c, h4, k, h5, h6, h7⟩ := h
    subst h6 h7
    exact ⟨.v (.bool k) .sh, .bool k, by simp only [h1, h2, h3, h4, h5, Option.bind_some, Option.map_some], rfl, rfl⟩
  case cmp2 op op' x y z =>
    simp only [Option.bind_eq_some_iff] at h
    obtain ⟨⟨r1, e1⟩, h1, ⟨r2, e2⟩, h2, h3⟩ := h
    split at h3
    · rename_i a c hr1 hr2
      have hr1 : r1 = .v a .sh := hr1
      have hr2 : r2 = .v c .sh := hr2
      subst hr1 hr2
      simp only [Option.bind_eq_some_iff] at h3
      obtain ⟨k, h4, h5⟩ := h3
      cases k with
      | false =>
        simp only [Bool.false_eq_true, if_false, Option.some.injEq, Prod.mk.injEq] at h5
        obtain ⟨h6, h7⟩ := h5
        subst h6 h7
        exact ⟨.v (.bool false) .sh, .bool false, by simp only [h1, h2, h4, Option.bind_some, Bool.false_eq_true, if_false], rfl, rfl⟩
      | true =>
        simp only [if_true, Option.bind_eq_some_iff, Option.map_eq_some_iff, Prod.mk.injEq] at h5
        obtain ⟨⟨r3, e3⟩, h6, d, h7, k', h8, h9, h10⟩ := h5
        subst h9 h10
        exact ⟨.v (.bool k') .sh, .bool k', by simp only [h1, h2, h4, h6, h7, h8, Option.bind_some, if_true, Option.map_some], rfl, rfl⟩
    · cases h3
  case call f args =>
    simp only [Option.bind_eq_some_iff, Option.map_eq_some_iff, Prod.mk.injEq] at h
    obtain ⟨⟨rs, e1⟩, h1, ⟨ds, e2, is⟩, h2, ⟨d, fl, outs⟩, h3, e3, h4, k, h5, h6, h7⟩ := h
    subst h6 h7
    exact ⟨.v d fl, d, by simp only [h1, h2, h3, h4, Option.bind_some, Option.map_some], rfl, h5⟩
  case callK f args kws perm =>
    simp only [Option.bind_eq_some_iff, Option.map_eq_some_iff, Prod.mk.injEq] at h
    obtain ⟨⟨rs, e1⟩, h1, ⟨ds, e2⟩, h2, ⟨rs2, e3⟩, h3, ⟨ds2, e4⟩, h4, ⟨d, fl⟩, h5, k, h6, h7, h8⟩ := h
    subst h7 h8
    exact ⟨.v d fl, d, by simp only [h1, h2, h3, h4, h5, Option.bind_some, val], rfl, h6⟩
  case blt bb args =>
    simp only [Option.bind_eq_some_iff, Option.map_eq_some_iff, Prod.mk.injEq] at h
    obtain ⟨⟨rs, e1⟩, h1, ds, h2, ⟨d, fl⟩, h3, k, h5, h6, h7⟩ := h
    subst h6 h7
    exact ⟨.v d fl, d, by simp only [h1, h2, h3, Option.bind_some, val], rfl, h5⟩
  case mth m o args =>
    simp only [Option.bind_eq_some_iff] at h
    obtain ⟨⟨r1, e1⟩, h1, h3⟩ := h
    split at h3
    · rename_i z hz
      have hz : r1 = .v (.str z) .sh := hz
      subst hz
      simp only [Option.bind_eq_some_iff, Option.map_eq_some_iff, Prod.mk.injEq] at h3
      obtain ⟨⟨rs, e2⟩, h4, ds, h5, ⟨d, fl⟩, h6, k, h7, h8, h9⟩ := h3
      subst h8 h9
      exact ⟨.v d fl, d, by simp only [h1, h4, h5, h6, Option.bind_some, val], rfl, h7⟩
    · cases h3
  case isi a ts =>
    simp only [Option.bind_eq_some_iff, Option.map_eq_some_iff, Prod.mk.injEq] at h
    obtain ⟨⟨r1, e1⟩, h1, d, h2, h3, h4⟩ := h
    subst h3 h4
    exact ⟨.v (.bool (isiD d ts)) .sh, .bool (isiD d ts), by simp only [h1, h2, Option.bind_some, Option.map_some], rfl, rfl⟩
  case ix a i =>
    simp only [Option.bind_eq_some_iff, Option.map_eq_some_iff, Prod.mk.injEq] at h
    obtain ⟨⟨r1, e1⟩, h1, ⟨r2, e2⟩, h2, a', h3, c, h4, d, h5, k, h6, h7, h8⟩ := h
    subst h7 h8
    exact ⟨.v d .sh, d, by simp only [h1, h2, h3, h4, h5, Option.bind_some, Option.map_some], rfl, h6⟩

section
variable {g : GC} {cf : CallF} {io : Nat → List Bool} {n : Nat} {s : SC} {X : Cx}
def Snd (g : GC) (cf : CallF) (io : Nat → List Bool) (n : Nat) (e : Expr) : Prop := ∀ (s : SC) (X : Cx), XOk g cf io n s X → PE X e (WE X.K cf io (cE g s e)) ∧ PT X e (WT X.K cf io (cE g s e))
theorem XOk.blk (h : XOk g cf io n s X) (s' : Shared) (H : Hp) (scope : Scope) (cl : List (Str × Addr)) (C : Addr) (fp : List Addr) : XOk g cf io n (s.blk scope) (X.blk s' H scope (compEnvC scope cl C X.env) fp) :=
  ⟨h.N, by show relS scope X.env.scope = _; rw [h.sc]; rfl, rfl, h.nd, h.calm, h.room, h.glob⟩
theorem cEs_cons {e : Expr} {r : List Expr} (h : isStar e = false) : cEs g s (e :: r) = .cons (cE g s e) (cEs g s r) := by
  rw [cEs]
  intro x p z
  subst z
  cases h
theorem star_form {e : Expr} (h : isStar e = true) : ∃ x p, e = .Starred x p := by
  cases e <;> first | exact ⟨_, _, rfl⟩ | cases h
theorem cEs_nil {es : List Expr} (h : cEs g s es = .nil) : es = [] := by
  cases es with
  | nil => rfl
  | cons e r =>
    by_cases hs : isStar e = true
    · obtain ⟨x, p, rfl⟩ := star_form hs
      rw [cEs] at h
      cases h
    · rw [cEs_cons (by simpa using hs)] at h
      cases h
theorem cEs_is {es : List Expr} {a : E} {r : Es} (h : cEs g s es = .cons a r) : ∃ e es', es = e :: es' ∧ isStar e = false ∧ a = cE g s e ∧ r = cEs g s es' := by
  cases es with
  | nil => rw [cEs] at h; cases h
  | cons e es' =>
    by_cases hs : isStar e = true
    · obtain ⟨x, p, rfl⟩ := star_form hs
      rw [cEs] at h
      cases h
    · have hs : isStar e = false := by simpa using hs
      rw [cEs_cons hs] at h
      cases h
      exact ⟨e, es', rfl, hs, rfl, rfl⟩
theorem ev_star : ∀ {es : List Expr}, es.any isStar = true → ∀ env, evEs cf io (cEs g s es) env = none
  | [], h, _ => by cases h
  | e :: r, h, env => by
    by_cases hs : isStar e = true
    · obtain ⟨x, p, rfl⟩ := star_form hs
      rw [cEs, evEs]
    · have hs : isStar e = false := by simpa using hs
      rw [List.any_cons, hs, Bool.false_or] at h
      rw [cEs_cons hs, evEs]
      cases evE cf io (cE g s e) env with
      | none => rfl
      | some p => simp only [Option.bind_some, ev_star h, Option.map_none]
theorem ws_all (h : XOk g cf io n s X) : ∀ {es : List Expr}, (∀ e ∈ es, Snd g cf io n e) → PA X es (WEs X.K cf io (cEs g s es))
  | [], _ => ws_nil
  | e :: r, hA => by
    by_cases hs : isStar e = true
    · obtain ⟨x, p, rfl⟩ := star_form hs
      exact .never fun σ H Q ⟨env, G, rl, rs, env', h1, _⟩ => by rw [ev_star (by simp [isStar])] at h1; cases h1
    · have hs : isStar e = false := by simpa using hs
      rw [cEs_cons hs]
      exact ws_cons (hA e (List.mem_cons_self ..) s X h).1 (ws_all h fun e' he => hA e' (List.mem_cons_of_mem _ he)) (star_cons hs)
theorem wd_all (h : XOk g cf io n s X) : ∀ {es : List Expr}, (∀ e ∈ es, Snd g cf io n e) → (∀ x p, Expr.Starred x p ∈ es → Snd g cf io n x) → PA X es (WEd X.K cf io (cEs g s es))
  | [], _, _ => wd_nil
  | e :: r, hA, hB => by
    have ih := wd_all h (es := r) (fun e' he => hA e' (List.mem_cons_of_mem _ he)) fun x p he => hB x p (List.mem_cons_of_mem _ he)
    by_cases hs : isStar e = true
    · obtain ⟨x, p, rfl⟩ := star_form hs
      rw [cEs]
      exact wd_star (hB x p (List.mem_cons_self ..) s X h).1 ih
    · have hs : isStar e = false := by simpa using hs
      rw [cEs_cons hs]
      exact wd_cons (hA e (List.mem_cons_self ..) s X h).1 ih (star_cons hs)
theorem star_any {env : PySem.Env} {pos : Pos} : ∀ {es : List Expr}, es.any isStar = false → (backTo pos (starEach es env)).any (·.1) = false
  | [], _ => rfl
  | e :: r, h => by
    rw [List.any_cons, Bool.or_eq_false_iff] at h
    rw [star_cons h.1]
    exact star_any (es := r) h.2
theorem bltIn {x : Str} {b : Blt} (h : cBlt x = some b) : x ∈ BLT ∧ bootBuiltins x = some (bltIs b) ∧ x ≠ "__name__" := by
  unfold cBlt at h
  repeat' (split at h)
  all_goals first
    | (rename_i q; cases h; subst q; exact ⟨by decide +kernel, by decide +kernel, by decide⟩)
    | cases h
theorem plain_fun {f : Str} {args : List Expr} {es : Es} : plainT (cFun g s f args es) = true := by
  unfold cFun
  repeat' split
  all_goals rfl
theorem cSet_inv {args : List Expr} {e' : E} (h : cSet args (cEs g s args) = some e') : ∃ p2 e0 pos2, args = [.Call (.Name "set" p2) [e0] [] pos2] ∧ isStar e0 = false ∧ e' = cE g s e0 ∧ isGl s "set" = true ∧ g.fns.lookup ("set" : Str) = none := by
  unfold cSet at h
  split at h
  · rename_i z p2 e0 pos2 e e1
    split at h
    · rename_i hz
      subst hz
      cases h
      rw [cEs_cons rfl] at e1
      injection e1 with e1 _
      rw [cE] at e1
      unfold cFun at e1
      split at e1
      · rename_i hg
        rw [Bool.and_eq_true] at hg
        split at e1
        · cases e1
        · rename_i hk
          rw [if_neg (by decide), if_pos rfl] at e1
          split at e1
          · rename_i ex e2
            cases e1
            obtain ⟨ea, ra, h1, hs, h2, e3⟩ := cEs_is e2
            cases h1
            exact ⟨p2, e0, pos2, rfl, hs, h2, hg.1, hk⟩
          · cases e1
      · cases e1
    · cases h
  · cases h
theorem se_fun (h : XOk g cf io n s X) (hf : ∀ t, g.fns.lookup (tyStr t) = none) {f : Str} {args : List Expr} {p pos : Pos} (hA : ∀ e ∈ args, Snd g cf io n e) (hA2 : ∀ f p a pos, Expr.Call (.Name f p) a [] pos ∈ args → ∀ e ∈ a, Snd g cf io n e) : PE X (.Call (.Name f p) args [] pos) (WE X.K cf io (cFun g s f args (cEs g s args))) := by
  unfold cFun
  split
  · rename_i hg
    rw [Bool.and_eq_true] at hg
    have hG := h.gl hg.1
    have hdb := (okName_ok hg.2).1
    split
    · rename_i k hk
      cases args with
      | nil => exact we_call0 h hG hk hdb
      | cons e r =>
        by_cases hst : (e :: r).any isStar = true
        · exact .never fun σ H Q ⟨env, G, rl, rr, env', h1, _⟩ => by simp only [evE, ev_star hst, Option.bind_none, reduceCtorEq] at h1
        · have hst : (e :: r).any isStar = false := by simpa using hst
          have hst' := hst
          rw [List.any_cons, Bool.or_eq_false_iff] at hst'
          exact we_call h hG hk hdb (ws_all h hA) (star_cons hst'.1) (star_any hst'.2)
    · rename_i hk
      split
      · rename_i hn
        subst hn
        split
        · rename_i a b l e1 e2
          split
          · rename_i hl
            obtain ⟨ea, ra, rfl, hs, rfl, e3⟩ := cEs_is e1
            obtain ⟨eb, rb, rfl, hs2, _, e4⟩ := cEs_is e3.symm
            have := cEs_nil e4.symm
            subst this
            exact tysOf_ok h hf hG (h.glob.blt _ (by decide +kernel) hk) e2 (hA ea (List.mem_cons_self ..) s X h).1 hs hl
          · exact we_bad
        · exact we_bad
      · split
        · split
          · exact .never fun σ H Q ⟨env, G, rl, rr, env', h1, _⟩ => by simp only [evE, reduceCtorEq] at h1
          · exact we_bad
        · split
          · rename_i hn
            subst hn
            split
            · rename_i e' e1
              obtain ⟨p2, e0, pos2, rfl, hs, rfl, hg2, hk2⟩ := cSet_inv e1
              exact we_sset h.calm h.hu hG (h.glob.blt _ (by decide +kernel) hk) (h.gl hg2) (h.glob.blt _ (by decide +kernel) hk2) (hA2 _ _ _ _ (List.mem_cons_self ..) e0 (List.mem_cons_self ..) s X h).1 (star_cons hs)
            · split
              · rename_i e' e1
                obtain ⟨ea, ra, rfl, hs, rfl, e3⟩ := cEs_is e1
                have := cEs_nil e3.symm
                subst this
                exact we_srt h.hu hG (h.glob.blt _ (by decide +kernel) hk) (hA ea (List.mem_cons_self ..) s X h).1 (star_cons hs)
              · exact we_bad
          · split
            · rename_i e' e1
              split
              · rename_i hn
                subst hn
                obtain ⟨p2, e0, pos2, rfl, hs, rfl, hg2, hk2⟩ := cSet_inv e1
                exact we_lset h.calm h.hu hG (h.glob.blt _ (by decide +kernel) hk) (h.gl hg2) (h.glob.blt _ (by decide +kernel) hk2) (hA2 _ _ _ _ (List.mem_cons_self ..) e0 (List.mem_cons_self ..) s X h).1 (star_cons hs)
              · exact we_bad
            · split
              · rename_i b hb
                obtain ⟨hm, hbt, hnn⟩ := bltIn hb
                cases args with
                | nil => rw [cEs]; exact we_bad
                | cons e r =>
                  by_cases hst : (e :: r).any isStar = true
                  · split
                    · exact we_bad
                    · exact .never fun σ H Q ⟨env, G, rl, rr, env', h1, _⟩ => by simp only [evE, ev_star hst, Option.bind_none, reduceCtorEq] at h1
                  · have hst : (e :: r).any isStar = false := by simpa using hst
                    have hst' := hst
                    rw [List.any_cons, Bool.or_eq_false_iff] at hst'
                    split
                    · exact we_bad
                    · exact we_blt (r := fun t => tCB (rnD X.K (bltD b)) t) (fun t ht => pe_bltAny h.calm hG (h.glob.blt _ hm hk) hbt ht hnn hdb (star_cons hst'.1) (star_any hst'.2)) (ws_all h hA)
              · exact we_bad
  · exact we_bad
theorem base_ok {o : Expr} {m : Str} {env : PySem.Env} (h : superB o = false) : attributeBase o m env (eval o env) = eval o env := by
  unfold attributeBase
  split
  · cases h
  · rfl
theorem plain_pop {o : Expr} {es : Es} : plainT (cPop s o es) = true := by
  unfold cPop
  repeat' split
  all_goals rfl
theorem plain_meth {m : Str} {o : E} {es : Es} : plainT (cMeth m o es) = true := by
  unfold cMeth
  repeat' split
  all_goals rfl
theorem se_pop (h : XOk g cf io n s X) {o : Expr} {args : List Expr} {ap pos : Pos} (hA : ∀ e ∈ args, Snd g cf io n e) (hb : superB o = false) (hl : (ap.endLine == pos.line) = true) : PE X (.Call (.Attribute o "pop" ap) args [] pos) (WE X.K cf io (cPop s o (cEs g s args))) := by
  unfold cPop
  split
  · rename_i x p
    split
    · rename_i i hi
      split
      · rename_i e1
        have := cEs_nil e1
        subst this
        exact we_pop (h.pv hi) (base_ok hb) hl
      · rename_i k e1
        obtain ⟨ek, r, rfl, hs, rfl, e2⟩ := cEs_is e1
        have := cEs_nil e2.symm
        subst this
        refine we_popAt (h.pv hi) (hA ek (List.mem_cons_self ..) s X h).1 (base_ok hb) ?_ hl (star_cons hs)
        rw [star_cons hs]
        rfl
      · exact we_bad
    · exact we_bad
  · exact we_bad
theorem pe_mthIs (h : XOk g cf io n s X) {m : Str} {mm : Mth} {o a : Expr} {ap pos : Pos} {to te : TE} (e : cMth m = some mm) (hb : superB o = false) (hl : (ap.endLine == pos.line) = true) (hs : isStar a = false) (ho : PE X o to) (ha : PE X a te) :
    PE X (.Call (.Attribute o m ap) [a] [] pos) (tM1 (rMth X.K mm) to te) := by
  have hr := mt_D (X := X) mm
  unfold cMth at e
  repeat' (split at e)
  all_goals first
    | (rename_i q; cases e; subst q; first
      | exact pe_m1 PySem.F.slot_str_split PySem.F.type_str_split hr ho ha (star_cons hs) (base_ok hb) hl
      | exact pe_m1 PySem.F.slot_str_count PySem.F.type_str_count hr ho ha (star_cons hs) (base_ok hb) hl
      | exact pe_m1 PySem.F.slot_str_index PySem.F.type_str_index hr ho ha (star_cons hs) (base_ok hb) hl
      | exact pe_m1 PySem.F.slot_str_join PySem.F.type_str_join hr ho ha (star_cons hs) (base_ok hb) hl
      | exact pe_m1 PySem.F.slot_str_startswith PySem.F.type_str_startswith hr ho ha (star_cons hs) (base_ok hb) hl)
    | cases e
theorem se_meth (h : XOk g cf io n s X) {m : Str} {o : Expr} {args : List Expr} {ap pos : Pos} (hO : Snd g cf io n o) (hA : ∀ e ∈ args, Snd g cf io n e) (hb : superB o = false) (hl : (ap.endLine == pos.line) = true) : PE X (.Call (.Attribute o m ap) args [] pos) (WE X.K cf io (cMeth m (cE g s o) (cEs g s args))) := by
  unfold cMeth
  split
  · rename_i mm hm
    split
    · rename_i a e1
      obtain ⟨ea, r, rfl, hs, rfl, e2⟩ := cEs_is e1
      have := cEs_nil e2.symm
      subst this
      exact we_mth (fun to te h1 h2 => pe_mthIs h hm hb hl hs h1 h2) (hO s X h).1 (hA ea (List.mem_cons_self ..) s X h).1
    · exact we_bad
  · exact we_bad

/-! ### sources of loops -/
theorem PI.never {tg e : Expr} {t : TI} (h : ∀ σ H R, ¬ t σ H R) : PI X tg e t := ⟨fun _ _ σ H R _ q => (h σ H R q).elim⟩
theorem wi_bad {tg e : Expr} : PI X tg e (WI X.K cf io (.seq .bad)) := PI.never fun σ H R ⟨env, G, rl, xs, env', h, _⟩ => by simp only [evI, evE, Option.bind_none, reduceCtorEq] at h
theorem isTup_form {e : Expr} (h : isTup e = true) : ∃ es k p, e = .Tuple es k p := by
  cases e <;> first | exact ⟨_, _, _, rfl⟩ | cases h
theorem se_rng (h : XOk g cf io n s X) {tg : Expr} {f : Str} {args : List Expr} {p pos : Pos} {whole : E} (hW : PE X (.Call (.Name f p) args [] pos) (WE X.K cf io whole)) (hA : ∀ e ∈ args, Snd g cf io n e) :
    PI X tg (.Call (.Name f p) args [] pos) (WI X.K cf io (cRng g s (isTup tg) whole f (cEs g s args))) := by
  unfold cRng
  split
  · rename_i hg
    rw [Bool.and_eq_true, Option.isNone_iff_eq_none] at hg
    have hG := h.gl hg.1
    split
    · rename_i hn
      subst hn
      have hm := h.glob.blt "range" (by decide +kernel) hg.2
      split
      · rename_i a e1
        obtain ⟨ea, ra, rfl, hs, rfl, e2⟩ := cEs_is e1
        have := cEs_nil e2.symm
        subst this
        exact wi_range1 hG hm (hA _ (by simp) s X h).1 hs
      · rename_i a b e1
        obtain ⟨ea, ra, rfl, hs, rfl, e2⟩ := cEs_is e1
        obtain ⟨eb, rb, rfl, hs2, rfl, e3⟩ := cEs_is e2.symm
        have := cEs_nil e3.symm
        subst this
        exact wi_range2 hG hm (hA _ (by simp) s X h).1 (hA _ (by simp) s X h).1 hs hs2
      · rename_i a b c e1
        obtain ⟨ea, ra, rfl, hs, rfl, e2⟩ := cEs_is e1
        obtain ⟨eb, rb, rfl, hs2, rfl, e3⟩ := cEs_is e2.symm
        obtain ⟨ec, rc, rfl, hs3, rfl, e4⟩ := cEs_is e3.symm
        have := cEs_nil e4.symm
        subst this
        exact wi_range3 hG hm (hA _ (by simp) s X h).1 (hA _ (by simp) s X h).1 (hA _ (by simp) s X h).1 hs hs2 hs3
      · exact wi_bad
    · split
      · rename_i hn
        subst hn
        have hm := h.glob.blt "enumerate" (by decide +kernel) hg.2
        split
        · rename_i a e1
          obtain ⟨ea, ra, rfl, hs, rfl, e2⟩ := cEs_is e1
          have := cEs_nil e2.symm
          subst this
          split
          · rename_i ht
            obtain ⟨es, k, q, rfl⟩ := isTup_form ht
            exact wi_enum hG hm (hA _ (by simp) s X h).1 hs
          · exact wi_bad
        · exact wi_bad
      · split
        · rename_i hn
          subst hn
          have hm := h.glob.blt "zip" (by decide +kernel) hg.2
          split
          · rename_i a b e1
            obtain ⟨ea, ra, rfl, hs, rfl, e2⟩ := cEs_is e1
            obtain ⟨eb, rb, rfl, hs2, rfl, e3⟩ := cEs_is e2.symm
            have := cEs_nil e3.symm
            subst this
            split
            · rename_i ht
              obtain ⟨es, k, q, rfl⟩ := isTup_form ht
              exact wi_zip hG hm (hA _ (by simp) s X h).1 (hA _ (by simp) s X h).1 hs hs2
            · exact wi_bad
          · exact wi_bad
        · exact wi_seq hW
  · exact wi_seq hW
end
end Ev


set_option Elab.async false
set_option linter.all false
set_option maxRecDepth 100000
set_option maxHeartbeats 2000000
/-! Soundness: calls with keywords. -/
namespace Ev
open PySem PySem.Spec PyProof.Rows L2

theorem TrAll.perm {K : PySem.W.Frag} {G : Hp} {vs : List V} {ds : List D} (t : TrAll K G vs ds) : ∀ perm : List Nat, TrAll K G (permL perm vs) (permL perm ds)
  | [] => .nil
  | i :: r => by
    have hl := t.length
    unfold permL
    by_cases hi : i < ds.length
    · obtain ⟨v, e, tv⟩ := t.get i (List.getElem?_eq_getElem hi)
      rw [e, List.getElem?_eq_getElem hi]
      exact .cons tv (t.perm r)
    · rw [List.getElem?_eq_none (by omega), List.getElem?_eq_none (by omega)]
      exact t.perm r
theorem Vals.perm {vs : List V} {us : List Value} (t : Vals vs us) : ∀ perm : List Nat, Vals (permL perm vs) (permL perm us)
  | [] => .nil
  | i :: r => by
    have hl := t.length
    unfold permL
    by_cases hi : i < vs.length
    · have get : ∀ {vs : List V} {us : List Value}, Vals vs us → ∀ (i : Nat) (h : i < vs.length), ∃ v u, vs[i]? = some v ∧ us[i]? = some u ∧ RelV v u := by
        intro vs us t
        induction t with
        | nil => intro i h; cases h
        | cons r t ih =>
          intro i h
          cases i with
          | zero => exact ⟨_, _, rfl, rfl, r⟩
          | succ i =>
            obtain ⟨v, u, e1, e2, rr⟩ := ih i (by simpa using h)
            exact ⟨v, u, by simpa using e1, by simpa using e2, rr⟩
      obtain ⟨v, u, e1, e2, rr⟩ := get t i hi
      rw [e1, e2]
      exact .cons rr (Vals.perm t r)
    · rw [List.getElem?_eq_none (by omega), List.getElem?_eq_none (by omega)]
      exact Vals.perm t r
section
variable {K : PySem.W.Frag} {G H : Hp}
theorem ArgsRel.allSh : ∀ {ms : List Bool} {vs : List V} {ds : List D}, ms.all (fun m => !m) = true → ds.length = ms.length → TrAll K G vs ds → ArgsRel K G H ms vs ds ∧ IoA ms vs = []
  | [], _, _, _, hl, t => by
    have := List.eq_nil_of_length_eq_zero hl
    subst this
    cases t
    exact ⟨trivial, rfl⟩
  | true :: _, _, _, h, _, _ => by cases h
  | false :: ms, _, [], _, hl, _ => by cases hl
  | false :: ms, _, d :: ds, h, hl, t => by
    cases t with
    | cons t1 t =>
      obtain ⟨a, b⟩ := ArgsRel.allSh (ms := ms) h (by simpa using hl) t
      exact ⟨⟨t1, a⟩, by rw [IoA]; exact b; simp⟩
theorem Post.grow {G' H' : Hp} {v : V} {d : D} {fl : Fl} {outs : List D} (p : Post K [] G H G' H' v d fl outs) (gh : Same G H) : Grow G H G' H' where
  g := p.g
  gh := p.gh
  keep := fun a o e => by
    by_cases ga : G a = none
    · rw [(p.far a (by rw [e]; simp) ga (by simp)).1]; exact e
    · cases z : G a with
      | none => exact absurd z ga
      | some o' =>
        have := gh _ _ z
        rw [e] at this
        cases this
        exact p.gh _ _ (p.g _ _ z)
  new := fun a h g => (p.far a h g (by simp)).2
end
section
variable {X : Cx} {CX : CXT} {k n : Nat} {f : Addr} {fd : FuncData} {ps ks : List Str} {sp : Sp} {E : XK} {x : Str} {p pos : Pos} {kws : List Keyword} {tk : TA} {g : List Value → List Value → List Value} {gV : List V → List V → List V}
/-- f(k = v, ..), nothing by position -/
theorem pe_callN0 (F : FnOk X.prog X.w X.K X.mg X.base CX k f fd ps sp) (hr : Room k X.A) (hg : Gl X x) (hm : X.mg x = some (.ref f)) (hk : PySem.W.keepIn X.K (.ref f) = true) (hb : KBn X.K fd ps n ks g gV) (hx : Passes CX X E)
    (hkw : PK X kws tk) (hall : (backToKw pos (keywordEach kws X.env)).all (·.1.isSome) = true) (hks : (backToKw pos (keywordEach kws X.env)).filterMap (·.1) = ks)
    (hdb : (x == ("__debug__" : Str)) = false)
    (hpl : ((backTo pos (starEach [] X.env)).any (·.1) || (backToKw pos (keywordEach kws X.env)).any (·.1.isNone)) = false) :
    PE X (.Call (.Name x p) [] kws pos) (tCallN n ks.length sp gV E tNil tk) := by
  refine ⟨fun pins s σ H Q I h => ?_⟩
  refine wpAny_Call_Name_kw (ld_glob I hg hm ?_ hdb)
  refine PySem.W.callWith_KW0 (h₀ := X.base) I.ok.mod.kin hk hall (thn (hkw.run pos pins s σ H _ I h) fun ws s2 ⟨zs, H2, I2, rz, l1, l2, q2⟩ => ⟨I2.kIn, ?_⟩) hpl
  rw [hks]
  exact run_fnN (us := []) (vs := []) F hr hb hx I2 .nil rz l1 l2 q2
end
section
variable {g : GC} {cf : CallF} {io : Nat → List Bool} {n : Nat} {s : SC} {X : Cx}
theorem PK.wk {kws : List Keyword} {t t' : TA} (h : PK X kws t) (w : ∀ σ H Q, t' σ H Q → t σ H Q) : PK X kws t' := ⟨fun p pins s σ H Q I q => h.run p pins s σ H Q I (w σ H Q q)⟩
theorem ws_w {ea : E} {ir : Es} {σ : L2.St} {H : Hp} {Q : List V → Hp → Prop} (h : WEs X.K cf io (.cons ea ir) σ H Q) : tCons (WE X.K cf io ea) (WEs X.K cf io ir) σ H Q := by
  obtain ⟨env, G, rl, rr, env', h, k⟩ := h
  simp only [evEs, Option.bind_eq_some_iff, Option.map_eq_some_iff, Prod.mk.injEq] at h
  obtain ⟨⟨r1, e1⟩, h1, ⟨rs, e2⟩, h2, h3, h4⟩ := h
  subst h3 h4
  refine ⟨env, G, rl, r1, e1, h1, fun v1 G1 H1 rl1 x1 q1 f1 => ⟨e1, G1, rl1, rs, e2, h2, fun vs G2 H2 rl2 x2 q2 => ?_⟩⟩
  refine k _ G2 H2 rl2 (x1.trans x2) (.cons (q1.step x2) f1 (fun b ht hv z => ?_) (q2.back x1))
  have hb := q2.fresh z
  cases r1 with
  | s i => cases ht
  | v d f =>
    cases f <;> simp only [isTemp, reduceCtorEq] at ht
    obtain ⟨b', eb, _, o, _⟩ := q1
    rw [hv] at eb
    cases eb
    exact o.ne hb
theorem pk_all (h : XOk g cf io n s X) : ∀ {kws : List Keyword}, (∀ kw ∈ kws, Snd g cf io n kw.value) → PK X kws (WEs X.K cf io (cKs g s kws))
  | [], _ => PK.wk pk_nil fun σ H Q ⟨env, G, rl, rr, env', h, k⟩ => by
    rw [cKs] at h
    simp only [evEs, Option.some.injEq, Prod.mk.injEq] at h
    obtain ⟨h1, h2⟩ := h
    subst h1 h2
    exact k [] G H rl .refl .nil
  | ⟨nm, e, q⟩ :: r, hA => by
    rw [cKs]
    exact PK.wk (pk_cons (hA ⟨nm, e, q⟩ (List.mem_cons_self ..) s X h).1 (pk_all h fun kw hk => hA kw (List.mem_cons_of_mem _ hk))) fun σ H Q q => ws_w q
theorem ev_len : ∀ {es : List Expr}, es.any isStar = false → ∀ {env : Env} {rs : List R} {e2 : Env}, evEs cf io (cEs g s es) env = some (rs, e2) → rs.length = es.length
  | [], _, env, rs, e2, h => by
    rw [cEs, evEs] at h
    cases h
    rfl
  | e :: r, hs, env, rs, e2, h => by
    rw [List.any_cons, Bool.or_eq_false_iff] at hs
    rw [cEs_cons hs.1] at h
    simp only [evEs, Option.bind_eq_some_iff, Option.map_eq_some_iff, Prod.mk.injEq] at h
    obtain ⟨⟨r1, e1⟩, h1, ⟨rs', e3⟩, h2, h3, h4⟩ := h
    subst h3
    rw [List.length_cons, List.length_cons, ev_len hs.2 h2]
theorem evK_len : ∀ {kws : List Keyword} {env : Env} {rs : List R} {e2 : Env}, evEs cf io (cKs g s kws) env = some (rs, e2) → rs.length = kws.length
  | [], env, rs, e2, h => by
    rw [cKs, evEs] at h
    cases h
    rfl
  | ⟨nm, e, q⟩ :: r, env, rs, e2, h => by
    rw [cKs] at h
    simp only [evEs, Option.bind_eq_some_iff, Option.map_eq_some_iff, Prod.mk.injEq] at h
    obtain ⟨⟨r1, e1⟩, h1, ⟨rs', e3⟩, h2, h3, h4⟩ := h
    subst h3
    rw [List.length_cons, List.length_cons, evK_len h2]
theorem kwN_ok {pos : Pos} {env : PySem.Env} : ∀ {kws : List Keyword} {ns : List Str}, kwN kws = some ns → (backToKw pos (keywordEach kws env)).all (·.1.isSome) = true ∧ (backToKw pos (keywordEach kws env)).filterMap (·.1) = ns ∧ (backToKw pos (keywordEach kws env)).any (·.1.isNone) = false ∧ ns.length = kws.length
  | [], ns, h => by cases h; exact ⟨rfl, rfl, rfl, rfl⟩
  | ⟨none, e, q⟩ :: r, ns, h => by cases h
  | ⟨some x, e, q⟩ :: r, ns, h => by
    simp only [kwN, Option.map_eq_some_iff] at h
    obtain ⟨ns', h1, h2⟩ := h
    subst h2
    obtain ⟨a, b, c, d⟩ := kwN_ok (pos := pos) (env := env) h1
    refine ⟨a, ?_, c, by rw [List.length_cons, List.length_cons, d]⟩
    show x :: (backToKw pos (keywordEach r env)).filterMap (·.1) = _
    rw [b]
theorem we_callK {x : Str} {k : Nat} {ns : List Str} {perm : List Nat} {args : List Expr} {kws : List Keyword} {p pos : Pos} (h : XOk g cf io n s X) (hg : Gl X x) (hk : g.fns.lookup x = some k) (hkw : (x, args.length, ns, perm) ∈ g.kws) (hdb : (x == ("__debug__" : Str)) = false)
    (hns : kwN kws = some ns) (hst : args.any isStar = false) (hA : ∀ e ∈ args, Snd g cf io n e) (hK : ∀ kw ∈ kws, Snd g cf io n kw.value) :
    PE X (.Call (.Name x p) args kws pos) (WE X.K cf io (.callK k (cEs g s args) (cKs g s kws) perm)) := by
  obtain ⟨fa, fd, ps, hm, hkp, hb, F, kb⟩ := h.glob.fns x k hk
  have hbn := kb _ _ _ hkw
  obtain ⟨a1, a2, a3, a4⟩ := kwN_ok (pos := pos) (env := X.env) hns
  have w : ∀ {σ : L2.St} {H : Hp} {Q : VK}, WE X.K cf io (.callK k (cEs g s args) (cKs g s kws) perm) σ H Q →
      tCallN args.length ns.length (SpF X.K io cf k) (fun us ws => permL perm (us ++ ws)) E0 (WEs X.K cf io (cEs g s args)) (WEs X.K cf io (cKs g s kws)) σ H Q := fun {σ H Q} ⟨env, G, rl, rr, env', hev, kk⟩ => by
    simp only [evE, Option.bind_eq_some_iff, val, Option.some.injEq, Prod.mk.injEq] at hev
    obtain ⟨⟨rs, e1⟩, h1, ⟨ds, e2⟩, h2, ⟨rs2, e3⟩, h3, ⟨ds2, e4⟩, h4, ⟨d, fl⟩, h5, h6, h7⟩ := hev
    subst h6 h7
    refine ⟨env, G, rl, rs, e1, h1, fun vs G1 H1 rl1 x1 q1 => ?_⟩
    obtain ⟨G2, x2, rl2, t2, _⟩ := fzAll_ok x1 rl1 q1 h2
    refine ⟨e2, G2, rl2, rs2, e3, h3, fun zs G3 H3 rl3 x3 q3 => ?_⟩
    obtain ⟨G4, x4, rl4, t4, _⟩ := fzAll_ok x3 rl3 q3 h4
    have x5 := x2.trans x4
    have t := ((t2.mn x4.g).append t4).perm perm
    obtain ⟨hc, h5⟩ := ite'_some h5
    rw [Bool.and_eq_true] at hc
    have hc2 := of_decide_eq_true hc.2
    rw [Option.map_eq_some_iff] at h5
    obtain ⟨⟨d', fl', outs⟩, h8, h9⟩ := h5
    simp only [Prod.mk.injEq] at h9
    obtain ⟨h9, h10⟩ := h9
    subst h9 h10
    obtain ⟨ar, ia⟩ := ArgsRel.allSh (H := H3) hc.1 hc2 t
    refine ⟨by rw [← q1.length]; exact ev_len hst h1, by rw [← q3.length, evK_len h3, a4], G4, _, rl4.gh, ar, d', fl', outs, h8, fun v G' H' po => ?_⟩
    rw [ia] at po
    have gr := po.grow rl4.gh
    obtain ⟨z1, z2⟩ := po.res.rrel rl4 gr
    exact kk v G' H' (rl4.grow gr) (x5.trans (.grow gr)) z1 (z2.back x5)
  have hkk := pk_all h hK
  cases args with
  | nil =>
    refine (pe_callN0 F h.room hg hm hkp hbn pass0 hkk a1 a2 hdb (by rw [a3]; rfl)).wk fun σ H Q q => ?_
    obtain ⟨env, G, rl, rs, e1, h1, k1⟩ := w q
    rw [cEs] at h1
    simp only [evEs, Option.some.injEq, Prod.mk.injEq] at h1
    obtain ⟨h1, h2⟩ := h1
    subst h1 h2
    exact k1 [] G H rl .refl .nil
  | cons e r =>
    have hst' := hst
    rw [List.any_cons, Bool.or_eq_false_iff] at hst'
    exact (pe_callN F h.room hg hm hkp hbn pass0 (ws_all h hA) hkk a1 a2 hdb (star_cons hst'.1) (by rw [star_any hst, a3]; rfl)).wk fun σ H Q q => w q
theorem se_kw (h : XOk g cf io n s X) {f : Str} {args : List Expr} {kws : List Keyword} {p pos : Pos} (hA : ∀ e ∈ args, Snd g cf io n e) (hK : ∀ kw ∈ kws, Snd g cf io n kw.value) : PE X (.Call (.Name f p) args kws pos) (WE X.K cf io (cKw g s f args kws (cEs g s args) (cKs g s kws))) := by
  unfold cKw
  split
  · rename_i hg
    rw [Bool.and_eq_true, Bool.and_eq_true, Bool.not_eq_true'] at hg
    split
    · rename_i k ns hk hns
      split
      · rename_i e he
        obtain ⟨x, m, ns', perm⟩ := e
        have hm := List.mem_of_find?_eq_some he
        have hp := List.find?_some he
        simp only [Bool.and_eq_true, decide_eq_true_eq] at hp
        obtain ⟨⟨z1, z2⟩, z3⟩ := hp
        subst z1 z2 z3
        exact we_callK h (h.gl hg.1.1) hk hm (okName_ok hg.1.2).1 hns hg.2 hA hK
      · exact we_bad
    · exact we_bad
  · exact we_bad
theorem plain_kw {f : Str} {args : List Expr} {kws : List Keyword} {es ks : Es} : plainT (cKw g s f args kws es ks) = true := by
  unfold cKw
  repeat' split
  all_goals rfl
end
end Ev


set_option Elab.async false
set_option linter.all false
set_option maxRecDepth 100000
set_option maxHeartbeats 2000000
/-! Soundness: the induction over all expressions. -/
namespace Ev
open PySem PySem.Spec PyProof.Rows L2

section
variable {g : GC} {cf : CallF} {io : Nat → List Bool} {n : Nat} {s : SC} {X : Cx}
theorem opOf_cBop {op : Operator} {o : Bop} (h : cBop op = some o) : op = opOf o := by
  cases op <;> simp only [cBop, Option.some.injEq, reduceCtorEq] at h <;> subst h <;> rfl
theorem copOf_cCop (op : CmpOp) : copOf (cCop op) = op := by cases op <;> rfl
theorem noSet {op : CmpOp} {b : Expr} (h : isSet b = false) : behindInMarks op b = false := by
  cases b <;> first | rfl | cases h
/-- a value as a test, by the general road -/
theorem snd_by {e : Expr} (he : ∀ s X, XOk g cf io n s X → PE X e (WE X.K cf io (cE g s e))) (hp : ∀ s, plainT (cE g s e) = true) (ht : ∀ (env : PySem.Env) whole, isTrue e env whole = (do let v ← whole; standAt e.pos; holding [v] (truthy v))) : Snd g cf io n e :=
  fun s X h => ⟨he s X h, wt_tru (he s X h) (ht X.env) (evT_val (hp s))⟩
theorem snd_bad {e : Expr} (hb : ∀ s, cE g s e = .bad) : Snd g cf io n e := fun s X h => by
  rw [hb]
  exact ⟨we_bad, wt_of_none fun env => by simp only [evT]⟩
theorem so_opt {o : Option Expr} (h : XOk g cf io n s X) (hA : ∀ e, o = some e → Snd g cf io n e) : PO X o (WO X.K cf io (cO g s o)) := by
  cases o with
  | none => rw [cO]; exact wo_no
  | some e => rw [cO]; exact wo_yes (hA e rfl s X h).1
theorem PTs.wk {ifs : List Expr} {t t' : TT} (h : PTs X ifs t) (w : ∀ σ H Q, t' σ H Q → t σ H Q) : PTs X ifs t' := ⟨fun pins s σ H Q I q => h.run pins s σ H Q I (w σ H Q q)⟩
theorem PTs.never {ifs : List Expr} {t : TT} (h : ∀ σ H Q, ¬ t σ H Q) : PTs X ifs t := ⟨fun _ _ σ H Q _ q => (h σ H Q q).elim⟩
theorem wc_ifs {ifs : List Expr} (h : XOk g cf io n s X) (hA : ∀ e ∈ ifs, Snd g cf io n e) : PTs X ifs (WC X.K cf io (cIf g s ifs)) := by
  match ifs, hA with
  | [], _ =>
    rw [cIf]
    refine PTs.wk pts_nil fun σ H Q ⟨env, G, rl, b, env', hb, k⟩ => ?_
    simp only [evC, Option.some.injEq, Prod.mk.injEq] at hb
    obtain ⟨h1, h2⟩ := hb
    subst h1 h2
    exact k G H rl .refl
  | [e], hA =>
    rw [cIf]
    refine PTs.wk (pts_one (hA e (List.mem_cons_self ..) s X h).2) fun σ H Q ⟨env, G, rl, b, env', hb, k⟩ => ?_
    simp only [evC] at hb
    exact ⟨env, G, rl, b, env', hb, k⟩
  | a :: b :: r, _ =>
    have : cIf g s (a :: b :: r) = .yes .bad := by
      rw [cIf] <;> simp
    rw [this]
    exact PTs.never fun σ H Q ⟨env, G, rl, b, env', hb, k⟩ => by simp only [evC, evT, reduceCtorEq] at hb
/-- a loop's source -/
theorem se_it {tg iter : Expr} (h : XOk g cf io n s X) (hI : Snd g cf io n iter) (hA : ∀ f p args pos, iter = .Call (.Name f p) args [] pos → ∀ e ∈ args, Snd g cf io n e) : PI X tg iter (WI X.K cf io (cI g s (isTup tg) (cE g s iter) iter)) := by
  by_cases hc : ∃ f p args pos, iter = .Call (.Name f p) args [] pos
  · obtain ⟨f, p, args, pos, rfl⟩ := hc
    have hw := (hI s X h).1
    have e : ∀ t w, cI g s t w (.Call (.Name f p) args [] pos) = cRng g s t w f (cEs g s args) := fun t w => by rw [cI]
    rw [e]
    exact se_rng h hw (hA f p args pos rfl)
  · have e : cI g s (isTup tg) (cE g s iter) iter = .seq (cE g s iter) := by
      rw [cI]
      intro f p args pos z
      exact hc ⟨f, p, args, pos, z⟩
    rw [e]
    exact wi_seq (hI s X h).1
theorem in_own {t : Tg} {own : List (Str × Nat)} (h : (tgSlots t).all (fun i => own.any fun p => p.2 = i) = true) : ∀ i ∈ tgSlots t, i ∈ own.map (·.2) := fun i hi => by
  have := (List.all_eq_true.mp h) i hi
  rw [List.any_eq_true] at this
  obtain ⟨p, hp, e⟩ := this
  exact List.mem_map.mpr ⟨p, hp, of_decide_eq_true e⟩
theorem set_form {e : Expr} (h : isSet e = true) : ∃ es k p, e = .Set es k p := by
  cases e <;> first | exact ⟨_, _, _, rfl⟩ | cases h
theorem noFold {e : Expr} (h : isSet e = false) (env : PySem.Env) (x : Value) : foldedSetIterable e env x = pure x := by
  cases e <;> first | rfl | cases h
theorem ci_set {es : List Expr} {k : Nat} {p : Pos} {t : Bool} : cI g s t (cE g s (.Set es k p)) (.Set es k p) = .seq .bad := by
  have : cE g s (.Set es k p) = .bad := by rw [cE] <;> simp
  rw [this]
  rw [cI] <;> simp
theorem snd_comp {elt tg iter : Expr} {ifs : List Expr} {scope : Scope} {pos : Pos} {t : Tg} (h : XOk g cf io n s X) (hI : Snd g cf io n iter) (hA : ∀ f p args pos, iter = .Call (.Name f p) args [] pos → ∀ e ∈ args, Snd g cf io n e) (hF : ∀ e ∈ ifs, Snd g cf io n e) (hE : Snd g cf io n elt)
    (hb : blkC s.N s.sc scope (ownN s.N scope.names) = true) (ht : cTg (s.blk scope) tg = some t) (hall : (tgSlots t).all (fun i => (ownN s.N scope.names).any fun p => p.2 = i) = true) :
    PE X (.ListComp elt [⟨tg, iter, ifs, 0⟩] scope pos) (WE X.K cf io (.comp ((ownN s.N scope.names).map (·.2)) t (cI g s (isTup tg) (cE g s iter) iter) (cIf g (s.blk scope) ifs) (cE g (s.blk scope) elt))) := by
  by_cases hs : isSet iter = true
  · obtain ⟨es, k, p, rfl⟩ := set_form hs
    rw [ci_set]
    exact .never fun σ H Q ⟨env, G, rl, rr, env', h1, _⟩ => by simp only [evE, evI, Option.bind_none, reduceCtorEq] at h1
  · have hs : isSet iter = false := by simpa using hs
    have ok := blkOk_by hb
    rw [← h.N, ← h.sc] at ok
    have hN : X.N.Nodup := by rw [h.N]; exact h.nd
    exact we_comp (pe_lc h.calm hN (se_it h hI hA) (by rw [h.N] at ok ⊢; exact ok) (fun s' H C cl fp => wg_tg (h.blk s' H scope cl C fp) t tg ht) (fun s' H C cl fp => wc_ifs (h.blk s' H scope cl C fp) hF) (fun s' H C cl fp => (hE _ _ (h.blk s' H scope cl C fp)).1) (noFold hs X.env)) (in_own hall)
theorem snd_comp2 {elt tg iter tg1 iter1 : Expr} {ifs ifs1 : List Expr} {scope : Scope} {pos : Pos} {t t1 : Tg} (h : XOk g cf io n s X) (hI : Snd g cf io n iter) (hA : ∀ f p args pos, iter = .Call (.Name f p) args [] pos → ∀ e ∈ args, Snd g cf io n e) (hF : ∀ e ∈ ifs, Snd g cf io n e)
    (hI1 : Snd g cf io n iter1) (hA1 : ∀ f p args pos, iter1 = .Call (.Name f p) args [] pos → ∀ e ∈ args, Snd g cf io n e) (hF1 : ∀ e ∈ ifs1, Snd g cf io n e) (hE : Snd g cf io n elt) (hs1 : isSet iter1 = false)
    (hb : blkC s.N s.sc scope (ownN s.N scope.names) = true) (ht : cTg (s.blk scope) tg = some t) (ht1 : cTg (s.blk scope) tg1 = some t1) (hall : (tgSlots t ++ tgSlots t1).all (fun i => (ownN s.N scope.names).any fun p => p.2 = i) = true) :
    PE X (.ListComp elt [⟨tg, iter, ifs, 0⟩, ⟨tg1, iter1, ifs1, 0⟩] scope pos) (WE X.K cf io (.comp2 ((ownN s.N scope.names).map (·.2)) (tgSlots t1) t (cI g s (isTup tg) (cE g s iter) iter) (cIf g (s.blk scope) ifs)
      t1 (cI g (s.blk scope) (isTup tg1) (cE g (s.blk scope) iter1) iter1) (cIf g (s.blk scope) ifs1) (cE g (s.blk scope) elt))) := by
  rw [List.all_append, Bool.and_eq_true] at hall
  by_cases hs : isSet iter = true
  · obtain ⟨es, k, p, rfl⟩ := set_form hs
    rw [ci_set]
    exact .never fun σ H Q ⟨env, G, rl, rr, env', h1, _⟩ => by simp only [evE, evI, Option.bind_none, reduceCtorEq] at h1
  have hs : isSet iter = false := by simpa using hs
  have ok := blkOk_by hb
  rw [← h.N, ← h.sc] at ok
  have hN : X.N.Nodup := by rw [h.N]; exact h.nd
  have ht2 := in_own hall.2
  exact we_comp2 (pe_lc2 h.calm hN (se_it h hI hA) (by rw [h.N] at ok ⊢; exact ok) ht2 (fun s' H C cl fp => wg_tg (h.blk s' H scope cl C fp) t tg ht) (fun s' H C cl fp => wc_ifs (h.blk s' H scope cl C fp) hF)
    (fun s' H C cl fp => se_it (h.blk s' H scope cl C fp) hI1 hA1) (fun s' H C cl fp => wg_tg (h.blk s' H scope cl C fp) t1 tg1 ht1) (fun s' H C cl fp => wc_ifs (h.blk s' H scope cl C fp) hF1) (fun s' H C cl fp => (hE _ _ (h.blk s' H scope cl C fp)).1) (noFold hs X.env) (noFold hs1))
    (in_own hall.1) (fun _ z => z) ht2
theorem cAnd_ok (h : XOk g cf io n s X) {pos : Pos} : ∀ (es : List Expr), es ≠ [] → (∀ e ∈ es, Snd g cf io n e) → PW X (.BoolOp .And es pos) (WT X.K cf io (cAnd g s es))
  | [], z, _ => absurd rfl z
  | [a], _, hA => by rw [cAnd]; exact pw_and1 (hA a (List.mem_cons_self ..) s X h).2
  | a :: b :: r, _, hA => by
    rw [cAnd]
    exact wt_and (hA a (List.mem_cons_self ..) s X h).2 (cAnd_ok h (b :: r) (by simp) fun e he => hA e (List.mem_cons_of_mem _ he))
theorem cOr_ok (h : XOk g cf io n s X) {pos : Pos} : ∀ (es : List Expr), es ≠ [] → (∀ e ∈ es, Snd g cf io n e) → PW X (.BoolOp .Or es pos) (WT X.K cf io (cOr g s es))
  | [], z, _ => absurd rfl z
  | [a], _, hA => by rw [cOr]; exact pw_or1 (hA a (List.mem_cons_self ..) s X h).2
  | a :: b :: r, _, hA => by
    rw [cOr]
    exact wt_or (hA a (List.mem_cons_self ..) s X h).2 (cOr_ok h (b :: r) (by simp) fun e he => hA e (List.mem_cons_of_mem _ he))
theorem cAndE_ok (h : XOk g cf io n s X) {pos : Pos} : ∀ (es : List Expr), es ≠ [] → (∀ e ∈ es, Snd g cf io n e) → PE X (.BoolOp .And es pos) (WE X.K cf io (cAnd g s es))
  | [], z, _ => absurd rfl z
  | [a], _, hA => by rw [cAnd]; exact pe_one (hA a (List.mem_cons_self ..) s X h).1
  | a :: b :: r, _, hA => by
    rw [cAnd]
    exact we_and (hA a (List.mem_cons_self ..) s X h).1 (cAndE_ok h (b :: r) (by simp) fun e he => hA e (List.mem_cons_of_mem _ he))
theorem cOrE_ok (h : XOk g cf io n s X) {pos : Pos} : ∀ (es : List Expr), es ≠ [] → (∀ e ∈ es, Snd g cf io n e) → PE X (.BoolOp .Or es pos) (WE X.K cf io (cOr g s es))
  | [], z, _ => absurd rfl z
  | [a], _, hA => by rw [cOr]; exact pe_one (hA a (List.mem_cons_self ..) s X h).1
  | a :: b :: r, _, hA => by
    rw [cOr]
    exact we_or (hA a (List.mem_cons_self ..) s X h).1 (cOrE_ok h (b :: r) (by simp) fun e he => hA e (List.mem_cons_of_mem _ he))
theorem plain_ix {i : Expr} (h : plainIx i = true) : PlainIx i := by
  cases i <;> first | (intro o i'; rfl) | cases h
theorem plain_name {x : Str} : plainT (cName g s x) = true := by
  unfold cName
  repeat' split
  all_goals rfl
theorem snd_all (hf : ∀ t, g.fns.lookup (tyStr t) = none) : ∀ (N : Nat) (e : Expr), sizeOf e ≤ N → Snd g cf io n e := by
  intro N
  induction N with
  | zero => intro e he; cases e <;> simp at he
  | succ N ih =>
    intro e he
    have mem : ∀ {es : List Expr}, sizeOf es ≤ N → ∀ e ∈ es, Snd g cf io n e := fun hN e hm => ih e (by have := List.sizeOf_lt_of_mem hm; omega)
    have memS : ∀ {es : List Expr}, sizeOf es ≤ N → ∀ x p, Expr.Starred x p ∈ es → Snd g cf io n x := fun hN x p hm => ih x (by have := List.sizeOf_lt_of_mem hm; simp at this; omega)
    have sub : ∀ {e : Expr}, sizeOf e ≤ N → ∀ f p args pos, e = .Call (.Name f p) args [] pos → ∀ e' ∈ args, Snd g cf io n e' := fun {e} hN f p args pos z e' hm => by
      subst z
      have := List.sizeOf_lt_of_mem hm
      simp at hN
      exact ih e' (by omega)
    cases e with
    | Constant v k pos => exact snd_by (fun s X h => by rw [cE]; exact se_const v k pos) (fun s => by rw [cE]; cases v <;> rfl) (fun _ _ => rfl)
    | Name x pos => exact snd_by (fun s X h => by rw [cE]; exact se_name h x pos) (fun s => by rw [cE]; exact plain_name) (fun _ _ => rfl)
    | BinOp a op b pos =>
      simp at he
      refine snd_by (fun s X h => ?_) (fun s => ?_) (fun _ _ => rfl)
      · rw [cE]
        split
        · rename_i o ho
          rw [opOf_cBop ho]
          exact we_bin o (ih a (by omega) s X h).1 (ih b (by omega) s X h).1
        · exact we_bad
      · rw [cE]
        split <;> rfl
    | UnaryOp op a pos =>
      simp at he
      cases op with
      | USub => exact snd_by (fun s X h => by rw [cE]; exact we_neg (ih a (by omega) s X h).1) (fun s => by rw [cE]; rfl) (fun _ _ => rfl)
      | Not => exact fun s X h => by rw [cE]; exact ⟨we_not (ih a (by omega) s X h).1, wt_not (ih a (by omega) s X h).2⟩
      | Invert => exact snd_bad fun s => by rw [cE] <;> simp
      | UAdd => exact snd_bad fun s => by rw [cE] <;> simp
    | BoolOp op vs pos =>
      simp at he
      intro s X h
      cases op with
      | And =>
        rw [cE]
        cases vs with
        | nil => exact ⟨by rw [cAnd]; exact we_bad, by rw [cAnd]; exact wt_of_none fun env => by simp only [evT]⟩
        | cons a r => exact ⟨cAndE_ok h _ (by simp) (mem (by omega)), (cAnd_ok h _ (by simp) (mem (by omega))).pt⟩
      | Or =>
        rw [cE]
        cases vs with
        | nil => exact ⟨by rw [cOr]; exact we_bad, by rw [cOr]; exact wt_of_none fun env => by simp only [evT]⟩
        | cons a r => exact ⟨cOrE_ok h _ (by simp) (mem (by omega)), (cOr_ok h _ (by simp) (mem (by omega))).pt⟩
    | IfExp c a b pos =>
      simp at he
      intro s X h
      rw [cE]
      exact ⟨we_ife (ih c (by omega) s X h).2 (ih a (by omega) s X h).1 (ih b (by omega) s X h).1, wt_of_none fun env => by simp only [evT]⟩
    | Compare a ops cs pos =>
      simp at he
      match ops, cs, he with
      | [op], [b], he =>
        simp at he
        intro s X h
        rw [cE]
        split
        · exact ⟨we_bad, wt_of_none fun env => by simp only [evT]⟩
        · rename_i hs
          have hs : isSet b = false := by simpa using hs
          have q := copOf_cCop op
          have hm : behindInMarks (copOf (cCop op)) b = false := noSet hs
          have h1 := we_cmp (pos := pos) h.hu (cCop op) (ih a (by omega) s X h).1 (ih b (by omega) s X h).1 hm
          have h2 := wt_cmp (pos := pos) h.hu (cCop op) (ih a (by omega) s X h).1 (ih b (by omega) s X h).1 hm
          rw [q] at h1 h2
          exact ⟨h1, h2⟩
      | [op, op'], [b, c], he =>
        simp at he
        intro s X h
        rw [cE]
        split
        · exact ⟨we_bad, wt_of_none fun env => by simp only [evT]⟩
        · rename_i hs
          simp only [Bool.or_eq_true, not_or, Bool.not_eq_true] at hs
          have q := copOf_cCop op
          have q' := copOf_cCop op'
          have hm : lastMarks [copOf (cCop op), copOf (cCop op')] [b, c] = false := noSet hs.2
          have h1 := we_cmp2 (pos := pos) h.hu (cCop op) (cCop op') (ih a (by omega) s X h).1 (ih b (by omega) s X h).1 (ih c (by omega) s X h).1 hm
          have h2 := wt_cmp2 (pos := pos) h.hu (cCop op) (cCop op') (ih a (by omega) s X h).1 (ih b (by omega) s X h).1 (ih c (by omega) s X h).1 hm
          rw [q, q'] at h1 h2
          exact ⟨h1, h2⟩
      | [], _, _ => exact snd_bad fun s => by rw [cE] <;> simp
      | [_], [], _ => exact snd_bad fun s => by rw [cE] <;> simp
      | [_], _ :: _ :: _, _ => exact snd_bad fun s => by rw [cE] <;> simp
      | [_, _], [], _ => exact snd_bad fun s => by rw [cE] <;> simp
      | [_, _], [_], _ => exact snd_bad fun s => by rw [cE] <;> simp
      | [_, _], _ :: _ :: _ :: _, _ => exact snd_bad fun s => by rw [cE] <;> simp
      | _ :: _ :: _ :: _, _, _ => exact snd_bad fun s => by rw [cE] <;> simp
    | Call f args kws pos =>
      simp at he
      cases kws with
      | cons kw r =>
        obtain ⟨nm, e0, p0⟩ := kw
        have hK : ∀ kw ∈ (⟨nm, e0, p0⟩ :: r : List Keyword), Snd g cf io n kw.value := fun kw hm => ih _ (by
          have h1 := List.sizeOf_lt_of_mem hm
          obtain ⟨a, b, c⟩ := kw
          simp at h1 he
          show sizeOf b ≤ N
          omega)
        cases f with
        | Name x p =>
          have hM : ∀ e ∈ args, Snd g cf io n e := mem (by omega)
          refine snd_by (fun s X h => ?_) (fun s => by rw [cE]; exact plain_kw) (fun _ _ => rfl)
          have q := se_kw (p := p) (pos := pos) (f := x) h hM hK
          rw [cKs] at q
          rw [cE]
          exact q
        | _ => exact snd_bad fun s => by rw [cE] <;> simp
      | nil =>
        cases f with
        | Name x p => exact snd_by (fun s X h => by rw [cE]; exact se_fun h hf (mem (by omega)) (fun f p a pos hm e he' => ih e (by have h1 := List.sizeOf_lt_of_mem hm; have h2 := List.sizeOf_lt_of_mem he'; simp at h1; omega))) (fun s => by rw [cE]; exact plain_fun) (fun _ _ => rfl)
        | Attribute o m ap =>
          simp at he
          refine snd_by (fun s X h => ?_) (fun s => ?_) (fun _ _ => rfl)
          · rw [cE]
            split
            · exact we_bad
            · rename_i hc
              simp only [Bool.or_eq_true, not_or, Bool.not_eq_true, Bool.not_eq_false'] at hc
              split
              · rename_i hm
                subst hm
                exact se_pop h (mem (by omega)) hc.2 hc.1
              · exact se_meth h (ih o (by omega)) (mem (by omega)) hc.2 hc.1
          · rw [cE]
            split
            · rfl
            · split
              · exact plain_pop
              · exact plain_meth
        | _ => exact snd_bad fun s => by rw [cE] <;> simp
    | Subscript a i pos =>
      simp at he
      refine snd_by (fun s X h => ?_) (fun s => ?_) (fun _ _ => rfl)
      · by_cases hs : ∃ lo hi st p, i = .Slice lo hi st p
        · obtain ⟨lo, hi, st, p, rfl⟩ := hs
          rw [cE]
          simp at he
          unfold cSl
          split
          · refine we_slc (ih a (by omega) s X h).1 (so_opt h fun e z => ?_) (so_opt h fun e z => ?_)
            · subst z; simp at he; exact ih e (by omega)
            · subst z; simp at he; exact ih e (by omega)
          · split
            · rename_i e hc
              rw [Bool.and_eq_true, Bool.and_eq_true] at hc
              obtain ⟨⟨h1, h2⟩, h3⟩ := hc
              obtain rfl := Option.isNone_iff_eq_none.mp h1
              obtain rfl := Option.isNone_iff_eq_none.mp h2
              unfold isM1 at h3
              split at h3
              · exact we_rev (ih a (by omega) s X h).1
              · cases h3
            · exact we_bad
        · rw [cE]
          · split
            · rename_i hp
              exact we_ix h.hu1 (ih a (by omega) s X h).1 (ih i (by omega) s X h).1 (plain_ix hp)
            · exact we_bad
          · intro lo hi st p z
            exact hs ⟨lo, hi, st, p, z⟩
      · by_cases hs : ∃ lo hi st p, i = .Slice lo hi st p
        · obtain ⟨lo, hi, st, p, rfl⟩ := hs
          rw [cE]
          unfold cSl
          repeat' split
          all_goals rfl
        · rw [cE]
          · split <;> rfl
          · intro lo hi st p z
            exact hs ⟨lo, hi, st, p, z⟩
    | List es pos =>
      simp at he
      exact snd_by (fun s X h => by rw [cE]; exact we_lst (wd_all h (mem (by omega)) (memS (by omega)))) (fun s => by rw [cE]; rfl) (fun _ _ => rfl)
    | Tuple es k pos =>
      simp at he
      exact snd_by (fun s X h => by rw [cE]; exact we_tup (wd_all h (mem (by omega)) (memS (by omega)))) (fun s => by rw [cE]; rfl) (fun _ _ => rfl)
    | Dict ks vs pos =>
      refine snd_by (fun s X h => ?_) (fun s => ?_) (fun _ _ => rfl)
      · rw [cE]
        unfold cDict
        split
        · split
          · exact we_dctK
          · exact we_dct
        · split
          · exact we_dctK1 pe_int pe_bl (fun _ => .int _) (fun _ => .bl _)
          · exact we_dctK1 pe_int pe_int (fun _ => .int _) (fun _ => .int _)
          · exact we_dctK1 pe_str pe_bl (fun _ => .str _) (fun _ => .bl _)
          · exact we_dctK1 pe_str pe_int (fun _ => .str _) (fun _ => .int _)
          · exact we_bad
        · exact we_bad
      · rw [cE]
        unfold cDict
        repeat' split
        all_goals rfl
    | ListComp elt gs scope pos =>
      match gs, he with
      | [], _ => exact snd_bad fun s => by rw [cE] <;> simp
      | [⟨tg, iter, ifs, az⟩], he =>
        simp at he
        refine snd_by (fun s X h => ?_) (fun s => ?_) (fun _ _ => rfl)
        · rw [cE]
          split
          · rename_i hc
            obtain ⟨rfl, hb⟩ := hc
            split
            · rename_i t ht
              split
              · rename_i hall
                exact snd_comp h (ih iter (by omega)) (sub (by omega)) (mem (by omega)) (ih elt (by omega)) hb ht hall
              · exact we_bad
            · exact we_bad
          · exact we_bad
        · rw [cE]
          repeat' split
          all_goals rfl
      | [⟨tg, iter, ifs, az⟩, ⟨tg1, iter1, ifs1, az1⟩], he =>
        simp at he
        refine snd_by (fun s X h => ?_) (fun s => ?_) (fun _ _ => rfl)
        · rw [cE]
          split
          · rename_i hc
            obtain ⟨rfl, rfl, hs1, hb⟩ := hc
            split
            · rename_i t t1 ht ht1
              split
              · rename_i hall
                exact snd_comp2 h (ih iter (by omega)) (sub (by omega)) (mem (by omega)) (ih iter1 (by omega)) (sub (by omega)) (mem (by omega)) (ih elt (by omega)) hs1 hb ht ht1 hall
              · exact we_bad
            · exact we_bad
          · exact we_bad
        · rw [cE]
          repeat' split
          all_goals rfl
      | _ :: _ :: _ :: _, _ => exact snd_bad fun s => by rw [cE] <;> simp
    | _ => exact snd_bad fun s => by rw [cE] <;> simp
end
end Ev


set_option Elab.async false
set_option linter.all false
set_option maxRecDepth 100000
set_option maxHeartbeats 2000000
/-! Soundness: statements. -/
namespace Ev
open PySem PySem.Spec PyProof.Rows L2

/-- what is wanted of a statement's end -/
def OutOk (K : PySem.W.Frag) (D : Ends) (σ : L2.St) (G H : Hp) (env : Env) : Out → Prop
  | .nx env' => ∀ σ' G' H', Rel K G' H' env' σ' → Stp σ G H env σ' G' H' env' → D.nx σ' H'
  | .bk env' => ∀ σ' G' H', Rel K G' H' env' σ' → Stp σ G H env σ' G' H' env' → D.bk σ' H'
  | .ct env' => ∀ σ' G' H', Rel K G' H' env' σ' → Stp σ G H env σ' G' H' env' → D.ct σ' H'
  | .rt r env' => ∀ v σ' G' H', Rel K G' H' env' σ' → Stp σ G H env σ' G' H' env' → RRel K G' H' env' σ' r v → Fresh H r v → D.rt v H'
def WS (K : PySem.W.Frag) (cf : CallF) (io : Nat → List Bool) (ir : S) : TS := fun D σ H => ∃ env G, Rel K G H env σ ∧ ∃ o, evS cf io ir env = some o ∧ OutOk K D σ G H env o
section
variable {K : PySem.W.Frag} {D D' : Ends} {σ σ1 : L2.St} {G H G1 H1 : Hp} {env env1 : Env} {o : Out}
theorem Fresh.trk {r : R} {v : V} (h : Fresh H1 r v) (t : ∀ a, H a ≠ none → H1 a ≠ none) : Fresh H r v := fun q a e => by
  have := h q a e
  cases z : H a with
  | none => rfl
  | some o => exact absurd this (t a (by rw [z]; simp))
theorem OutOk.step (h : OutOk K D σ G H env o) (x : Stp σ G H env σ1 G1 H1 env1) : OutOk K D σ1 G1 H1 env1 o := by
  cases o with
  | nx e => exact fun σ' G' H' r s => h σ' G' H' r (x.trans s)
  | bk e => exact fun σ' G' H' r s => h σ' G' H' r (x.trans s)
  | ct e => exact fun σ' G' H' r s => h σ' G' H' r (x.trans s)
  | rt r e => exact fun v σ' G' H' rl s q f => h v σ' G' H' rl (x.trans s) q (f.trk x.trk)
theorem PS.wk {X : Cx} {st : Stmt} {t t' : TS} (h : PS X st t) (w : ∀ D σ H, t' D σ H → t D σ H) : PS X st t' := ⟨fun pins s σ H D I q => h.run pins s σ H D I (w D σ H q)⟩
theorem PSs.wk {X : Cx} {st : List Stmt} {t t' : TS} (h : PSs X st t) (w : ∀ D σ H, t' D σ H → t D σ H) : PSs X st t' := ⟨fun pins s σ H D I q => h.run pins s σ H D I (w D σ H q)⟩
theorem PS.never {X : Cx} {st : Stmt} {t : TS} (h : ∀ D σ H, ¬ t D σ H) : PS X st t := ⟨fun _ _ σ H D _ q => (h D σ H q).elim⟩
end
section
variable {g : GC} {cf : CallF} {io : Nat → List Bool} {n : Nat} {s : SC} {X : Cx} {pos : Pos}
theorem wst_bad {st : Stmt} : PS X st (WS X.K cf io .bad) := PS.never fun D σ H ⟨env, G, rl, o, h, _⟩ => by simp only [evS, reduceCtorEq] at h
theorem wst_pass : PS X (.Pass pos) (WS X.K cf io .pass) := PS.wk ps_pass fun D σ H ⟨env, G, rl, o, h, k⟩ => by
  simp only [evS, Option.some.injEq] at h
  subst h
  exact k σ G H rl .refl
theorem wst_doc {x : Str} {j : Nat} {p : Pos} : PS X (.Expr (.Constant (.str x) j p) pos) (WS X.K cf io .pass) := PS.wk ps_doc fun D σ H ⟨env, G, rl, o, h, k⟩ => by
  simp only [evS, Option.some.injEq] at h
  subst h
  exact k σ G H rl .refl
theorem wst_brk : PS X (.Break pos) (WS X.K cf io .brk) := PS.wk ps_break fun D σ H ⟨env, G, rl, o, h, k⟩ => by
  simp only [evS, Option.some.injEq] at h
  subst h
  exact k σ G H rl .refl
theorem wst_cnt : PS X (.Continue pos) (WS X.K cf io .cnt) := PS.wk ps_continue fun D σ H ⟨env, G, rl, o, h, k⟩ => by
  simp only [evS, Option.some.injEq] at h
  subst h
  exact k σ G H rl .refl
theorem wst_ret {e : Expr} {ir : E} (he : PE X e (WE X.K cf io ir)) : PS X (.Return (some e) pos) (WS X.K cf io (.ret ir)) := PS.wk (ps_ret he) fun D σ H ⟨env, G, rl, o, h, k⟩ => by
  simp only [evS, Option.map_eq_some_iff] at h
  obtain ⟨⟨r, e1⟩, h1, h2⟩ := h
  subst h2
  exact ⟨env, G, rl, r, e1, h1, fun v G' H' rl' x q f => k v σ G' H' rl' x.stp q f⟩
theorem wst_retN : PS X (.Return none pos) (WS X.K cf io .retN) := PS.wk ps_retN fun D σ H ⟨env, G, rl, o, h, k⟩ => by
  simp only [evS, Option.some.injEq] at h
  subst h
  exact k .non σ G H rl .refl .non fun z => by cases z
theorem wst_if {c : Expr} {a b : List Stmt} {ec : E} {sa sb : S} (hc : PT X c (WT X.K cf io ec)) (ha : PSs X a (WS X.K cf io sa)) (hb : PSs X b (WS X.K cf io sb)) : PS X (.If c a b pos) (WS X.K cf io (.ite ec sa sb)) := PS.wk (ps_if hc ha hb) fun D σ H ⟨env, G, rl, o, h, k⟩ => by
  simp only [evS, Option.bind_eq_some_iff] at h
  obtain ⟨⟨b, e1⟩, h1, h2⟩ := h
  refine ⟨env, G, rl, b, e1, h1, fun G1 H1 rl1 x1 => ?_⟩
  cases b with
  | true => exact ⟨e1, G1, rl1, o, h2, k.step x1.stp⟩
  | false => exact ⟨e1, G1, rl1, o, h2, k.step x1.stp⟩
theorem wst_set {i : Nat} {x : Str} {e : Expr} {ir : E} {p : Pos} (hx : XOk g cf io n s X) (hl : locOf s x = some i) (he : PE X e (WE X.K cf io ir)) (hs : swapsWith e (some (.Name x p)) pos.line X.env = pure false) : PS X (.Assign [.Name x p] e pos) (WS X.K cf io (.set i ir)) := by
  obtain ⟨h1, h2, h3⟩ := hx.loc hl
  have hN : X.N.Nodup := by rw [hx.N]; exact hx.nd
  refine PS.wk (ps_set hN h1 h2 he hs h3) fun D σ H ⟨env, G, rl, o, h, k⟩ => ?_
  simp only [evS, Option.bind_eq_some_iff, Option.map_eq_some_iff] at h
  obtain ⟨⟨r, e1⟩, h4, e2, h5, h6⟩ := h
  subst h6
  refine ⟨env, G, rl, r, e1, h4, fun v G1 H1 rl1 x1 q f => ?_⟩
  obtain ⟨G2, r2, s2⟩ := storeR_ok x1 rl1 q f h5
  exact k _ G2 H1 r2 s2
theorem wst_asg {tg e : Expr} {t : Tg} {ir : E} (hx : XOk g cf io n s X) (ht : cTg s tg = some t) (he : PE X e (WE X.K cf io ir)) (hs : swapsWithSole [tg] e pos.line X.env = pure false) (hw : swappedStores [tg] e X.env = pure none)
    (h1 : (assignEach [tg] X.env).map (·.2) = [assign tg X.env]) : PS X (.Assign [tg] e pos) (WS X.K cf io (.asg t ir)) := by
  refine PS.wk (ps_asg he (wg_tg hx t tg ht) hs hw h1) fun D σ H ⟨env, G, rl, o, h, k⟩ => ?_
  simp only [evS, Option.bind_eq_some_iff, Option.map_eq_some_iff] at h
  obtain ⟨⟨r, e1⟩, h4, ⟨d, e2⟩, h5, e3, h6, h7⟩ := h
  subst h7
  refine ⟨env, G, rl, r, e1, h4, fun v G1 H1 rl1 x1 q f => ?_⟩
  obtain ⟨G2, x2, rl2, t2, _⟩ := fz_ok x1 rl1 q f h5
  exact ⟨e2, G2, d, rl2, t2, e3, h6, fun σ' rl3 s3 _ _ => k σ' G2 H1 rl3 (x2.stp.trans s3)⟩
theorem hasS_ok {K : PySem.W.Frag} {σ : L2.St} {G H : Hp} {env : Env} {i : Nat} {u : Unit} (rl : Rel K G H env σ) (h : hasS env i = some u) : ∃ v, σ[i]? = some (some v) := by
  unfold hasS at h
  split at h
  · rename_i p hp
    obtain ⟨d, f⟩ := p
    by_cases hf : f = .sh
    · subst hf
      obtain ⟨v, e, _⟩ := rl.sh i d hp
      exact ⟨v, e⟩
    · obtain ⟨a, e, _⟩ := rl.ow i d f hp hf
      exact ⟨_, e⟩
  · cases h
theorem ip_int (op : Bop) (h : op = .add ∨ op = .sub) : ∃ c : Int → Int → Int, PIp X (opOf op) (ipI c) ∧ ∀ i j, c i j = (match op with | .add => i + j | _ => i - j) := by
  rcases h with rfl | rfl
  · exact ⟨_, ip_add, fun _ _ => rfl⟩
  · exact ⟨_, ip_sub, fun _ _ => rfl⟩
theorem wst_aug {i : Nat} {x : Str} {e : Expr} {ir : E} {p : Pos} (op : Bop) (hx : XOk g cf io n s X) (hl : locOf s x = some i) (he : PE X e (WE X.K cf io ir)) : PS X (.AugAssign (.Name x p) (opOf op) e pos) (WS X.K cf io (.aug op i ir)) := by
  obtain ⟨h1, h2, h3⟩ := hx.loc hl
  have hN : X.N.Nodup := by rw [hx.N]; exact hx.nd
  by_cases hop : op = .add ∨ op = .sub
  · obtain ⟨c, hp, hc⟩ := ip_int (X := X) op hop
    refine PS.wk (ps_aug hN h1 h2 he hp h3) fun D σ H ⟨env, G, rl, o, h, k⟩ => ?_
    simp only [evS, Option.bind_eq_some_iff] at h
    obtain ⟨u, h0, ⟨r, e1⟩, h4, h5⟩ := h
    obtain ⟨v, ev⟩ := hasS_ok rl h0
    refine ⟨v, ev, env, G, rl, r, e1, h4, fun w G1 H1 rl1 x1 q f => ?_⟩
    split at h5
    · rename_i y fy xx hr hs
      have hr : r = .v (.int y) fy := hr
      have hs : e1[i]? = some (some (.int xx, Fl.sh)) := hs
      subst hr
      have hw := (rd_ok (r := .v (.int y) fy) rl1 q rfl).int
      obtain ⟨v', ev', tv⟩ := rl1.sh i _ hs
      rw [ev] at ev'
      cases ev'
      have hv : v = .int xx := by cases tv; rfl
      have hi : i < e1.length := (List.getElem?_eq_some_iff.mp hs).1
      have st : store e1 i (.int (c xx y)) .sh = some (e1.set i (some (.int (c xx y), .sh))) := by
        unfold store
        rw [hs]
      obtain ⟨r2, s2⟩ := store_sh (v := .int (c xx y)) rl1 (.int _) st
      refine ⟨xx, y, hv, hw, ?_⟩
      have ho : o = .nx (e1.set i (some (.int (c xx y), .sh))) := by
        rw [hc]
        rcases hop with rfl | rfl
        · exact (Option.some.inj h5).symm
        · exact (Option.some.inj h5).symm
      subst ho
      exact k _ G1 H1 r2 (x1.stp.trans s2)
    · cases h5
  · refine PS.never fun D σ H ⟨env, G, rl, o, h, k⟩ => ?_
    simp only [evS, Option.bind_eq_some_iff] at h
    obtain ⟨u, h0, ⟨r, e1⟩, h4, h5⟩ := h
    split at h5
    · cases op <;> simp at h5 hop
    · cases h5
/-- a statement behind a statement -/
theorem wst_seq {a : Stmt} {r : List Stmt} {sa sr : S} (ha : PS X a (WS X.K cf io sa)) (hr : PSs X r (WS X.K cf io sr)) : PSs X (a :: r) (WS X.K cf io (.seq sa sr)) := by
  refine PSs.wk (pss_cons ha hr) fun D σ H ⟨env, G, rl, o, h, k⟩ => ?_
  simp only [evS, Option.bind_eq_some_iff] at h
  obtain ⟨o1, h1, h2⟩ := h
  refine ⟨env, G, rl, o1, h1, ?_⟩
  cases o1 with
  | nx e1 => exact fun σ1 G1 H1 rl1 s1 => ⟨e1, G1, rl1, o, h2, k.step s1⟩
  | bk e1 => cases h2; exact k
  | ct e1 => cases h2; exact k
  | rt r e1 => cases h2; exact k
/-- while -/
theorem wst_while {c : Expr} {body : List Stmt} {ec : E} {sb : S} (hp : PassesOwn (model X.prog X.w) X.A X.env X.xe) (hc : PT X c (WT X.K cf io ec)) (hb : PSs X body (WS X.K cf io sb)) : PS X (.While c body [] pos) (WS X.K cf io (.while_ ec sb)) := by
  refine PS.wk (ps_while hp hc hb) fun D σ H ⟨env, G, rl, o, h, k⟩ => ?_
  simp only [evS] at h
  refine ⟨fun m σ1 H1 => ∃ e1 G1, Rel X.K G1 H1 e1 σ1 ∧ Stp σ G H env σ1 G1 H1 e1 ∧ whileF (evT cf io ec) (evS cf io sb) m e1 = some o, ⟨FUEL, env, G, rl, .refl, h⟩, ?_⟩
  rintro m σ1 H1 ⟨e1, G1, rl1, s1, hw⟩
  cases m with
  | zero => cases hw
  | succ m =>
    simp only [whileF, Option.bind_eq_some_iff] at hw
    obtain ⟨⟨b, e2⟩, h1, h2⟩ := hw
    refine ⟨e1, G1, rl1, b, e2, h1, fun G2 H2 rl2 x2 => ?_⟩
    cases b with
    | false =>
      simp only [Bool.false_eq_true, if_false, Option.some.injEq] at h2 ⊢
      subst h2
      exact k σ1 G2 H2 rl2 (s1.trans x2.stp)
    | true =>
      simp only [if_true, Option.bind_eq_some_iff] at h2 ⊢
      obtain ⟨ob, h3, h4⟩ := h2
      refine ⟨fun σ' H' => ∃ e3 G3, Rel X.K G3 H' e3 σ' ∧ Stp σ G H env σ' G3 H' e3 ∧ whileF (evT cf io ec) (evS cf io sb) m e3 = some o, fun σ' H' z => ⟨m, Nat.lt_succ_self m, z⟩, e2, G2, rl2, ob, h3, ?_⟩
      have s2 := s1.trans x2.stp
      cases ob with
      | nx e3 => exact fun σ' G' H' r s => ⟨e3, G', r, s2.trans s, h4⟩
      | ct e3 => exact fun σ' G' H' r s => ⟨e3, G', r, s2.trans s, h4⟩
      | bk e3 => cases h4; exact fun σ' G' H' r s => k σ' G' H' r (s2.trans s)
      | rt r e3 => cases h4; exact fun v σ' G' H' rr s q f => k v σ' G' H' rr (s2.trans s) q (f.trk s2.trk)
theorem forF_step {tg : Tg} {b : Env → Option Out} {xs : List D} {en : Env} {o : Out} {i : Nat} (h : forF tg b (xs.drop i) en = some o) (hi : i < xs.length) : ∃ x e1 o1, xs[i]? = some x ∧ bindT tg x en = some e1 ∧ b e1 = some o1 ∧
    (match o1 with | .nx e2 => forF tg b (xs.drop (i + 1)) e2 | .ct e2 => forF tg b (xs.drop (i + 1)) e2 | .bk e2 => some (.nx e2) | .rt r e2 => some (.rt r e2)) = some o := by
  rw [List.drop_eq_getElem_cons hi] at h
  simp only [forF, Option.bind_eq_some_iff] at h
  obtain ⟨e1, h1, o1, h2, h3⟩ := h
  exact ⟨_, e1, o1, List.getElem?_eq_getElem hi, h1, h2, h3⟩
theorem wst_for {tg iter : Expr} {t : Tg} {it : It} {body : List Stmt} {sb : S} (hx : XOk g cf io n s X) (hp : PassesOwn (model X.prog X.w) X.A X.env X.xe) (ht : cTg s tg = some t) (hi : PI X tg iter (WI X.K cf io it)) (hb : PSs X body (WS X.K cf io sb))
    (hs : ∀ x, foldedSetIterable iter X.env x = pure x) : PS X (.For tg iter body [] pos) (WS X.K cf io (.for_ t it sb)) := by
  refine PS.wk (ps_for hp hx.calm hi (wg_tg hx t tg ht) hb hs) fun D σ H ⟨env, G, rl, o, h, k⟩ => ?_
  simp only [evS, Option.bind_eq_some_iff] at h
  obtain ⟨⟨xs, e1⟩, h1, h2⟩ := h
  refine ⟨env, G, rl, xs, e1, h1, fun J G1 H1 rl1 x1 it1 => ?_⟩
  refine ⟨fun i m σ2 H2 => m = xs.length - i ∧ i ≤ xs.length ∧ ∃ e2 G2, Rel X.K G2 H2 e2 σ2 ∧ Stp σ G H env σ2 G2 H2 e2 ∧ Same G1 G2 ∧ forF t (evS cf io sb) (xs.drop i) e2 = some o, ⟨xs.length, by simp, Nat.zero_le _, e1, G1, rl1, x1.stp, Same.refl _, h2⟩, ?_⟩
  rintro i m σ2 H2 ⟨rfl, hi', e2, G2, rl2, s2, gs, hf⟩
  by_cases hlt : i < xs.length
  · obtain ⟨x, e3, o1, hxs, hb1, hb2, hb3⟩ := forF_step hf hlt
    refine .inr ⟨it1.go i H2 (gs.trans rl2.gh) hlt, fun σ' H' => ∃ e4 G4, Rel X.K G4 H' e4 σ' ∧ Stp σ G H env σ' G4 H' e4 ∧ Same G1 G4 ∧ forF t (evS cf io sb) (xs.drop (i + 1)) e4 = some o, fun σ' H' z => ⟨xs.length - (i + 1), by omega, rfl, hlt, z⟩, fun v H' y => ?_⟩
    obtain ⟨G3, gr, tx⟩ := it1.yld i H2 G2 x v H' gs rl2.gh hxs y
    refine ⟨e2, G3, x, rl2.grow gr, tx, e3, hb1, fun σ3 rl3 s3 _ _ => ⟨e3, G3, rl3, o1, hb2, ?_⟩⟩
    have s4 := (s2.trans (Ext.grow (σ := σ2) (env := e2) gr).stp).trans s3
    have g3 := gs.trans gr.g
    cases o1 with
    | nx e4 => exact fun σ' G' H' r s => ⟨e4, G', r, s4.trans s, g3.trans s.g, hb3⟩
    | ct e4 => exact fun σ' G' H' r s => ⟨e4, G', r, s4.trans s, g3.trans s.g, hb3⟩
    | bk e4 => cases hb3; exact fun σ' G' H' r s => k σ' G' H' r (s4.trans s)
    | rt r e4 => cases hb3; exact fun v σ' G' H' rr s q f => k v σ' G' H' rr (s4.trans s) q (f.trk s4.trk)
  · have e : i = xs.length := by omega
    subst e
    rw [List.drop_length] at hf
    cases hf
    exact .inl ⟨it1.stop _ H2 (gs.trans rl2.gh) (Nat.le_refl _), k σ2 G2 H2 rl2 s2⟩
end
end Ev


set_option Elab.async false
set_option linter.all false
set_option maxRecDepth 100000
set_option maxHeartbeats 2000000
/-! Soundness: statements that change things. -/
namespace Ev
open PySem PySem.Spec PyProof.Rows L2

section
variable {K : PySem.W.Frag} {G H : Hp}
theorem TrKv.length : ∀ {ks : List (List Key × V)} {kvs : List (D × D)}, TrKv K G ks kvs → ks.length = kvs.length
  | _, _, .nil => rfl
  | _, _, .cons _ _ t => by rw [List.length_cons, List.length_cons, t.length]
theorem TrKv.setv {k : List Key} {v : V} {d : D} (t : Tr K G v d) : ∀ {ks : List (List Key × V)} {kvs : List (D × D)}, TrKv K G ks kvs → TrKv K G (ks.map fun kv => if kv.1 = k then (kv.1, v) else kv) (dSet kvs k d)
  | _, _, .nil => .nil
  | _, _, .cons (ks := k0) (v := v0) (l := l) (d := d0) a t0 r => by
    have ih := r.setv (k := k) t
    unfold dSet at ih ⊢
    rw [List.map_cons, List.map_cons]
    simp only [a, Option.some.injEq]
    by_cases hk : k0 = k
    · rw [if_pos hk, if_pos hk]
      exact .cons a t ih
    · rw [if_neg hk, if_neg hk]
      exact .cons a t0 ih
theorem TrKv.app {ks ks' : List (List Key × V)} {kvs kvs' : List (D × D)} (x : TrKv K G ks kvs) (y : TrKv K G ks' kvs') : TrKv K G (ks ++ ks') (kvs ++ kvs') := by
  induction kvs generalizing ks with
  | nil => cases x; exact y
  | cons kv r ih =>
    cases x with
    | cons a t r' => exact .cons a t (ih r')
theorem TrKv.put {ks : List (List Key × V)} {kvs : List (D × D)} {l : List D} {k : List Key} {v : V} {d : D} (x : TrKv K G ks kvs) (a : keysD l = some k) (t : Tr K G v d) : TrKv K G (putK ks k v) (dPut kvs l k d) := by
  unfold putK dPut
  rw [x.has]
  by_cases h : (ks.any fun kv => decide (kv.1 = k)) = true
  · rw [if_pos h, if_pos h]
    exact x.setv t
  · rw [if_neg h, if_neg h]
    exact x.app (.cons a t .nil)
theorem putK_wrap (k : Key) (v : V) (ks : List (Key × V)) : ((putK ks k v).map fun kv => (([kv.1], kv.2) : List Key × V)) = putK (ks.map fun kv => ([kv.1], kv.2)) [k] v := by
  have e : ((ks.map fun kv => (([kv.1], kv.2) : List Key × V)).any fun kv => decide (kv.1 = [k])) = ks.any fun kv => decide (kv.1 = k) := by
    rw [List.any_map]
    congr 1
    funext kv
    simp
  unfold putK
  rw [e]
  split
  · rw [List.map_map, List.map_map]
    apply List.map_congr_left
    intro kv _
    by_cases h : kv.1 = k
    · simp [h]
    · simp [h]
  · rw [List.map_append]
    rfl
theorem putKD_ok {G2 : Hp} {a : Addr} {y v1 : V} {kvs kvs' : List (D × D)} {kd d : D} (o : Own K G H a (.dict kvs)) (gh : Same G2 H) (w2 : Vw K G2 H y kd) (t : Tr K G v1 d) (hl : kvs.length < LINE) (e : putKD kvs kd d = some kvs') :
    ∃ u, DPut H a y v1 (upd H a u) ∧ Own K G (upd H a u) a (.dict kvs') := by
  have hz : (sizeLine : Nat) = 16777216 := sizeLine_eq
  rcases o with ⟨kk, hH, t1⟩ | ⟨ks, r, rfl, hH, t1⟩
  · unfold putKD at e
    rw [t1.noMk] at e
    dsimp only at e
    split at e
    · split at e
      · rename_i l ks e1
        cases e
        obtain ⟨hlk, e1⟩ := keyT_some e1
        obtain ⟨b, vs, rfl, r2, t2⟩ := w2.tupT gh hlk
        exact ⟨.dT (putK kk ks v1), .inr ⟨kk, ks, b, hH, rfl, by rw [r2, t2.keys e1], by rw [t1.length, hz]; exact hl, rfl⟩, .inl ⟨_, upd_same, t1.put e1 t⟩⟩
      · cases e
    · cases e
  · unfold putKD at e
    rw [show unMk (mkD :: r) = some r from rfl] at e
    dsimp only at e
    split at e
    · rename_i k hk
      cases e
      have hlen : ks.length = r.length := by rw [← t1.length, List.length_map]
      have hl : r.length + 1 < 16777216 := by rw [List.length_cons] at hl; exact hl
      refine ⟨.dK (putK ks k v1), .inl ⟨ks, k, hH, w2.key hk, by rw [hlen, hz]; show _ < 16777216; omega, rfl⟩, .inr ⟨_, _, rfl, upd_same, ?_⟩⟩
      rw [putK_wrap]
      exact t1.put (by simp [keysD, hk]) t
    · cases e
end
section
variable {g : GC} {cf : CallF} {io : Nat → List Bool} {n : Nat} {s : SC} {X : Cx} {pos : Pos}
theorem swaps_none {e : Expr} {l : Nat} {env : PySem.Env} {tg : Option Expr} (h : isComp e = false) : swapsWith e tg l env = pure false := by
  cases e <;> first | rfl | cases h
theorem wst_expr {e : Expr} {ir : E} (he : PE X e (WE X.K cf io ir)) (hs : isComp e = false) : PS X (.Expr e pos) (WS X.K cf io (.expr ir)) := PS.wk (ps_expr he (swaps_none hs)) fun D σ H ⟨env, G, rl, o, h, k⟩ => by
  simp only [evS, Option.map_eq_some_iff] at h
  obtain ⟨⟨r, e1⟩, h1, h2⟩ := h
  subst h2
  exact ⟨env, G, rl, r, e1, h1, fun v G' H' rl' x q f => k σ G' H' rl' x.stp⟩
theorem few1 {a : Expr} {env : PySem.Env} {cpos : Pos} (h : isStar a = false) :
    ((backTo cpos (starEach [a] env)).all (fun x => !x.1) && (backToKw cpos (keywordEach [] env)).all (fun x => x.1.isSome) && decide (([a] : List Expr).length + ([] : List Keyword).length + (if ([] : List Keyword).isEmpty then 0 else 1) < 30)) = true := by
  rw [star_cons h]
  rfl
theorem wst_app {o a : Expr} {i : Nat} {ea : E} {ap cp : Pos} (ho : PE X o (tVar i)) (ha : PE X a (WE X.K cf io ea)) (hbase : attributeBase o "append" X.env (eval o X.env) = eval o X.env) (hl : (ap.endLine == cp.line) = true) (hs : isStar a = false) :
    PS X (.Expr (.Call (.Attribute o "append" ap) [a] [] cp) pos) (WS X.K cf io (.app i ea)) := by
  have hz : (sizeLine : Nat) = 16777216 := sizeLine_eq
  refine PS.wk (ps_expr (pe_bm PySem.F.plainAttrs_list PySem.F.slot_list_append PySem.F.type_list_append mt_append ho (pa_cons ha pa_nil (star_cons hs)) hbase (few1 hs) hl (star_cons hs) rfl)) fun D σ H ⟨env, G, rl, oo, h, k⟩ => ?_
  simp only [evS, Option.bind_eq_some_iff] at h
  obtain ⟨⟨xs0, f0⟩, h0, ⟨r1, e1⟩, h1, ⟨d, e2⟩, h2, ⟨xs, f⟩, h3, h4⟩ := h
  obtain ⟨hc, h4⟩ := ite'_some h4
  have hc := of_decide_eq_true hc
  cases h4
  obtain ⟨h0, hf0⟩ := ownL_ok h0
  obtain ⟨c, e, ga, vs0, hH0, t0⟩ := rl.ow i _ f0 h0 hf0
  refine ⟨_, e, .inl ⟨rfl, vs0, .inl (.inl hH0)⟩, env, G, rl, r1, e1, h1, fun v1 G1 H1 rl1 x1 q1 f1 => ?_⟩
  obtain ⟨G2, x2, rl2, t2, _⟩ := fz_ok x1 rl1 q1 f1 h2
  obtain ⟨h3, hf⟩ := ownL_ok h3
  obtain ⟨a', e', ga', vs, hH, t⟩ := rl2.ow i _ f h3 hf
  rw [e] at e'
  cases e'
  have m := mut_ok (u := .lst (vs ++ [v1])) (d' := .list (xs ++ [d])) rl2 h3 hf e ga' (by rw [hH]; simp) ⟨_, upd_same, t.append (.cons t2 .nil)⟩
  exact ⟨c, vs, v1, rfl, rfl, hH, by rw [hz, t.length]; exact hc, k σ G2 _ m.1 (x2.trans m.2).stp⟩
theorem extD_ok {K : PySem.W.Frag} {σ : L2.St} {G H : Hp} {env : Env} {r : R} {v : V} {i : Nat} {ys : List D} (rl : Rel K G H env σ) (q : RRel K G H env σ r v) (h : extD r i env = some ys) : ∃ b zs, v = V.ref b ∧ H b = some (.lst zs) ∧ TrAll K G zs ys ∧ (σ[i]? ≠ some (some (V.ref b)) ∨ ¬ ∃ d f, env[i]? = some (some (d, f)) ∧ f ≠ Fl.sh) := by
  unfold extD at h
  split at h
  · rename_i ys' 
    cases h
    obtain ⟨a, ea, ga, ⟨vs, hH, t⟩, no⟩ := q
    refine ⟨a, vs, ea, hH, t, ?_⟩
    by_cases z : σ[i]? = some (some (V.ref a))
    · exact .inr fun ⟨d, f, h1, h2⟩ => no ⟨i, d, f, h1, h2, z⟩
    · exact .inl z
  · rename_i j
    split at h
    · cases h
    · rename_i hj
      rw [Option.map_eq_some_iff] at h
      obtain ⟨⟨xs, f⟩, h1, h2⟩ := h
      cases h2
      obtain ⟨h1, hf⟩ := ownL_ok h1
      obtain ⟨a, e, ga, vs, hH, t⟩ := rl.ow j _ f h1 hf
      have hv : v = V.ref a := by
        have := q.1
        rw [e] at this
        cases this
        rfl
      refine ⟨a, vs, hv, hH, t, ?_⟩
      by_cases z : σ[i]? = some (some (V.ref a))
      · exact .inr fun ⟨d, f', h3, h4⟩ => hj (rl.ap j i _ d f f' a h1 hf h3 h4 e z)
      · exact .inl z
  · cases h
theorem wst_ext {o a : Expr} {i : Nat} {ea : E} {ap cp : Pos} (ho : PE X o (tVar i)) (ha : PE X a (WE X.K cf io ea)) (hbase : attributeBase o "extend" X.env (eval o X.env) = eval o X.env) (hl : (ap.endLine == cp.line) = true) (hs : isStar a = false) :
    PS X (.Expr (.Call (.Attribute o "extend" ap) [a] [] cp) pos) (WS X.K cf io (.ext i ea)) := by
  have hz : (sizeLine : Nat) = 16777216 := sizeLine_eq
  refine PS.wk (ps_expr (pe_bm PySem.F.plainAttrs_list PySem.F.slot_list_extend PySem.F.type_list_extend mt_extend ho (pa_cons ha pa_nil (star_cons hs)) hbase (few1 hs) hl (star_cons hs) rfl)) fun D σ H ⟨env, G, rl, oo, h, k⟩ => ?_
  simp only [evS, Option.bind_eq_some_iff] at h
  obtain ⟨⟨xs0, f0⟩, h0, ⟨r1, e1⟩, h1, ys, h2, ⟨xs, f⟩, h3, h4⟩ := h
  obtain ⟨hc, h4⟩ := ite'_some h4
  have hc := of_decide_eq_true hc
  cases h4
  obtain ⟨h0, hf0⟩ := ownL_ok h0
  obtain ⟨c, e, ga, vs0, hH0, t0⟩ := rl.ow i _ f0 h0 hf0
  refine ⟨_, e, .inl ⟨rfl, vs0, .inl (.inl hH0)⟩, env, G, rl, r1, e1, h1, fun v1 G1 H1 rl1 x1 q1 f1 => ?_⟩
  obtain ⟨b, zs, eb, hb, tb, _⟩ := extD_ok rl1 q1 h2
  obtain ⟨h3, hf⟩ := ownL_ok h3
  obtain ⟨a', e', ga', vs, hH, t⟩ := rl1.ow i _ f h3 hf
  rw [e] at e'
  cases e'
  have m := mut_ok (u := .lst (vs ++ zs)) (d' := .list (xs ++ ys)) rl1 h3 hf e ga' (by rw [hH]; simp) ⟨_, upd_same, t.append tb⟩
  exact ⟨c, b, vs, zs, rfl, by rw [eb], hH, hb, by rw [hz, t.length, tb.length]; exact hc, k σ G1 _ m.1 (x1.trans m.2).stp⟩

/-! ### o[k] = v -/
theorem PSet.or {t t' : TSet} (h : PSet X t) (h' : PSet X t') : PSet X (fun o i v H Q => t o i v H Q ∨ t' o i v H Q) := fun pins s σ H o i v ov iv u Q I r1 r2 r3 q => by
  rcases q with q | q
  · exact h pins s σ H o i v ov iv u Q I r1 r2 r3 q
  · exact h' pins s σ H o i v ov iv u Q I r1 r2 r3 q
theorem assign_sub {o i : Expr} {p : Pos} {env : PySem.Env} (h : plainIx i = true) (v : Value) : assign (.Subscript o i p) env v = (do
      let ov ← holding [v] (eval o env)
      let iv ← holding [v, ov] (eval i env)
      standAt p
      holding [v, ov, iv] (setItem ov iv v)
      release [v, ov, iv] []) := by
  cases i <;> first | rfl | cases h
theorem sole_none {tg e : Expr} {l : Nat} {env : PySem.Env} (h : isComp e = false) : swapsWithSole [tg] e l env = pure false := swaps_none h
theorem stores_sub {o i e : Expr} {p : Pos} {env : PySem.Env} : swappedStores [.Subscript o i p] e env = pure none := by
  cases e <;> rfl
theorem wst_put {x : Str} {kx e : Expr} {i : Nat} {ek ev : E} {px ps : Pos} (hx : XOk g cf io n s X) (hi : slotOf s x = some i) (hk : PE X kx (WE X.K cf io ek)) (he : PE X e (WE X.K cf io ev)) (hs : isComp e = false) (hp : plainIx kx = true) :
    PS X (.Assign [.Subscript (.Name x px) kx ps] e pos) (WS X.K cf io (.put i ek ev)) := by
  have hz : (sizeLine : Nat) = 16777216 := sizeLine_eq
  refine PS.wk (ps_asg he (pg_sub (hx.pv hi) hk (PSet.or set_list (set_dict hx.hu1)) (assign_sub hp)) (sole_none hs) stores_sub rfl) fun D σ H ⟨env, G, rl, oo, h, k⟩ => ?_
  simp only [evS, Option.bind_eq_some_iff] at h
  obtain ⟨⟨r, e1⟩, h1, u, h2, ⟨rk, e2⟩, h3, kd, h4, ⟨d, e3⟩, h5, h6⟩ := h
  refine ⟨env, G, rl, r, e1, h1, fun v1 G1 H1 rl1 x1 q1 f1 => ?_⟩
  obtain ⟨ov, eo⟩ := hasS_ok rl1 h2
  refine ⟨ov, eo, e1, G1, rl1, rk, e2, h3, fun v2 G2 H2 rl2 x2 q2 f2 => ?_⟩
  have w2 := rd_ok rl2 q2 h4
  obtain ⟨G3, x3, rl3, t3, _⟩ := fz_ok (x1.trans x2) rl2 (q1.step x2) f1 h5
  split at h6
  · rename_i xs f j h7
    rw [Option.map_eq_some_iff] at h6
    obtain ⟨p, h8, h9⟩ := h6
    subst h9
    obtain ⟨h7, hf⟩ := ownL_ok h7
    obtain ⟨a, e', ga, vs, hH, t⟩ := rl3.ow i _ f h7 hf
    rw [eo] at e'
    cases e'
    have m := mut_ok (u := .lst (vs.set p v1)) (d' := .list (xs.set p d)) rl3 h7 hf eo ga (by rw [hH]; simp) ⟨_, upd_same, t.set p t3⟩
    exact .inl ⟨a, vs, j, p, rfl, w2.int, hH, by rw [t.length]; exact h8, k σ G3 _ m.1 (x3.trans m.2).stp⟩
  · simp only [Option.bind_eq_some_iff] at h6
    obtain ⟨⟨kvs, f⟩, h8, kvs', hp, h9⟩ := h6
    obtain ⟨hc, h9⟩ := ite'_some h9
    have hc := of_decide_eq_true hc
    cases h9
    obtain ⟨h8, hf⟩ := ownK_ok h8
    obtain ⟨a, e', ga, ow⟩ := rl3.ow i _ f h8 hf
    rw [eo] at e'
    cases e'
    obtain ⟨u, dp, ow'⟩ := putKD_ok ow rl2.gh w2 t3 hc hp
    have m := mut_ok (u := u) (d' := .dict kvs') rl3 h8 hf eo ga ow.ne ow'
    exact .inr ⟨a, _, rfl, dp, k σ G3 _ m.1 (x3.trans m.2).stp⟩
  · cases h6

/-! ### a, b = x, y -/
theorem frz_ok {K : PySem.W.Frag} {σ : L2.St} {G H G1 H1 : Hp} {env env1 env2 : Env} {r r' : R} {v : V} (x : Ext σ G H env G1 H1 env1) (rl : Rel K G1 H1 env1 σ) (q : RRel K G1 H1 env1 σ r v) (fr : Fresh H r v) (h : frz r env1 = some (r', env2)) :
    ∃ G2, Ext σ G H env G2 H1 env2 ∧ Rel K G2 H1 env2 σ ∧ RRel K G2 H1 env2 σ r' v ∧ Fresh H r' v ∧ (isTemp r' = true → isTemp r = true) ∧ (∃ d f, r' = .v d f) ∧
      ∀ (r2 : R) (v2 : V), RRel K G1 H1 env1 σ r2 v2 → RRel K G2 H1 env2 σ r2 v2 := by
  cases r with
  | v d f =>
    cases h
    exact ⟨G1, x, rl, q, fr, fun z => z, ⟨d, f, rfl⟩, fun _ _ z => z⟩
  | s i =>
    simp only [frz, Option.map_eq_some_iff, Prod.mk.injEq] at h
    obtain ⟨⟨d, e1⟩, h1, h2, h3⟩ := h
    subst h2 h3
    obtain ⟨G2, x2, rl2, t2, gs2, gn2, ow2, sl2⟩ := fz_ok x rl q fr h1
    exact ⟨G2, x2, rl2, t2, (fun z => by cases z), (fun z => by cases z), ⟨d, .sh, rfl⟩, fun r2 v2 z => RRel.keep z gs2 (fun b hb gb nb _ _ => gn2 b hb gb nb fun y => (by cases y.1)) ow2 sl2⟩
theorem store_owS {K : PySem.W.Frag} {σ0 σ : L2.St} {G H G1 H1 : Hp} {env0 env1 env2 : Env} {i : Nat} {d : D} {a : Addr} (rl : Rel K G1 H1 env1 σ) (x : Stp σ0 G H env0 σ G1 H1 env1) (ga : G1 a = none) (o : Own K G1 H1 a d) (no : ¬ Owned env1 σ a) (ha : H a = none) (h : store env1 i d .ow = some env2) :
    Rel K G1 H1 env2 (σ.set i (some (.ref a))) ∧ Stp σ0 G H env0 (σ.set i (some (.ref a))) G1 H1 env2 := by
  obtain ⟨hi, rfl, hn⟩ := store_some h
  have hi' : i < σ.length := by rw [← rl.len]; exact hi
  have back : ∀ {j : Nat} {d0 : D} {f0 : Fl}, (env1.set i (some (d, Fl.ow)))[j]? = some (some (d0, f0)) → (i = j ∧ d0 = d ∧ (σ.set i (some (V.ref a)))[j]? = some (some (V.ref a))) ∨ (i ≠ j ∧ env1[j]? = some (some (d0, f0)) ∧ (σ.set i (some (V.ref a)))[j]? = σ[j]?) := fun {j d0 f0} h => by
    by_cases hij : i = j
    · subst hij
      rw [List.getElem?_set_self hi] at h
      cases h
      exact .inl ⟨rfl, rfl, by rw [List.getElem?_set_self hi']⟩
    · rw [List.getElem?_set_ne hij] at h
      exact .inr ⟨hij, h, by rw [List.getElem?_set_ne hij]⟩
  refine ⟨⟨by rw [List.length_set, List.length_set]; exact rl.len, rl.gh, fun j d0 h => ?_, fun j d0 f0 h hf => ?_, fun j k d1 d2 f1 f2 b h1 hf1 h2 hf2 e1 e2 => ?_⟩, x.g, x.trk, fun b hb g n => ?_, by rw [List.length_set]; exact x.len, fun j d0 h => ?_⟩
  · rcases back h with ⟨rfl, _, _⟩ | ⟨hij, h, e⟩
    · rw [List.getElem?_set_self hi] at h
      cases h
    · rw [e]
      exact rl.sh j d0 h
  · rcases back h with ⟨rfl, rfl, e⟩ | ⟨hij, h, e⟩
    · exact ⟨a, e, ga, o⟩
    · rw [e]
      exact rl.ow j d0 f0 h hf
  · rcases back h1 with ⟨z1, z2, e1'⟩ | ⟨hij, g1, e1'⟩
    · rcases back h2 with ⟨z3, _, _⟩ | ⟨hik, g2, e2'⟩
      · exact z1.symm.trans z3
      · rw [e1'] at e1
        rw [e2'] at e2
        cases e1
        exact absurd ⟨k, d2, f2, g2, hf2, e2⟩ no
    · rcases back h2 with ⟨z1, z2, e2'⟩ | ⟨hik, g2, e2'⟩
      · rw [e1'] at e1
        rw [e2'] at e2
        cases e2
        exact absurd ⟨j, d1, f1, g1, hf1, e1⟩ no
      · rw [e1'] at e1
        rw [e2'] at e2
        exact rl.ap j k d1 d2 f1 f2 b g1 hf1 g2 hf2 e1 e2
  · obtain ⟨e1, g1, n1⟩ := x.far b hb g n
    refine ⟨e1, g1, fun ⟨j, d0, f0, h1, h2, h3⟩ => ?_⟩
    rcases back h1 with ⟨rfl, rfl, e⟩ | ⟨hij, h1, e⟩
    · rw [e] at h3
      cases h3
      exact hb ha
    · rw [e] at h3
      exact n1 ⟨j, d0, f0, h1, h2, h3⟩
  · obtain ⟨⟨d1, h1⟩, h2⟩ := x.io j d0 h
    have hij : i ≠ j := fun z => by subst z; exact hn d1 h1
    rw [List.getElem?_set_ne hij, List.getElem?_set_ne hij]
    exact ⟨⟨d1, h1⟩, h2⟩
theorem storeV_ok {K : PySem.W.Frag} {σ0 σ : L2.St} {G H G1 H1 : Hp} {env0 env1 env2 : Env} {i : Nat} {d : D} {f : Fl} {v : V} (rl : Rel K G1 H1 env1 σ) (x : Stp σ0 G H env0 σ G1 H1 env1) (q : RRel K G1 H1 env1 σ (.v d f) v) (fr : Fresh H (.v d f) v) (h : storeR (.v d f) env1 i = some env2) :
    Rel K G1 H1 env2 (σ.set i (some v)) ∧ Stp σ0 G H env0 (σ.set i (some v)) G1 H1 env2 ∧
      ∀ (d2 : D) (f2 : Fl) (w : V), RRel K G1 H1 env1 σ (.v d2 f2) w → (∀ a, f = .ow → v = V.ref a → f2 = .ow → w ≠ V.ref a) → RRel K G1 H1 env2 (σ.set i (some v)) (.v d2 f2) w := by
  have h' : store env1 i d f = some env2 := h
  obtain ⟨hi, e2, hn⟩ := store_some h'
  have hi' : i < σ.length := by rw [← rl.len]; exact hi
  have keep : ∀ (d2 : D) (f2 : Fl) (w : V), RRel K G1 H1 env1 σ (.v d2 f2) w → (∀ a, f = .ow → v = V.ref a → f2 = .ow → w ≠ V.ref a) → f ≠ .io → RRel K G1 H1 env2 (σ.set i (some v)) (.v d2 f2) w := fun d2 f2 w q2 ne hio => by
    cases f2 with
    | sh => exact q2
    | io => exact q2
    | ow =>
      obtain ⟨b, eb, gb, ob, nb⟩ := q2
      refine ⟨b, eb, gb, ob, fun ⟨j, d0, f0, h1, h2, h3⟩ => ?_⟩
      subst e2
      by_cases hij : i = j
      · subst hij
        rw [List.getElem?_set_self hi] at h1
        rw [List.getElem?_set_self hi'] at h3
        cases h1
        cases h3
        cases f with
        | sh => exact h2 rfl
        | io => exact hio rfl
        | ow => exact ne b rfl rfl rfl eb
      · rw [List.getElem?_set_ne hij] at h1 h3
        exact nb ⟨j, d0, f0, h1, h2, h3⟩
  cases f with
  | sh =>
    obtain ⟨r1, s1⟩ := store_sh rl q h'
    exact ⟨r1, x.trans s1, fun d2 f2 w q2 ne => keep d2 f2 w q2 ne (by decide)⟩
  | io => exact q.elim
  | ow =>
    obtain ⟨a, ea, ga, o, no⟩ := q
    subst ea
    obtain ⟨r1, s1⟩ := store_owS rl x ga o no (fr rfl a rfl) h'
    exact ⟨r1, s1, fun d2 f2 w q2 ne => keep d2 f2 w q2 ne (by decide)⟩
theorem swap2_eq {x y : Str} {a b : Expr} {px py pt pt2 : Pos} {kt k2 : Nat} {env : PySem.Env} (hk : env.blockKind = .function) (hlpy : px.line = py.line) (hx : env.kindOf x = some .local) (hy : env.kindOf y = some .local) (hxy : x ≠ y) (st : [a, b].any isStar = false)
    (h1 : (foldedForSure 8 a && foldedForSure 8 b) = false) (h2 : (constantsAlone 8 a && constantsAlone 8 b) = false) : swappedStores [.Tuple [.Name x px, .Name y py] kt pt] (.Tuple [a, b] k2 pt2) env = pure (some [x, y]) := by
  have e1 : ([a, b].all (foldedForSure 8)) = false := by
    simp only [List.all_cons, List.all_nil, Bool.and_true]; exact h1
  have e2 : ([a, b].all (constantsAlone 8)) = false := by
    simp only [List.all_cons, List.all_nil, Bool.and_true]; exact h2
  have e4 : [x, y].eraseDups = [x, y] := by
    simp [List.eraseDups_cons, Ne.symm hxy]
  have kx : (env.kindOf x == some .local && px.line == px.line) = true := by rw [hx]; simp
  have ky : (env.kindOf y == some .local && py.line == px.line) = true := by rw [hy, hlpy]; simp
  have fm : (List.filterMap (fun e : Expr => match e with
      | .Name id pos => if (env.kindOf id == some .local && pos.line == px.line) = true then some id else none
      | _ => none) [Expr.Name x px, Expr.Name y py]) = [x, y] := by
    rw [List.filterMap_cons_some (b := x) (by show (if _ then _ else _) = _; rw [if_pos kx]), List.filterMap_cons_some (b := y) (by show (if _ then _ else _) = _; rw [if_pos ky])]
    rfl
  unfold swappedStores
  refine (if_neg ?_).trans ((if_neg ?_).trans ((if_neg ?_).trans ((if_neg ?_).trans ((if_neg ?_).trans ?_))))
  · rw [hk]; exact fun z => Bool.noConfusion z
  · show ¬ ([a, b].any isStar = true)
    rw [st]; exact fun z => Bool.noConfusion z
  · show ¬ (((List.filterMap (fun e : Expr => match e with
      | .Name id pos => if (env.kindOf id == some .local && pos.line == px.line) = true then some id else none
      | _ => none) [Expr.Name x px, Expr.Name y py]).length != 2 || (List.filterMap (fun e : Expr => match e with
      | .Name id pos => if (env.kindOf id == some .local && pos.line == px.line) = true then some id else none
      | _ => none) [Expr.Name x px, Expr.Name y py]).eraseDups.length != (List.filterMap (fun e : Expr => match e with
      | .Name id pos => if (env.kindOf id == some .local && pos.line == px.line) = true then some id else none
      | _ => none) [Expr.Name x px, Expr.Name y py]).length) = true)
    rw [fm, e4]; exact fun z => Bool.noConfusion z
  · show ¬ ([a, b].all (foldedForSure 8) = true)
    rw [e1]; exact fun z => Bool.noConfusion z
  · show ¬ ([a, b].all (constantsAlone 8) = true)
    rw [e2]; exact fun z => Bool.noConfusion z
  · show pure (some (List.filterMap (fun e : Expr => match e with
      | .Name id pos => if (env.kindOf id == some .local && pos.line == px.line) = true then some id else none
      | _ => none) [Expr.Name x px, Expr.Name y py])) = _
    rw [fm]
theorem swap3_eq {x y z : Str} {a b c : Expr} {px py pz pt pt2 : Pos} {kt k2 : Nat} {env : PySem.Env} (hk : env.blockKind = .function) (hlpy : px.line = py.line) (hlpz : px.line = pz.line) (hx : env.kindOf x = some .local) (hy : env.kindOf y = some .local) (hz : env.kindOf z = some .local) (hxy : x ≠ y) (hxz : x ≠ z) (hyz : y ≠ z) (st : [a, b, c].any isStar = false)
    (h1 : (foldedForSure 8 a && (foldedForSure 8 b && foldedForSure 8 c)) = false) (h2 : (constantsAlone 8 a && (constantsAlone 8 b && constantsAlone 8 c)) = false) : swappedStores [.Tuple [.Name x px, .Name y py, .Name z pz] kt pt] (.Tuple [a, b, c] k2 pt2) env = pure (some [x, y, z]) := by
  have e1 : ([a, b, c].all (foldedForSure 8)) = false := by
    simp only [List.all_cons, List.all_nil, Bool.and_true]; exact h1
  have e2 : ([a, b, c].all (constantsAlone 8)) = false := by
    simp only [List.all_cons, List.all_nil, Bool.and_true]; exact h2
  have e4 : [x, y, z].eraseDups = [x, y, z] := by
    simp [List.eraseDups_cons, Ne.symm hxy, Ne.symm hxz, Ne.symm hyz]
  have kx : (env.kindOf x == some .local && px.line == px.line) = true := by rw [hx]; simp
  have ky : (env.kindOf y == some .local && py.line == px.line) = true := by rw [hy, hlpy]; simp
  have kz : (env.kindOf z == some .local && pz.line == px.line) = true := by rw [hz, hlpz]; simp
  have fm : (List.filterMap (fun e : Expr => match e with
      | .Name id pos => if (env.kindOf id == some .local && pos.line == px.line) = true then some id else none
      | _ => none) [Expr.Name x px, Expr.Name y py, Expr.Name z pz]) = [x, y, z] := by
    rw [List.filterMap_cons_some (b := x) (by show (if _ then _ else _) = _; rw [if_pos kx]), List.filterMap_cons_some (b := y) (by show (if _ then _ else _) = _; rw [if_pos ky]), List.filterMap_cons_some (b := z) (by show (if _ then _ else _) = _; rw [if_pos kz])]
    rfl
  unfold swappedStores
  refine (if_neg ?_).trans ((if_neg ?_).trans ((if_neg ?_).trans ((if_neg ?_).trans ((if_neg ?_).trans ?_))))
  · rw [hk]; exact fun z => Bool.noConfusion z
  · show ¬ ([a, b, c].any isStar = true)
    rw [st]; exact fun z => Bool.noConfusion z
  · show ¬ (((List.filterMap (fun e : Expr => match e with
      | .Name id pos => if (env.kindOf id == some .local && pos.line == px.line) = true then some id else none
      | _ => none) [Expr.Name x px, Expr.Name y py, Expr.Name z pz]).length != 3 || (List.filterMap (fun e : Expr => match e with
      | .Name id pos => if (env.kindOf id == some .local && pos.line == px.line) = true then some id else none
      | _ => none) [Expr.Name x px, Expr.Name y py, Expr.Name z pz]).eraseDups.length != (List.filterMap (fun e : Expr => match e with
      | .Name id pos => if (env.kindOf id == some .local && pos.line == px.line) = true then some id else none
      | _ => none) [Expr.Name x px, Expr.Name y py, Expr.Name z pz]).length) = true)
    rw [fm, e4]; exact fun z => Bool.noConfusion z
  · show ¬ ([a, b, c].all (foldedForSure 8) = true)
    rw [e1]; exact fun z => Bool.noConfusion z
  · show ¬ ([a, b, c].all (constantsAlone 8) = true)
    rw [e2]; exact fun z => Bool.noConfusion z
  · show pure (some (List.filterMap (fun e : Expr => match e with
      | .Name id pos => if (env.kindOf id == some .local && pos.line == px.line) = true then some id else none
      | _ => none) [Expr.Name x px, Expr.Name y py, Expr.Name z pz])) = _
    rw [fm]
end
end Ev


set_option Elab.async false
set_option linter.all false
set_option maxRecDepth 100000
set_option maxHeartbeats 2000000
/-! Soundness: all statements. -/
namespace Ev
open PySem PySem.Spec PyProof.Rows L2

section
variable {g : GC} {cf : CallF} {io : Nat → List Bool} {n : Nat} {s : SC} {X : Cx} {pos : Pos}
theorem ixStr_ne {N : List Str} {x y : Str} {i j : Nat} (hx : ixStr N x = some i) (hy : ixStr N y = some j) (h : x ≠ y) : i ≠ j := fun z => by
  have a := ixStr_ok hx
  have b := ixStr_ok hy
  rw [z, b] at a
  exact h (Option.some.inj a).symm
theorem wst_par2 {i j : Nat} {x y : Str} {a b : Expr} {ea eb : E} {px py pt pt2 : Pos} {kt k2 : Nat} (hx : XOk g cf io n s X) (hi : ixStr s.N x = some i) (hj : ixStr s.N y = some j) (hxy : x ≠ y) (lx : s.sc.names.lookup x = some .local) (ly : s.sc.names.lookup y = some .local)
    (ha : PE X a (WE X.K cf io ea)) (hb : PE X b (WE X.K cf io eb)) (sa : isStar a = false) (sb : isStar b = false) (hw : swappedStores [.Tuple [.Name x px, .Name y py] kt pt] (.Tuple [a, b] k2 pt2) X.env = pure (some [x, y])) :
    PS X (.Assign [.Tuple [.Name x px, .Name y py] kt pt] (.Tuple [a, b] k2 pt2) pos) (WS X.K cf io (.par2 i j ea eb)) := by
  have hN : X.N.Nodup := by rw [hx.N]; exact hx.nd
  refine PS.wk (ps_par hx.calm hN (by rw [hx.N]; exact ixStr_ok hi) (by rw [hx.N]; exact ixStr_ok hj) (ixStr_ne hi hj hxy) (by rw [hx.sc]; exact lx) (by rw [hx.sc]; exact ly) (ws_cons ha (ws_cons hb ws_nil (star_cons sb)) (star_cons sa)) hw) fun D σ H ⟨env, G, rl, o, h, k⟩ => ?_
  simp only [evS, Option.bind_eq_some_iff, Option.map_eq_some_iff] at h
  obtain ⟨⟨r1, e1⟩, h1, ⟨r2, e2⟩, h2, ⟨q1, e3⟩, h3, ⟨q2, e4⟩, h4, e5, h5, e6, h6, h7⟩ := h
  subst h7
  refine ⟨env, G, rl, [r1, r2], e2, by simp only [evEs, h1, h2, Option.bind_some, Option.map_some], fun vs G1 H1 rl1 x1 rs => ?_⟩
  cases rs with
  | @cons _ v _ _ qa fa da rs => cases rs with
    | @cons _ w _ _ qb fb db rs =>
      cases rs
      obtain ⟨G2, x2, rl2, qa2, fa2, ta, ⟨d, f, rfl⟩, keep⟩ := frz_ok x1 rl1 qa fa h3
      obtain ⟨G3, x3, rl3, qb3, fb3, tb, ⟨d', f', rfl⟩, keep'⟩ := frz_ok x2 rl2 (keep _ _ qb) fb h4
      obtain ⟨rl5, s5, k5⟩ := storeV_ok rl3 x3.stp (keep' _ _ qa2) fa2 h5
      have qb5 := k5 _ _ _ qb3 fun a hf hv hf' hw' => da a (ta (by rw [hf]; rfl)) hv (.inl ⟨tb (by rw [hf']; rfl), hw'⟩)
      obtain ⟨rl6, s6, _⟩ := storeV_ok rl5 s5 qb5 fb3 h6
      exact ⟨v, w, rfl, k _ G3 H1 rl6 s6⟩
theorem wst_par3 {i j l : Nat} {x y z : Str} {a b c : Expr} {ea eb ec : E} {px py pz pt pt2 : Pos} {kt k2 : Nat} (hx : XOk g cf io n s X) (hi : ixStr s.N x = some i) (hj : ixStr s.N y = some j) (hl : ixStr s.N z = some l) (hxy : x ≠ y) (hxz : x ≠ z) (hyz : y ≠ z)
    (lx : s.sc.names.lookup x = some .local) (ly : s.sc.names.lookup y = some .local) (lz : s.sc.names.lookup z = some .local)
    (ha : PE X a (WE X.K cf io ea)) (hb : PE X b (WE X.K cf io eb)) (hc : PE X c (WE X.K cf io ec)) (sa : isStar a = false) (sb : isStar b = false) (sc : isStar c = false)
    (hw : swappedStores [.Tuple [.Name x px, .Name y py, .Name z pz] kt pt] (.Tuple [a, b, c] k2 pt2) X.env = pure (some [x, y, z])) :
    PS X (.Assign [.Tuple [.Name x px, .Name y py, .Name z pz] kt pt] (.Tuple [a, b, c] k2 pt2) pos) (WS X.K cf io (.par3 i j l ea eb ec)) := by
  have hN : X.N.Nodup := by rw [hx.N]; exact hx.nd
  refine PS.wk (ps_par3 hx.calm hN (by rw [hx.N]; exact ixStr_ok hi) (by rw [hx.N]; exact ixStr_ok hj) (by rw [hx.N]; exact ixStr_ok hl) (ixStr_ne hi hj hxy) (ixStr_ne hi hl hxz) (ixStr_ne hj hl hyz) (by rw [hx.sc]; exact lx) (by rw [hx.sc]; exact ly) (by rw [hx.sc]; exact lz)
    (ws_cons ha (ws_cons hb (ws_cons hc ws_nil (star_cons sc)) (star_cons sb)) (star_cons sa)) hw) fun D σ H ⟨env, G, rl, o, h, k⟩ => ?_
  simp only [evS, Option.bind_eq_some_iff, Option.map_eq_some_iff] at h
  obtain ⟨⟨r1, e1⟩, h1, ⟨r2, e2⟩, h2, ⟨r3, e2'⟩, h2', ⟨q1, e3⟩, h3, ⟨q2, e4⟩, h4, ⟨q3, e4'⟩, h4', e5, h5, e6, h6, e7, h7, h8⟩ := h
  subst h8
  refine ⟨env, G, rl, [r1, r2, r3], e2', by simp only [evEs, h1, h2, h2', Option.bind_some, Option.map_some], fun vs G1 H1 rl1 x1 rs => ?_⟩
  cases rs with
  | @cons _ v _ _ qa fa da rs => cases rs with
    | @cons _ w _ _ qb fb db rs => cases rs with
      | @cons _ u _ _ qc fc dc rs =>
        cases rs
        obtain ⟨G2, x2, rl2, qa2, fa2, ta, ⟨d, f, rfl⟩, keep⟩ := frz_ok x1 rl1 qa fa h3
        obtain ⟨G3, x3, rl3, qb3, fb3, tb, ⟨d', f', rfl⟩, keep'⟩ := frz_ok x2 rl2 (keep _ _ qb) fb h4
        obtain ⟨G4, x4, rl4, qc4, fc4, tc, ⟨d'', f'', rfl⟩, keep''⟩ := frz_ok x3 rl3 (keep' _ _ (keep _ _ qc)) fc h4'
        obtain ⟨rl5, s5, k5⟩ := storeV_ok rl4 x4.stp (keep'' _ _ (keep' _ _ qa2)) fa2 h5
        have qb5 := k5 _ _ _ (keep'' _ _ qb3) fun a hf hv hf' hw' => da a (ta (by rw [hf]; rfl)) hv (.inl ⟨tb (by rw [hf']; rfl), hw'⟩)
        have qc5 := k5 _ _ _ qc4 fun a hf hv hf' hw' => da a (ta (by rw [hf]; rfl)) hv (.inr (.inl ⟨tc (by rw [hf']; rfl), hw'⟩))
        obtain ⟨rl6, s6, k6⟩ := storeV_ok rl5 s5 qb5 fb3 h6
        have qc6 := k6 _ _ _ qc5 fun a hf hv hf' hw' => db a (tb (by rw [hf]; rfl)) hv (.inl ⟨tc (by rw [hf']; rfl), hw'⟩)
        obtain ⟨rl7, s7, _⟩ := storeV_ok rl6 s6 qc6 fc4 h7
        exact ⟨v, w, u, rfl, k _ G4 H1 rl7 s7⟩

/-! ### name = [..] -/
theorem set_w {i : Nat} {ir : E} {st : Stmt} (h : PS X st (tAsg (WE X.K cf io ir) (gName i))) : PS X st (WS X.K cf io (.set i ir)) := by
  refine PS.wk h fun D σ H ⟨env, G, rl, o, h, k⟩ => ?_
  simp only [evS, Option.bind_eq_some_iff, Option.map_eq_some_iff] at h
  obtain ⟨⟨r, e1⟩, h4, e2, h5, h6⟩ := h
  subst h6
  refine ⟨env, G, rl, r, e1, h4, fun v G1 H1 rl1 x1 q f => ?_⟩
  obtain ⟨G2, r2, s2⟩ := storeR_ok x1 rl1 q f h5
  exact k _ G2 H1 r2 s2
theorem set_never {i : Nat} {st : Stmt} : PS X st (WS X.K cf io (.set i .bad)) := PS.never fun D σ H ⟨env, G, rl, o, h, k⟩ => by
  simp only [evS, evE, Option.bind_none, reduceCtorEq] at h
theorem set_dead {i : Nat} {st : Stmt} {ir : E} (hn : ∀ env, evE cf io ir env = none) : PS X st (WS X.K cf io (.set i ir)) := PS.never fun D σ H ⟨env, G, rl, o, h, k⟩ => by
  simp only [evS, hn, Option.bind_none, reduceCtorEq] at h
theorem lc_swaps {elt : Expr} {gs : List Comprehension} {scope : Scope} {p lp : Pos} {y : Str} {l : Nat} {env : PySem.Env} :
    ∃ b, swapsWith (.ListComp elt gs scope lp) (some (.Name y p)) l env = pure b ∧ (b = true → env.kindOf y = some .local) := by
  refine ⟨_, rfl, fun h => ?_⟩
  rw [Bool.and_eq_true, Bool.and_eq_true, Bool.and_eq_true] at h
  exact eq_of_beq h.1.1.2
theorem wst_lc {elt tg iter : Expr} {ifs : List Expr} {scope : Scope} {lp p : Pos} {t : Tg} {y : Str} {i : Nat} (h : XOk g cf io n s X) (hl : locOf s y = some i) (hI : Snd g cf io n iter) (hA : ∀ f p args pos, iter = .Call (.Name f p) args [] pos → ∀ e ∈ args, Snd g cf io n e) (hF : ∀ e ∈ ifs, Snd g cf io n e) (hE : Snd g cf io n elt)
    (hb : blkC s.N s.sc scope (ownN s.N scope.names) = true) (ht : cTg (s.blk scope) tg = some t) (hall : (tgSlots t).all (fun i => (ownN s.N scope.names).any fun p => p.2 = i) = true) :
    PS X (.Assign [.Name y p] (.ListComp elt [⟨tg, iter, ifs, 0⟩] scope lp) pos) (WS X.K cf io (.set i (.comp ((ownN s.N scope.names).map (·.2)) t (cI g s (isTup tg) (cE g s iter) iter) (cIf g (s.blk scope) ifs) (cE g (s.blk scope) elt)))) := by
  obtain ⟨b, hs, hk⟩ := lc_swaps (elt := elt) (gs := [⟨tg, iter, ifs, 0⟩]) (scope := scope) (p := p) (lp := lp) (y := y) (l := pos.line) (env := X.env)
  cases b with
  | false => exact wst_set h hl (snd_comp h hI hA hF hE hb ht hall) hs
  | true =>
    by_cases hset : isSet iter = true
    · obtain ⟨es, k, p, rfl⟩ := set_form hset
      rw [ci_set]
      exact set_dead fun env => by simp only [evE, evI, Option.bind_none]
    · have hset : isSet iter = false := by simpa using hset
      have ok := blkOk_by hb
      rw [← h.N, ← h.sc] at ok
      have hN : X.N.Nodup := by rw [h.N]; exact h.nd
      refine set_w (PS.wk (ps_setLc (te := WE X.K cf io (cE g (s.blk scope) elt)) (tt := WC X.K cf io (cIf g (s.blk scope) ifs)) (g := WG X.K t) h.calm hN (h.loc hl).1 (hk rfl) hs (se_it h hI hA) (by rw [h.N] at ok ⊢; exact ok) (fun s' H C cl fp => wg_tg (h.blk s' H scope cl C fp) t tg ht) (fun s' H C cl fp => wc_ifs (h.blk s' H scope cl C fp) hF) (fun s' H C cl fp => (hE _ _ (h.blk s' H scope cl C fp)).1) (noFold hset X.env)) fun D σ H q => ?_)
      exact comp_w (in_own hall) q
theorem wst_lc2 {elt tg iter tg1 iter1 : Expr} {ifs ifs1 : List Expr} {scope : Scope} {lp p : Pos} {t t1 : Tg} {y : Str} {i : Nat} (h : XOk g cf io n s X) (hl : locOf s y = some i) (hI : Snd g cf io n iter) (hA : ∀ f p args pos, iter = .Call (.Name f p) args [] pos → ∀ e ∈ args, Snd g cf io n e) (hF : ∀ e ∈ ifs, Snd g cf io n e)
    (hI1 : Snd g cf io n iter1) (hA1 : ∀ f p args pos, iter1 = .Call (.Name f p) args [] pos → ∀ e ∈ args, Snd g cf io n e) (hF1 : ∀ e ∈ ifs1, Snd g cf io n e) (hE : Snd g cf io n elt) (hs1 : isSet iter1 = false)
    (hb : blkC s.N s.sc scope (ownN s.N scope.names) = true) (ht : cTg (s.blk scope) tg = some t) (ht1 : cTg (s.blk scope) tg1 = some t1) (hall : (tgSlots t ++ tgSlots t1).all (fun i => (ownN s.N scope.names).any fun p => p.2 = i) = true) :
    PS X (.Assign [.Name y p] (.ListComp elt [⟨tg, iter, ifs, 0⟩, ⟨tg1, iter1, ifs1, 0⟩] scope lp) pos) (WS X.K cf io (.set i (.comp2 ((ownN s.N scope.names).map (·.2)) (tgSlots t1) t (cI g s (isTup tg) (cE g s iter) iter) (cIf g (s.blk scope) ifs)
      t1 (cI g (s.blk scope) (isTup tg1) (cE g (s.blk scope) iter1) iter1) (cIf g (s.blk scope) ifs1) (cE g (s.blk scope) elt)))) := by
  obtain ⟨b, hs, hk⟩ := lc_swaps (elt := elt) (gs := [⟨tg, iter, ifs, 0⟩, ⟨tg1, iter1, ifs1, 0⟩]) (scope := scope) (p := p) (lp := lp) (y := y) (l := pos.line) (env := X.env)
  cases b with
  | false => exact wst_set h hl (snd_comp2 h hI hA hF hI1 hA1 hF1 hE hs1 hb ht ht1 hall) hs
  | true =>
    rw [List.all_append, Bool.and_eq_true] at hall
    by_cases hset : isSet iter = true
    · obtain ⟨es, k, p, rfl⟩ := set_form hset
      rw [ci_set]
      exact set_dead fun env => by simp only [evE, evI, Option.bind_none]
    · have hset : isSet iter = false := by simpa using hset
      have ok := blkOk_by hb
      rw [← h.N, ← h.sc] at ok
      have hN : X.N.Nodup := by rw [h.N]; exact h.nd
      have ht2 := in_own hall.2
      refine set_w (PS.wk (ps_setLc2 (te := WE X.K cf io (cE g (s.blk scope) elt)) (tt := WC X.K cf io (cIf g (s.blk scope) ifs)) (g := WG X.K t) (wi1 := WI X.K cf io (cI g (s.blk scope) (isTup tg1) (cE g (s.blk scope) iter1) iter1)) (tt1 := WC X.K cf io (cIf g (s.blk scope) ifs1)) (g1 := WG X.K t1) h.calm hN (h.loc hl).1 (hk rfl) hs (se_it h hI hA) (by rw [h.N] at ok ⊢; exact ok) ht2 (fun s' H C cl fp => wg_tg (h.blk s' H scope cl C fp) t tg ht) (fun s' H C cl fp => wc_ifs (h.blk s' H scope cl C fp) hF)
        (fun s' H C cl fp => se_it (h.blk s' H scope cl C fp) hI1 hA1) (fun s' H C cl fp => wg_tg (h.blk s' H scope cl C fp) t1 tg1 ht1) (fun s' H C cl fp => wc_ifs (h.blk s' H scope cl C fp) hF1) (fun s' H C cl fp => (hE _ _ (h.blk s' H scope cl C fp)).1) (noFold hset X.env) (noFold hs1)) fun D σ H q => ?_)
      exact comp2_w (in_own hall.1) (fun _ z => z) ht2 q

/-! ### the induction -/
theorem swapB_ok {ts vs : List Expr} {i j : Nat} (h : swapB s ts vs = some (i, j)) : ∃ x px y py a b, ts = [.Name x px, .Name y py] ∧ vs = [a, b] ∧ px.line = py.line ∧ x ≠ y ∧ s.sc.names.lookup x = some .local ∧ s.sc.names.lookup y = some .local ∧
    (foldedForSure 8 a && foldedForSure 8 b) = false ∧ (constantsAlone 8 a && constantsAlone 8 b) = false ∧ isStar a = false ∧ isStar b = false ∧ ixStr s.N x = some i ∧ ixStr s.N y = some j := by
  unfold swapB at h
  split at h
  · rename_i x px y py a b
    split at h
    · rename_i hc
      obtain ⟨c1, c2, c3, c4, c5, c6⟩ := hc
      split at h
      · cases h
      · cases h
      · rename_i na nb
        split at h
        · rename_i i' j' h1 h2
          cases h
          refine ⟨x, px, y, py, a, b, rfl, rfl, c1, c2, c3, c4, c5, c6, ?_, ?_, h1, h2⟩
          · cases a <;> first | rfl | exact (na _ _ rfl).elim
          · cases b <;> first | rfl | exact (nb _ _ rfl).elim
        · cases h
    · cases h
  · cases h
theorem swap3_ok {ts vs : List Expr} {i j k : Nat} (h : swap3 s ts vs = some (i, j, k)) : ∃ x px y py z pz a b c, ts = [.Name x px, .Name y py, .Name z pz] ∧ vs = [a, b, c] ∧ px.line = py.line ∧ px.line = pz.line ∧ x ≠ y ∧ x ≠ z ∧ y ≠ z ∧
    s.sc.names.lookup x = some .local ∧ s.sc.names.lookup y = some .local ∧ s.sc.names.lookup z = some .local ∧
    (foldedForSure 8 a && (foldedForSure 8 b && foldedForSure 8 c)) = false ∧ (constantsAlone 8 a && (constantsAlone 8 b && constantsAlone 8 c)) = false ∧ [a, b, c].any isStar = false ∧ ixStr s.N x = some i ∧ ixStr s.N y = some j ∧ ixStr s.N z = some k := by
  unfold swap3 at h
  split at h
  · rename_i x px y py z pz a b c
    split at h
    · rename_i hc
      obtain ⟨c1, c2, c3, c4, c5, c6, c7, c8, c9, c10, c11⟩ := hc
      split at h
      · rename_i i' j' k' h1 h2 h3
        cases h
        exact ⟨x, px, y, py, z, pz, a, b, c, rfl, rfl, c1, c2, c3, c4, c5, c6, c7, c8, c9, c10, c11, h1, h2, h3⟩
      · cases h
    · cases h
  · cases h
def SndS (g : GC) (cf : CallF) (io : Nat → List Bool) (n : Nat) (st : Stmt) : Prop := ∀ (s : SC) (X : Cx), XOk g cf io n s X → X.env.blockKind = .function → PassesOwn (model X.prog X.w) X.A X.env X.xe → PS X st (WS X.K cf io (cS g s st))
theorem wst_all (h : XOk g cf io n s X) (hk : X.env.blockKind = .function) (hp : PassesOwn (model X.prog X.w) X.A X.env X.xe) : ∀ {sts : List Stmt}, (∀ st ∈ sts, SndS g cf io n st) → PSs X sts (WS X.K cf io (cSs g s sts))
  | [], _ => by
    rw [cSs]
    exact PSs.wk pss_nil fun D σ H ⟨env, G, rl, o, h, k⟩ => by
      simp only [evS, Option.some.injEq] at h
      subst h
      exact k σ G H rl .refl
  | [a], hA => by
    rw [cSs]
    exact pss_one (hA a (List.mem_cons_self ..) s X h hk hp)
  | a :: b :: r, hA => by
    rw [cSs]
    exact wst_seq (hA a (List.mem_cons_self ..) s X h hk hp) (wst_all h hk hp fun st hm => hA st (List.mem_cons_of_mem _ hm))
theorem snds_bad {st : Stmt} (hb : ∀ s, cS g s st = .bad) : SndS g cf io n st := fun s X h hk hp => by
  rw [hb]
  exact wst_bad
theorem stores_tup {ts : List Expr} {k : Nat} {p : Pos} {e : Expr} {env : PySem.Env} (h : ∀ vs k p, e ≠ .Tuple vs k p) : swappedStores [.Tuple ts k p] e env = pure none := by
  cases e <;> first | rfl | exact (h _ _ _ rfl).elim
theorem tup2 {a b : Expr} (ha : isStar a = false) (hb : isStar b = false) : [a, b].any isStar = false := by simp [ha, hb]
theorem snds_all (hE : ∀ e, Snd g cf io n e) : ∀ (N : Nat) (st : Stmt), sizeOf st ≤ N → SndS g cf io n st := by
  intro N
  induction N with
  | zero => intro st he; cases st <;> simp at he
  | succ N ih =>
    intro st he
    have mem : ∀ {es : List Stmt}, sizeOf es ≤ N → ∀ e ∈ es, SndS g cf io n e := fun hN e hm => ih e (by have := List.sizeOf_lt_of_mem hm; omega)
    cases st with
    | Pass pos => exact fun s X h hk hp => by rw [cS]; exact wst_pass
    | Break pos => exact fun s X h hk hp => by rw [cS]; exact wst_brk
    | Continue pos => exact fun s X h hk hp => by rw [cS]; exact wst_cnt
    | Return v pos =>
      cases v with
      | none => exact fun s X h hk hp => by rw [cS]; exact wst_retN
      | some e => exact fun s X h hk hp => by rw [cS]; exact wst_ret (hE e s X h).1
    | If c a b pos =>
      simp at he
      exact fun s X h hk hp => by rw [cS]; exact wst_if (hE c s X h).2 (wst_all h hk hp (mem (by omega))) (wst_all h hk hp (mem (by omega)))
    | While c body orelse pos =>
      simp at he
      cases orelse with
      | nil => exact fun s X h hk hp => by rw [cS]; exact wst_while hp (hE c s X h).2 (wst_all h hk hp (mem (by omega)))
      | cons _ _ => exact snds_bad fun s => by rw [cS] <;> simp
    | For tg iter body orelse pos =>
      simp at he
      cases orelse with
      | nil =>
        intro s X h hk hp
        rw [cS]
        split
        · rename_i t ht
          by_cases hs : isSet iter = true
          · obtain ⟨es, k, p, rfl⟩ := set_form hs
            rw [ci_set]
            exact PS.never fun D σ H ⟨env, G, rl, o, h, k⟩ => by simp only [evS, evI, evE, Option.bind_none, reduceCtorEq] at h
          · have hs : isSet iter = false := by simpa using hs
            exact wst_for h hp ht (se_it h (hE iter) fun _ _ _ _ _ e _ => hE e) (wst_all h hk hp (mem (by omega))) (noFold hs X.env)
        · exact wst_bad
      | cons _ _ => exact snds_bad fun s => by rw [cS] <;> simp
    | AugAssign tg op e pos =>
      cases tg with
      | Name x p =>
        intro s X h hk hp
        rw [cS]
        split
        · rename_i i o hl ho
          rw [opOf_cBop ho]
          exact wst_aug o h hl (hE e s X h).1
        · exact wst_bad
      | _ => exact snds_bad fun s => by rw [cS] <;> simp
    | Expr e pos =>
      intro s X h hk hp
      rw [cS.eq_def]
      dsimp only
      split
      · exact wst_bad
      · rename_i hc
        have hc : isComp e = false := by simpa using hc
        split
        · rename_i x px m ap a p
          split
          · rename_i hcond
            obtain ⟨hl, hs, hm⟩ := hcond
            split
            · rename_i i hi
              unfold cCall1
              rcases hm with rfl | rfl
              · rw [if_pos rfl]
                exact wst_app (h.pv hi) (hE _ s X h).1 (base_ok rfl) hl hs
              · rw [if_neg (by decide), if_pos rfl]
                exact wst_ext (h.pv hi) (hE _ s X h).1 (base_ok rfl) hl hs
            · exact wst_bad
          · exact wst_expr (hE _ s X h).1 hc
        · exact wst_doc
        · exact wst_expr (hE _ s X h).1 hc
    | Assign ts e pos =>
      match ts, he with
      | [], _ => exact snds_bad fun s => by rw [cS] <;> simp
      | _ :: _ :: _, _ => exact snds_bad fun s => by rw [cS] <;> simp
      | [tg], _ =>
        intro s X h hk hp
        rw [cS.eq_def]
        dsimp only
        cases tg with
        | Name x p =>
          dsimp only
          split
          · rename_i i hl
            split
            · rename_i hc
              split
              · rename_i hlc
                cases e with
                | ListComp elt gs scope lp =>
                  match gs with
                  | [] =>
                    have : cE g s (.ListComp elt [] scope lp) = .bad := by rw [cE] <;> simp
                    rw [this]
                    exact set_never
                  | [⟨tg1, iter, ifs, az⟩] =>
                    rw [cE]
                    split
                    · rename_i hcc
                      obtain ⟨rfl, hb⟩ := hcc
                      split
                      · rename_i t ht
                        split
                        · rename_i hall
                          exact wst_lc h hl (hE iter) (fun _ _ _ _ _ e _ => hE e) (fun e _ => hE e) (hE elt) hb ht hall
                        · exact set_never
                      · exact set_never
                    · exact set_never
                  | [⟨tg1, iter, ifs, az⟩, ⟨tg2, iter2, ifs2, az2⟩] =>
                    rw [cE]
                    split
                    · rename_i hcc
                      obtain ⟨rfl, rfl, hs1, hb⟩ := hcc
                      split
                      · rename_i t t1 ht ht1
                        split
                        · rename_i hall
                          exact wst_lc2 h hl (hE iter) (fun _ _ _ _ _ e _ => hE e) (fun e _ => hE e) (hE iter2) (fun _ _ _ _ _ e _ => hE e) (fun e _ => hE e) (hE elt) hs1 hb ht ht1 hall
                        · exact set_never
                      · exact set_never
                    · exact set_never
                  | a :: b :: c :: r =>
                    have : cE g s (.ListComp elt (a :: b :: c :: r) scope lp) = .bad := by rw [cE] <;> simp
                    rw [this]
                    exact set_never
                | _ => cases hlc
              · exact wst_bad
            · rename_i hc
              exact wst_set h hl (hE e s X h).1 (swaps_none (by simpa using hc))
          · exact wst_bad
        | Tuple ts' kt pt =>
          dsimp only
          by_cases ht : ∃ vs k p, e = .Tuple vs k p
          · obtain ⟨vs, k2, pt2, rfl⟩ := ht
            simp only
            split
            · rename_i i j hsw
              obtain ⟨x, px, y, py, a, b, rfl, rfl, c1, c2, c3, c4, c5, c6, c7, c8, c9, c10⟩ := swapB_ok hsw
              dsimp only
              have kx : X.env.kindOf x = some .local := by show X.env.scope.names.lookup x = _; rw [h.sc]; exact c3
              have ky : X.env.kindOf y = some .local := by show X.env.scope.names.lookup y = _; rw [h.sc]; exact c4
              exact wst_par2 h c9 c10 c2 c3 c4 (hE a s X h).1 (hE b s X h).1 c7 c8 (swap2_eq hk c1 kx ky c2 (tup2 c7 c8) c5 c6)
            · split
              · rename_i i j k hsw
                obtain ⟨x, px, y, py, z, pz, a, b, c, rfl, rfl, c1, c2, c3, c4, c5, c6, c7, c8, c9, c10, c11, c12, c13, c14⟩ := swap3_ok hsw
                dsimp only
                have kx : X.env.kindOf x = some .local := by show X.env.scope.names.lookup x = _; rw [h.sc]; exact c6
                have ky : X.env.kindOf y = some .local := by show X.env.scope.names.lookup y = _; rw [h.sc]; exact c7
                have kz : X.env.kindOf z = some .local := by show X.env.scope.names.lookup z = _; rw [h.sc]; exact c8
                have c11' := c11
                simp only [List.any_cons, List.any_nil, Bool.or_false, Bool.or_eq_false_iff] at c11'
                exact wst_par3 h c12 c13 c14 c3 c4 c5 c6 c7 c8 (hE a s X h).1 (hE b s X h).1 (hE c s X h).1 c11'.1 c11'.2.1 c11'.2.2 (swap3_eq hk c1 c2 kx ky kz c3 c4 c5 c11 c9 c10)
              · exact wst_bad
          · split
            · exact (ht ⟨_, _, _, rfl⟩).elim
            · split
              · exact wst_bad
              · rename_i hc
                have hc : isComp e = false := by simpa using hc
                split
                · rename_i t ht'
                  exact wst_asg h ht' (hE e s X h).1 (sole_none hc) (stores_tup fun vs k p z => ht ⟨vs, k, p, z⟩) rfl
                · exact wst_bad
        | Subscript o kx p =>
          cases o with
          | Name x px =>
            dsimp only
            split
            · exact wst_bad
            · rename_i hc
              rw [not_or] at hc
              have h1 : isComp e = false := by simpa using hc.1
              have h2 : plainIx kx = true := by simpa using hc.2
              split
              · rename_i i hi
                exact wst_put h hi (hE kx s X h).1 (hE e s X h).1 h1 h2
              · exact wst_bad
          | _ => exact wst_bad
        | _ => exact wst_bad
    | _ => exact snds_bad fun s => by rw [cS] <;> simp
end
end Ev


set_option Elab.async false
set_option linter.all false
set_option maxRecDepth 100000
set_option maxHeartbeats 2000000
/-! Soundness: functions. -/
namespace Ev
open PySem PySem.Spec PyProof.Rows L2

section
variable {K : PySem.W.Frag} {G H G' H' : Hp}
theorem ArgsRel.lens : ∀ {ms : List Bool} {vs : List V} {ds : List D}, ArgsRel K G H ms vs ds → vs.length = ms.length ∧ ds.length = ms.length
  | [], [], [], _ => ⟨rfl, rfl⟩
  | true :: ms, v :: vs, d :: ds, h => by
    obtain ⟨a, b⟩ := ArgsRel.lens (ms := ms) h.2
    exact ⟨by simp [a], by simp [b]⟩
  | false :: ms, v :: vs, d :: ds, h => by
    obtain ⟨a, b⟩ := ArgsRel.lens (ms := ms) h.2
    exact ⟨by simp [a], by simp [b]⟩
  | [], _ :: _, _, h => by simp [ArgsRel] at h
  | [], [], _ :: _, h => by simp [ArgsRel] at h
  | true :: _, [], _, h => by simp [ArgsRel] at h
  | false :: _, [], _, h => by simp [ArgsRel] at h
  | true :: _, _ :: _, [], h => by simp [ArgsRel] at h
  | false :: _, _ :: _, [], h => by simp [ArgsRel] at h
theorem ArgsRel.get : ∀ {ms : List Bool} {vs : List V} {ds : List D}, ArgsRel K G H ms vs ds → ∀ (i : Nat) (d : D) (m : Bool), ds[i]? = some d → ms[i]? = some m → ∃ v, vs[i]? = some v ∧ (m = false → Tr K G v d) ∧ (m = true → ∃ a, v = V.ref a ∧ G a = none ∧ Own K G H a d)
  | true :: ms, v :: vs, d0 :: ds, h, 0, d, m, e1, e2 => by
    cases e1
    cases e2
    obtain ⟨⟨a, ea, ga, o, _⟩, _⟩ := h
    exact ⟨v, rfl, (fun z => by cases z), fun _ => ⟨a, ea, ga, o⟩⟩
  | false :: ms, v :: vs, d0 :: ds, h, 0, d, m, e1, e2 => by
    cases e1
    cases e2
    exact ⟨v, rfl, (fun _ => h.1), (fun z => by cases z)⟩
  | true :: ms, v :: vs, d0 :: ds, h, i + 1, d, m, e1, e2 => by
    obtain ⟨w, a, b⟩ := ArgsRel.get (ms := ms) h.2 i d m (by simpa using e1) (by simpa using e2)
    exact ⟨w, by simpa using a, b⟩
  | false :: ms, v :: vs, d0 :: ds, h, i + 1, d, m, e1, e2 => by
    obtain ⟨w, a, b⟩ := ArgsRel.get (ms := ms) h.2 i d m (by simpa using e1) (by simpa using e2)
    exact ⟨w, by simpa using a, b⟩
  | [], _, _, _, _, _, _, _, e2 => by simp at e2
  | true :: _, [], _, h, _, _, _, _, _ => by simp [ArgsRel] at h
  | false :: _, [], _, h, _, _, _, _, _ => by simp [ArgsRel] at h
  | true :: _, _ :: _, [], h, _, _, _, _, _ => by simp [ArgsRel] at h
  | false :: _, _ :: _, [], h, _, _, _, _, _ => by simp [ArgsRel] at h
theorem ioA_mem : ∀ {ms : List Bool} {vs : List V} {i : Nat} {a : Addr}, ms[i]? = some true → vs[i]? = some (V.ref a) → a ∈ IoA ms vs
  | [], _, _, _, h, _ => by simp at h
  | true :: ms, [], _, _, _, h => by simp at h
  | false :: ms, [], _, _, _, h => by simp at h
  | true :: ms, v :: vs, 0, a, _, h => by
    simp at h
    subst h
    rw [IoA]
    exact List.mem_cons_self
  | false :: ms, v :: vs, 0, a, h, _ => by simp at h
  | true :: ms, v :: vs, i + 1, a, h1, h2 => by
    have ih := ioA_mem (ms := ms) (vs := vs) (i := i) (a := a) (by simpa using h1) (by simpa using h2)
    cases v <;> first
      | (rw [IoA]; exact List.mem_cons_of_mem _ ih)
      | (rw [IoA]; · exact ih; · intro _ z; cases z)
      | (rw [IoA] <;> first | exact ih | (intros; simp_all))
  | false :: ms, v :: vs, i + 1, a, h1, h2 => by
    have ih := ioA_mem (ms := ms) (vs := vs) (i := i) (a := a) (by simpa using h1) (by simpa using h2)
    rw [IoA] <;> first | exact ih | (intros; simp_all)
theorem ArgsRel.inj : ∀ {ms : List Bool} {vs : List V} {ds : List D}, ArgsRel K G H ms vs ds → ∀ (i j : Nat) (a : Addr), ms[i]? = some true → ms[j]? = some true → vs[i]? = some (V.ref a) → vs[j]? = some (V.ref a) → i = j
  | true :: ms, v :: vs, d0 :: ds, h, 0, 0, a, _, _, _, _ => rfl
  | true :: ms, v :: vs, d0 :: ds, h, 0, j + 1, a, _, e2, e3, e4 => by
    obtain ⟨⟨b, eb, _, _, nb⟩, _⟩ := h
    simp at e3
    rw [e3] at eb
    cases eb
    exact (nb (ioA_mem (by simpa using e2) (by simpa using e4))).elim
  | true :: ms, v :: vs, d0 :: ds, h, i + 1, 0, a, e1, _, e3, e4 => by
    obtain ⟨⟨b, eb, _, _, nb⟩, _⟩ := h
    simp at e4
    rw [e4] at eb
    cases eb
    exact (nb (ioA_mem (by simpa using e1) (by simpa using e3))).elim
  | true :: ms, v :: vs, d0 :: ds, h, i + 1, j + 1, a, e1, e2, e3, e4 => by
    rw [ArgsRel.inj (ms := ms) h.2 i j a (by simpa using e1) (by simpa using e2) (by simpa using e3) (by simpa using e4)]
  | false :: ms, v :: vs, d0 :: ds, h, i + 1, j + 1, a, e1, e2, e3, e4 => by
    rw [ArgsRel.inj (ms := ms) h.2 i j a (by simpa using e1) (by simpa using e2) (by simpa using e3) (by simpa using e4)]
  | false :: ms, v :: vs, d0 :: ds, h, 0, _, a, e1, _, _, _ => by simp at e1
  | false :: ms, v :: vs, d0 :: ds, h, _ + 1, 0, a, _, e2, _, _ => by simp at e2
  | [], _, _, _, _, _, _, e1, _, _, _ => by simp at e1
  | true :: _, [], _, h, _, _, _, _, _, _, _ => by simp [ArgsRel] at h
  | false :: _, [], _, h, _, _, _, _, _, _, _ => by simp [ArgsRel] at h
  | true :: _, _ :: _, [], h, _, _, _, _, _, _, _ => by simp [ArgsRel] at h
  | false :: _, _ :: _, [], h, _, _, _, _, _, _, _ => by simp [ArgsRel] at h
theorem startE_get {size : Nat} {ms : List Bool} {ds : List D} {i : Nat} {d : D} {f : Fl} (hl : ds.length = ms.length) (h : (startE size ms ds)[i]? = some (some (d, f))) : ∃ m, ds[i]? = some d ∧ ms[i]? = some m ∧ f = if m = true then Fl.io else Fl.sh := by
  unfold startE at h
  have hz : (List.zipWith (fun d m => some (d, if m = true then Fl.io else Fl.sh)) ds ms).length = ds.length := by
    rw [List.length_zipWith, hl, Nat.min_self]
  by_cases hi : i < ds.length
  · rw [List.getElem?_append_left (by rw [hz]; exact hi), List.getElem?_zipWith] at h
    have hm : i < ms.length := by omega
    rw [List.getElem?_eq_getElem hi, List.getElem?_eq_getElem hm] at h
    simp only [Option.some.injEq, Prod.mk.injEq] at h
    exact ⟨ms[i], by rw [List.getElem?_eq_getElem hi, h.1], List.getElem?_eq_getElem hm, h.2.symm⟩
  · rw [List.getElem?_append_right (by rw [hz]; omega), List.getElem?_replicate] at h
    split at h <;> simp at h
theorem startE_at {size : Nat} {ms : List Bool} {ds : List D} {i : Nat} {d : D} {m : Bool} (hd : ds[i]? = some d) (hm : ms[i]? = some m) : (startE size ms ds)[i]? = some (some (d, if m = true then Fl.io else Fl.sh)) := by
  unfold startE
  have h1 := (List.getElem?_eq_some_iff.mp hd).1
  have h2 := (List.getElem?_eq_some_iff.mp hm).1
  rw [List.getElem?_append_left (by rw [List.length_zipWith]; omega), List.getElem?_zipWith, hd, hm]
theorem start_at {N : List Str} {vs : List V} {i : Nat} {v : V} (h : vs[i]? = some v) : (start N vs)[i]? = some (some v) := by
  unfold L2.start
  have h1 := (List.getElem?_eq_some_iff.mp h).1
  rw [List.getElem?_append_left (by simpa using h1), List.getElem?_map, h]
  rfl
theorem start_rel {N : List Str} {ms : List Bool} {vs : List V} {ds : List D} (gh : Same G H) (ar : ArgsRel K G H ms vs ds) : Rel K G H (startE N.length ms ds) (start N vs) := by
  obtain ⟨l1, l2⟩ := ar.lens
  refine ⟨?_, gh, fun i d h => ?_, fun i d f h hf => ?_, fun i j d d' f f' a h1 hf1 h2 hf2 e1 e2 => ?_⟩
  · unfold startE L2.start
    rw [List.length_append, List.length_append, List.length_zipWith, List.length_replicate, List.length_replicate, List.length_map, l1, l2, Nat.min_self]
  · obtain ⟨m, hd, hm, hf⟩ := startE_get l2 h
    obtain ⟨v, hv, t, _⟩ := ar.get i d m hd hm
    cases m with
    | true => cases hf
    | false => exact ⟨v, start_at hv, t rfl⟩
  · obtain ⟨m, hd, hm, hf'⟩ := startE_get l2 h
    obtain ⟨v, hv, _, t⟩ := ar.get i d m hd hm
    cases m with
    | false => exact (hf hf').elim
    | true =>
      obtain ⟨a, ea, ga, o⟩ := t rfl
      exact ⟨a, by rw [start_at hv, ea], ga, o⟩
  · obtain ⟨m, hd, hm, hf'⟩ := startE_get l2 h1
    obtain ⟨m', hd', hm', hf''⟩ := startE_get l2 h2
    obtain ⟨v, hv, _, _⟩ := ar.get i d m hd hm
    obtain ⟨v', hv', _, _⟩ := ar.get j d' m' hd' hm'
    cases m with
    | false => exact (hf1 hf').elim
    | true =>
      cases m' with
      | false => exact (hf2 hf'').elim
      | true =>
        rw [start_at hv] at e1
        rw [start_at hv'] at e2
        cases e1
        cases e2
        exact ar.inj i j a hm hm' hv hv'
theorem outs_ok : ∀ {ms : List Bool} {vs : List V} {env : Env} {outs : List D}, (∀ (i : Nat) (d : D), ms[i]? = some true → env[i]? = some (some (d, Fl.io)) → ∃ a, vs[i]? = some (V.ref a) ∧ G' a = none ∧ Own K G' H' a d) → vs.length = ms.length → outsOf ms env = some outs →
    Paired (fun a o => G' a = none ∧ Own K G' H' a o) (IoA ms vs) outs
  | [], [], env, outs, _, _, h => by
    rw [outsOf] at h
    cases h
    exact .nil
  | [], _ :: _, _, _, _, hl, _ => by cases hl
  | _ :: _, [], _, _, _, hl, _ => by cases hl
  | false :: ms, v :: vs, e :: env, outs, hA, hl, h => by
    rw [outsOf] at h
    have ih := outs_ok (ms := ms) (vs := vs) (env := env) (outs := outs) (fun i d h1 h2 => by
      obtain ⟨a, b⟩ := hA (i + 1) d (by simpa using h1) (by simpa using h2)
      exact ⟨a, by simpa using b.1, b.2⟩) (by simpa using hl) h
    rw [IoA] <;> first | exact ih | (intros; simp_all)
  | true :: ms, v :: vs, some (d, Fl.io) :: env, outs, hA, hl, h => by
    rw [outsOf, Option.map_eq_some_iff] at h
    obtain ⟨os, h1, h2⟩ := h
    subst h2
    have ih := outs_ok (ms := ms) (vs := vs) (env := env) (outs := os) (fun i d h1 h2 => by
      obtain ⟨a, b⟩ := hA (i + 1) d (by simpa using h1) (by simpa using h2)
      exact ⟨a, by simpa using b.1, b.2⟩) (by simpa using hl) h1
    obtain ⟨a, e1, ga, o⟩ := hA 0 d rfl rfl
    have e1 : v = V.ref a := by simpa using e1
    subst e1
    rw [IoA]
    exact .cons ⟨ga, o⟩ ih
  | true :: ms, v :: vs, none :: env, outs, hA, hl, h => by simp [outsOf] at h
  | true :: ms, v :: vs, some (d, Fl.sh) :: env, outs, hA, hl, h => by simp [outsOf] at h
  | true :: ms, v :: vs, some (d, Fl.ow) :: env, outs, hA, hl, h => by simp [outsOf] at h
  | true :: ms, v :: vs, [], outs, hA, hl, h => by simp [outsOf] at h
  | false :: ms, v :: vs, [], outs, hA, hl, h => by simp [outsOf] at h
theorem end_ok {N : List Str} {ms : List Bool} {vs : List V} {ds : List D} {σ' : L2.St} {env' : Env} {r : R} {v : V} {d : D} {fl : Fl} {outs : List D} (gh : Same G H) (ar : ArgsRel K G H ms vs ds) (rl : Rel K G' H' env' σ') (st : Stp (start N vs) G H (startE N.length ms ds) σ' G' H' env')
    (q : RRel K G' H' env' σ' r v) (fr : Fresh H r v) (h : endR ms r env' = some (d, fl, outs)) : Post K (IoA ms vs) G H G' H' v d fl outs := by
  obtain ⟨l1, l2⟩ := ar.lens
  have r0 := start_rel (N := N) gh ar
  have own0 : ∀ a, Owned (startE N.length ms ds) (start N vs) a → a ∈ IoA ms vs := fun a ⟨i, d0, f0, h1, h2, h3⟩ => by
    obtain ⟨m, hd, hm, hf⟩ := startE_get l2 h1
    cases m with
    | false => exact (h2 hf).elim
    | true =>
      obtain ⟨w, hv, _, _⟩ := ar.get i d0 true hd hm
      rw [start_at hv] at h3
      cases h3
      exact ioA_mem hm hv
  have hout : ∀ {os : List D}, outsOf ms env' = some os → Paired (fun a o => G' a = none ∧ Own K G' H' a o) (IoA ms vs) os := fun {os} ho => outs_ok (fun i d0 hm he => by
    have hi : i < ds.length := by rw [l2]; exact (List.getElem?_eq_some_iff.mp hm).1
    obtain ⟨w, hv, _, t⟩ := ar.get i _ true (List.getElem?_eq_getElem hi) hm
    obtain ⟨a, ea, _, _⟩ := t rfl
    obtain ⟨_, e2⟩ := st.io i _ (startE_at (List.getElem?_eq_getElem hi) hm)
    obtain ⟨b, eb, gb, ob⟩ := rl.ow i d0 .io he (by decide)
    rw [e2, start_at hv, ea] at eb
    cases eb
    exact ⟨a, by rw [hv, ea], gb, ob⟩) l1 ho
  have far : ∀ a, H a ≠ none → G a = none → a ∉ IoA ms vs → H' a = H a ∧ G' a = none := fun a ha ga na => by
    obtain ⟨e1, e2, _⟩ := st.far a ha ga fun z => na (own0 a z)
    exact ⟨e1, e2⟩
  cases r with
  | v d0 f0 =>
    simp only [endR, Option.map_eq_some_iff, Prod.mk.injEq] at h
    obtain ⟨os, h1, h2, h3, h4⟩ := h
    subst h2 h3 h4
    refine ⟨st.g, rl.gh, st.trk, far, ?_, hout h1⟩
    cases f0 with
    | sh => exact q
    | io => exact q.elim
    | ow =>
      obtain ⟨a, ea, ga, o, _⟩ := q
      exact ⟨a, ea, fr rfl a ea, ga, o⟩
  | s i =>
    simp only [endR] at h
    split at h
    · rename_i d0 hs
      simp only [Option.map_eq_some_iff, Prod.mk.injEq] at h
      obtain ⟨os, h1, h2, h3, h4⟩ := h
      subst h2 h3 h4
      refine ⟨st.g, rl.gh, st.trk, far, ?_, hout h1⟩
      obtain ⟨a, ea, ga, o⟩ := rl.ow i d0 .ow hs (by decide)
      have hv : v = V.ref a := by
        have := q.1
        rw [ea] at this
        cases this
        rfl
      refine ⟨a, hv, ?_, ga, o⟩
      cases z : H a with
      | none => rfl
      | some ob =>
        exfalso
        have g0 : G a = none := by
          cases y : G a with
          | none => rfl
          | some u =>
            rw [st.g _ _ y] at ga
            cases ga
        by_cases ow : Owned (startE N.length ms ds) (start N vs) a
        · obtain ⟨j, d1, f1, j1, j2, j3⟩ := ow
          obtain ⟨m, hd, hm, hf⟩ := startE_get l2 j1
          cases m with
          | false => exact j2 hf
          | true =>
            obtain ⟨⟨d2, k1⟩, k2⟩ := st.io j d1 (by rw [j1, hf]; rfl)
            rw [j3] at k2
            have := rl.ap i j d0 d2 .ow .io a hs (by decide) k1 (by decide) ea k2
            subst this
            rw [hs] at k1
            cases k1
        · exact (st.far a (by rw [z]; simp) g0 ow).2.2 ⟨i, d0, .ow, hs, by decide, ea⟩
    · cases h
end
/-- a function of the text, by the evaluator -/
theorem fn_step {P : Program} {w : World} {K : PySem.W.Frag} {mg : Str → Option Value} {base : Heap} {g : GC} {tbl : List Fn} {n k : Nat} {x qual : Str} {st : Stmt} {f : Addr} {fd : FuncData} {N ps : List Str} {fn : Fn} (hf : ∀ t, g.fns.lookup (tyStr t) = none) (F : Fun K x qual st f fd) (S : FnScope N ps (defScope st))
    (hk : tbl[k]? = some fn) (hio : fn.io.length = ps.length) (hsz : fn.size = N.length) (hbd : fn.body = cSs g ⟨N, defScope st, fun _ => true⟩ (defBody st)) (hg : GOk P w K mg base g (evCall tbl n) (ioOf tbl) n) :
    FnOk P w K mg base CX0 (n + 1) f fd ps (SpF K (ioOf tbl) (evCall tbl (n + 1)) k) := by
  have hi : ioOf tbl k = fn.io := by unfold ioOf; rw [hk]
  refine F.ok S (fun vs H Q E h => ?_) (fun cdv A outer s H vs Q E hr h => ?_)
  · obtain ⟨G, ds, gh, ar, _⟩ := h
    rw [hi] at ar
    rw [ar.lens.1, hio]
  · obtain ⟨G, ds, gh, ar, d, fl, outs, hev, hq⟩ := h
    rw [hi] at ar hq
    have hev : runFn (evCall tbl n) (ioOf tbl) fn ds = some (d, fl, outs) := by
      have : evCall tbl (n + 1) k ds = runFn (evCall tbl n) (ioOf tbl) fn ds := by
        show (match tbl[k]? with | some fn => runFn (evCall tbl n) (ioOf tbl) fn ds | none => none) = _
        rw [hk]
      rw [← this]
      exact hev
    have hx : XOk g (evCall tbl n) (ioOf tbl) n ⟨N, defScope st, fun _ => true⟩ (cxOf CX0 P w K mg base N qual (defScope st) f cdv A outer s H E).nox := ⟨rfl, rfl, rfl, S.nd, rfl, hr, hg⟩
    have hkind : (cxOf CX0 P w K mg base N qual (defScope st) f cdv A outer s H E).nox.env.blockKind = .function := by
      show (if (defScope st).kind.isAnnotationScope then ScopeKind.function else (defScope st).kind) = _
      rw [S.kind]
      rfl
    refine ⟨_, wst_all hx hkind PassesOwn.never (sts := defBody st) fun s _ => snds_all (fun e => snd_all hf _ e (Nat.le_refl _)) _ s (Nat.le_refl _), ?_⟩
    rw [← hbd]
    unfold runFn at hev
    split at hev
    · split at hev
      · rename_i env' ho
        rw [hsz] at ho
        refine ⟨startE N.length fn.io ds, G, start_rel gh ar, _, ho, fun σ' G' H' rl' s' => ?_⟩
        exact hq .non G' H' (end_ok (r := .v .none .sh) gh ar rl' s' (.non : Tr K G' .non .none) (fun z => by cases z) hev)
      · rename_i r env' ho
        rw [hsz] at ho
        refine ⟨startE N.length fn.io ds, G, start_rel gh ar, _, ho, fun v σ' G' H' rl' s' q fr => ?_⟩
        exact hq v G' H' (end_ok gh ar rl' s' q fr hev)
      · cases hev
    · cases hev
end Ev


set_option Elab.async false
set_option linter.all false
set_option maxRecDepth 100000
set_option maxHeartbeats 2000000
/-! Soundness: the table of all functions; the law. -/
namespace Ev
open PySem PySem.Spec PyProof.Rows L2

section
variable {P : Program} {w : World} {K : PySem.W.Frag} {mg : Str → Option Value} {base : Heap} {g : GC} {tbl : List Fn}
/-- what the top has written of a function -/
structure FnAt (K : PySem.W.Frag) (mg : Str → Option Value) (g : GC) (tbl : List Fn) (x : Str) (k : Nat) (st : Stmt) (N ps : List Str) : Prop where
  ex : ∃ (f : Addr) (fd : FuncData), Fun K x x st f fd ∧ mg x = some (.ref f) ∧ Binds K fd ps [] ∧ ∀ m ns perm, (x, m, ns, perm) ∈ g.kws → KBn K fd ps m ns (fun us ws => permL perm (us ++ ws)) (fun us ws => permL perm (us ++ ws))
  sc : FnScope N ps (defScope st)
  at_ : ∃ fn, tbl[k]? = some fn ∧ fn.io.length = ps.length ∧ fn.size = N.length ∧ fn.body = cSs g ⟨N, defScope st, fun _ => true⟩ (defBody st)
theorem fn_zero {k : Nat} {f : Addr} {fd : FuncData} {ps : List Str} : FnOk P w K mg base CX0 0 f fd ps (SpF K (ioOf tbl) (evCall tbl 0) k) :=
  ⟨(fun vs H Q E ⟨_, _, _, _, _, _, _, h, _⟩ => by cases h), (fun _ _ _ _ _ _ _ _ _ _ _ _ _ ⟨_, _, _, _, _, _, _, h, _⟩ => by cases h)⟩
theorem fn_any {x : Str} {k n : Nat} {st : Stmt} {N ps : List Str} {f : Addr} {fd : FuncData} (hf : ∀ t, g.fns.lookup (tyStr t) = none) (F : Fun K x x st f fd) (sc : FnScope N ps (defScope st))
    (at_ : ∃ fn, tbl[k]? = some fn ∧ fn.io.length = ps.length ∧ fn.size = N.length ∧ fn.body = cSs g ⟨N, defScope st, fun _ => true⟩ (defBody st)) (ih : ∀ m, n = m + 1 → GOk P w K mg base g (evCall tbl m) (ioOf tbl) m) :
    FnOk P w K mg base CX0 n f fd ps (SpF K (ioOf tbl) (evCall tbl n) k) := by
  obtain ⟨fn, h1, h2, h3, h4⟩ := at_
  cases n with
  | zero => exact fn_zero
  | succ m => exact fn_step hf F sc h1 h2 h3 h4 (ih m rfl)
theorem gok_all (hf : ∀ t, g.fns.lookup (tyStr t) = none) (hc : ∀ x d, g.cons.lookup x = some d → ∃ u v, mg x = some u ∧ RelV v u ∧ ∀ G, Tr K G v d) (hb : ∀ x ∈ BLT, g.fns.lookup x = none → mg x = none)
    (hF : ∀ x k, g.fns.lookup x = some k → ∃ st N ps, FnAt K mg g tbl x k st N ps) : ∀ n, GOk P w K mg base g (evCall tbl n) (ioOf tbl) n := by
  intro n
  induction n with
  | zero =>
    refine ⟨hc, hb, fun x k hk => ?_⟩
    obtain ⟨st, N, ps, ⟨f, fd, F, hm, hbi, hkw⟩, sc, at_⟩ := hF x k hk
    exact ⟨f, fd, ps, hm, F.kp, hbi, fn_zero, hkw⟩
  | succ n ih =>
    refine ⟨hc, hb, fun x k hk => ?_⟩
    obtain ⟨st, N, ps, ⟨f, fd, F, hm, hbi, hkw⟩, sc, at_⟩ := hF x k hk
    exact ⟨f, fd, ps, hm, F.kp, hbi, fn_any hf F sc at_ fun m e => by cases e; exact ih, hkw⟩
/-- an association list's facts, one by one -/
theorem look_all {α : Type} {R : Str → α → Prop} : ∀ {l : List (Str × α)}, (∀ p ∈ l, R p.1 p.2) → ∀ x a, l.lookup x = some a → R x a
  | [], _, _, _, h => by cases h
  | (y, b) :: r, hR, x, a, h => by
    rw [List.lookup_cons] at h
    split at h
    · rename_i e
      cases h
      have e : x = y := by simpa using e
      subst e
      exact hR (x, b) (List.mem_cons_self ..)
    · exact look_all (fun p hp => hR p (List.mem_cons_of_mem _ hp)) x a h
/-- the law's promise -/
def spLaw (K : PySem.W.Frag) (n : Nat) : Sp := fun vs H Q _ => ∃ (a : Addr) (ns : List Int), vs = [.ref a] ∧ ns.length ≤ n ∧ SqL K H a (ns.map V.int) ∧ ∀ H', Q (.bl true) H'
theorem TrAll.ofInts {G : Hp} : ∀ ns : List Int, TrAll K G (ns.map V.int) (ns.map PyData.int)
  | [] => .nil
  | i :: r => .cons (.int i) (TrAll.ofInts r)
theorem law_ok {n k m : Nat} {f : Addr} {fd : FuncData} {ps : List Str} (F : FnOk P w K mg base CX0 n f fd ps (SpF K (ioOf tbl) (evCall tbl n) k)) (hio : ioOf tbl k = [false])
    (hrun : ∀ ns : List Int, ns.length ≤ m → ∃ fl outs, evCall tbl n k [.list (ns.map PyData.int)] = some (.bool true, fl, outs)) : FnOk P w K mg base CX0 n f fd ps (spLaw K m) :=
  F.imp fun vs H Q E ⟨a, ns, ev, hl, hs, q⟩ => by
    obtain ⟨fl, outs, hr⟩ := hrun ns hl
    subst ev
    refine ⟨H, [.list (ns.map PyData.int)], Same.refl _, ?_, .bool true, fl, outs, hr, fun v G' H' p => ?_⟩
    · rw [hio]
      exact ⟨.lst hs (TrAll.ofInts ns), trivial⟩
    · have e : v = .bl true := by
        have := p.res
        cases fl with
        | sh => cases this; rfl
        | ow =>
          obtain ⟨_, _, _, _, o⟩ := this
          exact o.elim
        | io => exact this.elim
      rw [e]
      exact q H'
end
end Ev


set_option Elab.async false
set_option linter.all false
set_option maxRecDepth 100000
set_option maxHeartbeats 2000000
/-! A law's table from its text. -/
namespace Ev
open PySem PySem.Spec PyProof.Rows L2

/-- a function of the text: its name, its statement, all its names (the parameters first), the parameters, which of them it changes for its caller -/
structure FE where
  name : Str
  st : Stmt
  N : List Str
  ps : List Str
  io : List Bool
def fnsOf : List FE → Nat → List (Str × Nat)
  | [], _ => []
  | e :: r, k => (e.name, k) :: fnsOf r (k + 1)
def bodyOf (g : GC) (e : FE) : S := cSs g ⟨e.N, defScope e.st, fun _ => true⟩ (defBody e.st)
/-- what does not hang on the heap -/
structure FnSt (g : GC) (e : FE) : Prop where
  sc : FnScope e.N e.ps (defScope e.st)
  io : e.io.length = e.ps.length
  bind : ∀ (kV doc pm : Value) (an : Option Addr) (cdv ct : Value) (us : List Value), us.length = e.ps.length → bindArgs (PySem.W.fnOf e.name e.name (defArgs e.st) (defBody e.st) (defScope e.st) .none kV doc pm an cdv ct) ⟨us, []⟩ = pure (e.ps.zip us)
  kw : ∀ m ns perm, (e.name, m, ns, perm) ∈ g.kws → ∀ (kV doc pm : Value) (an : Option Addr) (cdv ct : Value) (us ws : List Value), us.length = m → ws.length = ns.length →
    bindArgs (PySem.W.fnOf e.name e.name (defArgs e.st) (defBody e.st) (defScope e.st) .none kV doc pm an cdv ct) ⟨us, ns.zip ws⟩ = pure (e.ps.zip (permL perm (us ++ ws)))
/-- what the top has written of it -/
def Top (K : PySem.W.Frag) (x : Str) (st : Stmt) : Prop := ∃ (f : Addr) (oc : Value) (od : Option Addr) (kV doc pm : Value) (an : Option Addr) (cd ct : Value) (sl : Array (Option Value)),
  PySem.W.nsIn K mainGlobals x = some (some (.ref f)) ∧ K.lookup f = some ⟨oc, od, .func (PySem.W.fnOf x x (defArgs st) (defBody st) (defScope st) .none kV doc pm an cd ct), sl⟩ ∧ PySem.W.codeIn K cd x = true ∧ PySem.W.keepIn K (.ref f) = true
theorem kw_list {kws l : List (Str × Nat × List Str × List Nat)} {x : Str} {R : Nat → List Str → List Nat → Prop} (hl : kws.filter (fun e => decide (e.1 = x)) = l) (h : ∀ e ∈ l, R e.2.1 e.2.2.1 e.2.2.2) : ∀ m ns perm, (x, m, ns, perm) ∈ kws → R m ns perm := fun m ns perm hm =>
  h (x, m, ns, perm) (by rw [← hl]; exact List.mem_filter.mpr ⟨hm, by simp⟩)
theorem fnsOf_get {x : Str} {k : Nat} : ∀ {L : List FE} {j : Nat}, (fnsOf L j).lookup x = some k → ∃ e, L[k - j]? = some e ∧ e.name = x ∧ j ≤ k
  | [], _, h => by cases h
  | e :: r, j, h => by
    rw [fnsOf, List.lookup_cons] at h
    split at h
    · rename_i q
      cases h
      exact ⟨e, by simp, by simpa using (beq_iff_eq.mp q).symm, Nat.le_refl _⟩
    · obtain ⟨e', h1, h2, h3⟩ := fnsOf_get (L := r) (j := j + 1) h
      refine ⟨e', ?_, h2, by omega⟩
      have : k - j = (k - (j + 1)) + 1 := by omega
      rw [this, List.getElem?_cons_succ]
      exact h1
section
variable {P : Program} {w : World} {K : PySem.W.Frag} {mg : Str → Option Value} {h : Heap} {g : GC} {tbl : List Fn} {L : List FE}
theorem fun_of {x : Str} {st : Stmt} (X : K.In h) (G : h.Ns mainGlobals mg) (t : Top K x st) : ∃ f fd, mg x = some (.ref f) ∧ Fun K x x st f fd := by
  obtain ⟨f, oc, od, kV, doc, pm, an, cd, ct, sl, a, l, c, k⟩ := t
  exact ⟨f, _, PySem.W.mg_of X G a, fun_mk l c k⟩
theorem law_all {fa : Addr} {n kL m : Nat} {eL : FE} (hfns : g.fns = fnsOf L 0) (hf : ∀ t, g.fns.lookup (tyStr t) = none) (htbl : tbl = L.map fun e => ⟨e.N.length, e.io, bodyOf g e⟩) (hS : ∀ e ∈ L, FnSt g e)
    (hrun : ∀ ns : List Int, ns.length ≤ m → ∃ fl outs, evCall tbl n kL [.list (ns.map PyData.int)] = some (.bool true, fl, outs)) (hL : L[kL]? = some eL) (hname : eL.name = ("law" : Str)) (hps : eL.ps = [("_law_script" : Str)]) (hio : eL.io = [false])
    (X : K.In h) (G : h.Ns mainGlobals mg) (hfa : mg "law" = some (.ref fa))
    (hT : ∀ e ∈ L, Top K e.name e.st) (hc : ∀ x d, g.cons.lookup x = some d → ∃ u v, PySem.W.nsIn K mainGlobals x = some (some u) ∧ RelV v u ∧ ∀ G, Tr K G v d) (hb : ∀ x ∈ BLT, g.fns.lookup x = none → PySem.W.nsIn K mainGlobals x = some none) :
    ∃ fd : FuncData, (∀ (s : Shared) (v : Value), BindsTo s fd ⟨[v], []⟩ [("_law_script", v)]) ∧ ∀ base : Heap, K.In base → base.Ns mainGlobals mg → FnOk P w K mg base CX0 n fa fd ["_law_script"] (spLaw K m) := by
  have hget : ∀ {k : Nat} {e : FE}, L[k]? = some e → tbl[k]? = some ⟨e.N.length, e.io, bodyOf g e⟩ := fun {k e} he => by
    rw [htbl, List.getElem?_map, he]
    rfl
  have hF : ∀ x k, g.fns.lookup x = some k → ∃ st N ps, FnAt K mg g tbl x k st N ps := fun x k hk => by
    rw [hfns] at hk
    obtain ⟨e, he, hn, _⟩ := fnsOf_get hk
    rw [Nat.sub_zero] at he
    have hm := List.mem_of_getElem? he
    have S := hS e hm
    subst hn
    obtain ⟨f, fd, hmg, F⟩ := fun_of X G (hT e hm)
    refine ⟨e.st, e.N, e.ps, ⟨f, fd, F, hmg, F.binds S.bind, fun m ns perm hkw => ?_⟩, S.sc, _, hget he, S.io, rfl, rfl⟩
    have hk := S.kw m ns perm hkw
    obtain ⟨oc, od, kV, doc, pm, an, cdv, ct, osl, rfl, lk, hcd⟩ := F.ex
    exact ⟨fun s us ws _ l1 l2 => .of_eq (hk kV doc pm an cdv ct us ws l1 l2), fun r1 r2 => Vals.perm (r1.append r2) perm⟩
  have hmL := List.mem_of_getElem? hL
  have S := hS eL hmL
  have tL := hT eL hmL
  rw [hname] at tL
  obtain ⟨f, fd, hmg, F⟩ := fun_of X G tL
  rw [hfa] at hmg
  cases hmg
  refine ⟨fd, fun s v => ?_, fun base _ _ => ?_⟩
  · obtain ⟨oc, od, kV, doc, pm, an, cdv, ct, osl, rfl, lk, hcd⟩ := F.ex
    have := S.bind kV doc pm an cdv ct [v] (by rw [hps]; rfl)
    rw [hps, hname] at this
    exact .of_eq this
  · have gk := gok_all (P := P) (w := w) (base := base) hf (fun x d hx => by
      obtain ⟨u, v, h1, h2, h3⟩ := hc x d hx
      exact ⟨u, v, PySem.W.mg_of X G h1, h2, h3⟩) (fun x hx hn => PySem.W.mg_none_of X G (hb x hx hn)) hF
    have hi : ioOf tbl kL = [false] := by
      unfold ioOf
      rw [hget hL]
      exact hio
    refine law_ok (tbl := tbl) (k := kL) ?_ hi hrun
    have sc := S.sc
    rw [hps] at sc
    refine fn_any hf F sc ⟨_, hget hL, by rw [hio]; rfl, rfl, rfl⟩ fun m e => gk m
end
end Ev


set_option Elab.async false
set_option linter.all false
set_option maxRecDepth 100000
/-! Plain laws of the evaluator: comprehensions, loops. -/
namespace Ev.Pl
open PySem PySem.Spec PyProof.Rows L2

def okB : Option (D × Fl × List D) → Bool
  | some (.bool true, _, _) => true
  | _ => false

/-! ### wiped slots -/
theorem wipeE_length (env : Env) : ∀ own : List Nat, (wipeE env own).length = env.length
  | [] => rfl
  | v :: vs => by rw [wipeE, List.length_set, wipeE_length env vs]
theorem wipeE_get (env : Env) : ∀ (own : List Nat) (i : Nat), (wipeE env own)[i]? = if i < env.length ∧ i ∈ own then some none else env[i]?
  | [], i => by simp [wipeE]
  | v :: vs, i => by
    rw [wipeE, List.getElem?_set, wipeE_length, wipeE_get env vs i]
    by_cases h : v = i
    · subst h
      by_cases l : v < env.length
      · simp [l]
      · simp [l]
    · have h' : ¬ i = v := fun e => h e.symm
      simp [h, h', List.mem_cons]
theorem backE_length (old env : Env) : ∀ own : List Nat, (backE old env own).length = env.length
  | [] => rfl
  | v :: vs => by rw [backE, List.length_set, backE_length old env vs]
theorem backE_get (old env : Env) : ∀ (own : List Nat) (i : Nat), (backE old env own)[i]? = if i < env.length ∧ i ∈ own then some ((old[i]?).getD none) else env[i]?
  | [], i => by simp [backE]
  | v :: vs, i => by
    rw [backE, List.getElem?_set, backE_length, backE_get old env vs i]
    by_cases h : v = i
    · subst h
      by_cases l : v < env.length
      · simp [l]
      · simp [l]
    · have h' : ¬ i = v := fun e => h e.symm
      simp [h, h', List.mem_cons]
theorem wipe_len {e1 e2 : Env} {own : List Nat} (h : wipeE e1 own = wipeE e2 own) : e1.length = e2.length := by
  rw [← wipeE_length e1 own, h, wipeE_length]
theorem back_of_wipe {old env : Env} {own : List Nat} (h : wipeE env own = wipeE old own) : backE old env own = old := by
  have hl := wipe_len h
  apply List.ext_getElem?
  intro i
  rw [backE_get]
  have hi := congrArg (fun e => e[i]?) h
  simp only [wipeE_get] at hi
  by_cases c : i < env.length ∧ i ∈ own
  · rw [if_pos c, List.getElem?_eq_getElem (by omega)]
    simp
  · rw [if_neg c]
    rw [if_neg c, if_neg (by rw [← hl]; exact c)] at hi
    exact hi
theorem wipe_wipe (env : Env) (own : List Nat) : wipeE (wipeE env own) own = wipeE env own := by
  apply List.ext_getElem?
  intro i
  rw [wipeE_get, wipeE_length, wipeE_get]
  by_cases c : i < env.length ∧ i ∈ own <;> simp [c]
theorem wipe_set {env : Env} {own : List Nat} {i : Nat} {x : Slot} (h : i ∈ own) : wipeE (env.set i x) own = wipeE env own := by
  apply List.ext_getElem?
  intro j
  rw [wipeE_get, wipeE_get, List.length_set, List.getElem?_set]
  by_cases c : j < env.length ∧ j ∈ own
  · rw [if_pos c, if_pos c]
  · rw [if_neg c, if_neg c]
    by_cases e : i = j
    · subst e
      rw [if_pos rfl]
      have : ¬ i < env.length := fun z => c ⟨z, h⟩
      rw [if_neg this, List.getElem?_eq_none (by omega)]
    · rw [if_neg e]

/-! ### questions: x gives something of which Q holds -/
structure wO {α : Type} (x : Option α) (Q : α → Prop) : Prop where
  ex : ∃ a, x = some a ∧ Q a
structure wP {α β : Type} (x : Option (α × β)) (Q : α → β → Prop) : Prop where
  ex : ∃ a b, x = some (a, b) ∧ Q a b
structure wT {α β γ : Type} (x : Option (α × β × γ)) (Q : α → β → γ → Prop) : Prop where
  ex : ∃ a b c, x = some (a, b, c) ∧ Q a b c
section
variable {α β γ δ : Type}
theorem wO_some {a : α} {Q : α → Prop} (h : Q a) : wO (some a) Q := ⟨a, rfl, h⟩
theorem wP_some {a : α} {b : β} {Q : α → β → Prop} (h : Q a b) : wP (some (a, b)) Q := ⟨a, b, rfl, h⟩
theorem wT_some {a : α} {b : β} {c : γ} {Q : α → β → γ → Prop} (h : Q a b c) : wT (some (a, b, c)) Q := ⟨a, b, c, rfl, h⟩
theorem wO_of {x : Option α} {a : α} {Q : α → Prop} (e : x = some a) (h : Q a) : wO x Q := ⟨a, e, h⟩
theorem wP_of {x : Option (α × β)} {a : α} {b : β} {Q : α → β → Prop} (e : x = some (a, b)) (h : Q a b) : wP x Q := ⟨a, b, e, h⟩
theorem wT_of {x : Option (α × β × γ)} {a : α} {b : β} {c : γ} {Q : α → β → γ → Prop} (e : x = some (a, b, c)) (h : Q a b c) : wT x Q := ⟨a, b, c, e, h⟩
theorem wO.imp {x : Option α} {P Q : α → Prop} (h : wO x P) (q : ∀ a, P a → Q a) : wO x Q := by
  obtain ⟨a, e, p⟩ := h.ex
  exact ⟨a, e, q a p⟩
theorem wP.imp {x : Option (α × β)} {P Q : α → β → Prop} (h : wP x P) (q : ∀ a b, P a b → Q a b) : wP x Q := by
  obtain ⟨a, b, e, p⟩ := h.ex
  exact ⟨a, b, e, q a b p⟩
theorem wT.imp {x : Option (α × β × γ)} {P Q : α → β → γ → Prop} (h : wT x P) (q : ∀ a b c, P a b c → Q a b c) : wT x Q := by
  obtain ⟨a, b, c, e, p⟩ := h.ex
  exact ⟨a, b, c, e, q a b c p⟩
theorem wO_eq {x : Option α} {a : α} (h : wO x fun b => b = a) : x = some a := by
  obtain ⟨b, e, rfl⟩ := h.ex
  exact e
theorem wT_eq {x : Option (α × β × γ)} {a : α} {b : β} {c : γ} (h : wT x fun a' b' c' => a' = a ∧ b' = b ∧ c' = c) : x = some (a, b, c) := by
  obtain ⟨_, _, _, e, rfl, rfl, rfl⟩ := h.ex
  exact e
theorem bOO {x : Option α} {f : α → Option β} {Q : β → Prop} (h : wO x fun a => wO (f a) Q) : wO (x.bind f) Q := by
  obtain ⟨a, e, ⟨b, e2, q⟩⟩ := h.ex
  exact ⟨b, by rw [e]; exact e2, q⟩
theorem bOP {x : Option α} {f : α → Option (β × γ)} {Q : β → γ → Prop} (h : wO x fun a => wP (f a) Q) : wP (x.bind f) Q := by
  obtain ⟨a, e, ⟨b, c, e2, q⟩⟩ := h.ex
  exact ⟨b, c, by rw [e]; exact e2, q⟩
theorem bPO {x : Option (α × β)} {f : α × β → Option γ} {Q : γ → Prop} (h : wP x fun a b => wO (f (a, b)) Q) : wO (x.bind f) Q := by
  obtain ⟨a, b, e, ⟨c, e2, q⟩⟩ := h.ex
  exact ⟨c, by rw [e]; exact e2, q⟩
theorem bPP {x : Option (α × β)} {f : α × β → Option (γ × δ)} {Q : γ → δ → Prop} (h : wP x fun a b => wP (f (a, b)) Q) : wP (x.bind f) Q := by
  obtain ⟨a, b, e, ⟨c, d, e2, q⟩⟩ := h.ex
  exact ⟨c, d, by rw [e]; exact e2, q⟩
theorem bTP {ε : Type} {x : Option (α × β × ε)} {f : α × β × ε → Option (γ × δ)} {Q : γ → δ → Prop} (h : wT x fun a b c => wP (f (a, b, c)) Q) : wP (x.bind f) Q := by
  obtain ⟨a, b, c0, e, ⟨c, d, e2, q⟩⟩ := h.ex
  exact ⟨c, d, by rw [e]; exact e2, q⟩
theorem bPT {ε : Type} {x : Option (α × β)} {f : α × β → Option (γ × δ × ε)} {Q : γ → δ → ε → Prop} (h : wP x fun a b => wT (f (a, b)) Q) : wT (x.bind f) Q := by
  obtain ⟨a, b, e, ⟨c, d, d', e2, q⟩⟩ := h.ex
  exact ⟨c, d, d', by rw [e]; exact e2, q⟩
theorem mOO {x : Option α} {f : α → β} {Q : β → Prop} (h : wO x fun a => Q (f a)) : wO (x.map f) Q := by
  obtain ⟨a, e, q⟩ := h.ex
  exact ⟨f a, by rw [e]; rfl, q⟩
theorem mPO {x : Option (α × β)} {f : α × β → γ} {Q : γ → Prop} (h : wP x fun a b => Q (f (a, b))) : wO (x.map f) Q := by
  obtain ⟨a, b, e, q⟩ := h.ex
  exact ⟨f (a, b), by rw [e]; rfl, q⟩
theorem mOP {x : Option α} {f : α → β × γ} {Q : β → γ → Prop} (h : wO x fun a => Q (f a).1 (f a).2) : wP (x.map f) Q := by
  obtain ⟨a, e, q⟩ := h.ex
  exact ⟨(f a).1, (f a).2, by rw [e]; rfl, q⟩
theorem mPP {x : Option (α × β)} {f : α × β → γ × δ} {Q : γ → δ → Prop} (h : wP x fun a b => Q (f (a, b)).1 (f (a, b)).2) : wP (x.map f) Q := by
  obtain ⟨a, b, e, q⟩ := h.ex
  exact ⟨(f (a, b)).1, (f (a, b)).2, by rw [e]; rfl, q⟩
theorem wO_ite' {c : Bool} {x : Option α} {Q : α → Prop} (hc : c = true) (h : wO x Q) : wO (ite' c x) Q := by
  rw [ite', if_pos hc]
  exact h
theorem wP_ite' {c : Bool} {x : Option (α × β)} {Q : α → β → Prop} (hc : c = true) (h : wP x Q) : wP (ite' c x) Q := by
  rw [ite', if_pos hc]
  exact h
theorem wO_pos {c : Prop} [Decidable c] {x y : Option α} {Q : α → Prop} (hc : c) (h : wO x Q) : wO (if c then x else y) Q := by
  rw [if_pos hc]
  exact h
theorem wO_neg {c : Prop} [Decidable c] {x y : Option α} {Q : α → Prop} (hc : ¬ c) (h : wO y Q) : wO (if c then x else y) Q := by
  rw [if_neg hc]
  exact h
theorem wP_pos {c : Prop} [Decidable c] {x y : Option (α × β)} {Q : α → β → Prop} (hc : c) (h : wP x Q) : wP (if c then x else y) Q := by
  rw [if_pos hc]
  exact h
theorem wP_neg {c : Prop} [Decidable c] {x y : Option (α × β)} {Q : α → β → Prop} (hc : ¬ c) (h : wP y Q) : wP (if c then x else y) Q := by
  rw [if_neg hc]
  exact h
end
/-- a result that is a value, an int, a text; a guard -/
structure wV (r : R) (Q : D → Fl → Prop) : Prop where
  ex : ∃ d f, r = .v d f ∧ Q d f
theorem wV_mk {d : D} {f : Fl} {Q : D → Fl → Prop} (h : Q d f) : wV (.v d f) Q := ⟨d, f, rfl, h⟩
structure wN (r : R) (Q : Int → Prop) : Prop where
  ex : ∃ i f, r = .v (.int i) f ∧ Q i
theorem wN_mk {i : Int} {f : Fl} {Q : Int → Prop} (h : Q i) : wN (.v (.int i) f) Q := ⟨i, f, rfl, h⟩
structure wH (r : R) (Q : D → Prop) : Prop where
  ex : ∃ d, r = .v d .sh ∧ Q d
theorem wH_mk {d : D} {Q : D → Prop} (h : Q d) : wH (.v d .sh) Q := ⟨d, rfl, h⟩
structure wZ (r : R) (Q : Str → Prop) : Prop where
  ex : ∃ z, r = .v (.str z) .sh ∧ Q z
theorem wZ_mk {z : Str} {Q : Str → Prop} (h : Q z) : wZ (.v (.str z) .sh) Q := ⟨z, rfl, h⟩
structure wG (c : Prop) (Q : Prop) : Prop where
  c : c
  q : Q
structure wL (d : D) (Q : List D → Prop) : Prop where
  ex : ∃ xs, (d = .list xs ∨ d = .tuple xs) ∧ Q xs
theorem wL_l {xs : List D} {Q : List D → Prop} (h : Q xs) : wL (.list xs) Q := ⟨xs, .inl rfl, h⟩
theorem wL_t {xs : List D} {Q : List D → Prop} (h : Q xs) : wL (.tuple xs) Q := ⟨xs, .inr rfl, h⟩
structure wL2 (d d2 : D) (Q : List D → List D → Prop) : Prop where
  ex : ∃ xs ys, (d = .list xs ∧ d2 = .list ys ∨ d = .tuple xs ∧ d2 = .tuple ys) ∧ Q xs ys
theorem wL2_l {xs ys : List D} {Q : List D → List D → Prop} (h : Q xs ys) : wL2 (.list xs) (.list ys) Q := ⟨xs, ys, .inl ⟨rfl, rfl⟩, h⟩
theorem wL2_t {xs ys : List D} {Q : List D → List D → Prop} (h : Q xs ys) : wL2 (.tuple xs) (.tuple ys) Q := ⟨xs, ys, .inr ⟨rfl, rfl⟩, h⟩
/-- what d[k] = v, l[k] = v asks -/
structure wU (env : Env) (i : Nat) (k v : D) (Q : Env → Prop) : Prop where
  ex : (∃ j xs f p, k = .int j ∧ ownL env i = some (xs, f) ∧ ixN xs.length j = some p ∧ Q (env.set i (some (.list (xs.set p v), f)))) ∨
    (∃ kvs kvs' f, ownL env i = none ∧ ownK env i = some (kvs, f) ∧ putKD kvs k v = some kvs' ∧ kvs.length < LINE ∧ Q (env.set i (some (.dict kvs', f))))
theorem wU_l {env : Env} {i : Nat} {v : D} {Q : Env → Prop} {j : Int} {xs : List D} {f : Fl} {p : Nat} (h1 : ownL env i = some (xs, f)) (h2 : ixN xs.length j = some p) (q : Q (env.set i (some (.list (xs.set p v), f)))) : wU env i (.int j) v Q := ⟨.inl ⟨j, xs, f, p, rfl, h1, h2, q⟩⟩
theorem wU_d {env : Env} {i : Nat} {k v : D} {Q : Env → Prop} {kvs kvs' : List (D × D)} {f : Fl} (h0 : ownL env i = none) (h2 : ownK env i = some (kvs, f)) (h1 : putKD kvs k v = some kvs') (h3 : kvs.length < LINE) (q : Q (env.set i (some (.dict kvs', f)))) : wU env i k v Q := ⟨.inr ⟨kvs, kvs', f, h0, h2, h1, h3, q⟩⟩
structure wA (r : R) (env : Env) (i : Nat) (Q : Int → Int → Prop) : Prop where
  ex : ∃ y f x, r = .v (.int y) f ∧ env[i]? = some (some (.int x, .sh)) ∧ Q x y
theorem wA_mk {y x : Int} {f : Fl} {env : Env} {i : Nat} {Q : Int → Int → Prop} (h : env[i]? = some (some (.int x, .sh))) (q : Q x y) : wA (.v (.int y) f) env i Q := ⟨y, f, x, rfl, h, q⟩
/-- two ways -/
structure wI (c : Bool) (P Q : Prop) : Prop where
  tt : c = true → P
  ff : c = false → Q
theorem wI_tt {P Q : Prop} (h : P) : wI true P Q := ⟨fun _ => h, fun e => (by cases e)⟩
theorem wI_ff {P Q : Prop} (h : Q) : wI false P Q := ⟨fun e => (by cases e), fun _ => h⟩
theorem evCall_succ {tbl : List Fn} {n f : Nat} {fn : Fn} (h : tbl[f]? = some fn) (ds : List D) : evCall tbl (n + 1) f ds = runFn (evCall tbl n) (ioOf tbl) fn ds := by
  rw [evCall, h]
theorem ioOf_at {tbl : List Fn} {f : Nat} {fn : Fn} (h : tbl[f]? = some fn) : ioOf tbl f = fn.io := by
  rw [ioOf, h]
/-- a function's end -/
def fnQ (ms : List Bool) (Q : D → Fl → List D → Prop) : Out → Prop
  | .nx env => wT (endR ms (.v .none .sh) env) Q
  | .rt r env => wT (endR ms r env) Q
  | _ => False
/-- behind a statement -/
def sq (Q : Out → Prop) (f : Env → Prop) : Out → Prop
  | .nx e => f e
  | .bk e => Q (.bk e)
  | .ct e => Q (.ct e)
  | .rt r e => Q (.rt r e)
/-- behind a turn: I what is to hold ahead of the next one -/
def lq (Q : Out → Prop) (I : Env → Prop) : Out → Prop
  | .nx e => I e
  | .ct e => I e
  | .bk e => Q (.nx e)
  | .rt v e => Q (.rt v e)
theorem fnQ_nx {ms : List Bool} {Q : D → Fl → List D → Prop} {env : Env} (h : wT (endR ms (.v .none .sh) env) Q) : fnQ ms Q (.nx env) := h
theorem fnQ_rt {ms : List Bool} {Q : D → Fl → List D → Prop} {r : R} {env : Env} (h : wT (endR ms r env) Q) : fnQ ms Q (.rt r env) := h
theorem sq_nx {Q : Out → Prop} {f : Env → Prop} {e : Env} (h : f e) : sq Q f (.nx e) := h
theorem sq_bk {Q : Out → Prop} {f : Env → Prop} {e : Env} (h : Q (.bk e)) : sq Q f (.bk e) := h
theorem sq_ct {Q : Out → Prop} {f : Env → Prop} {e : Env} (h : Q (.ct e)) : sq Q f (.ct e) := h
theorem sq_rt {Q : Out → Prop} {f : Env → Prop} {r : R} {e : Env} (h : Q (.rt r e)) : sq Q f (.rt r e) := h
theorem lq_nx {Q : Out → Prop} {f : Env → Prop} {e : Env} (h : f e) : lq Q f (.nx e) := h
theorem lq_ct {Q : Out → Prop} {f : Env → Prop} {e : Env} (h : f e) : lq Q f (.ct e) := h
theorem lq_bk {Q : Out → Prop} {f : Env → Prop} {e : Env} (h : Q (.nx e)) : lq Q f (.bk e) := h
theorem lq_rt {Q : Out → Prop} {f : Env → Prop} {r : R} {e : Env} (h : Q (.rt r e)) : lq Q f (.rt r e) := h
theorem endR_v {d : D} {f : Fl} {env : Env} {ms : List Bool} {Q : D → Fl → List D → Prop} (h : wO (outsOf ms env) fun os => Q d f os) : wT (endR ms (.v d f) env) Q := by
  obtain ⟨a, e, q⟩ := h.ex
  exact ⟨d, f, a, by rw [endR, e]; rfl, q⟩
section
variable {cf : CallF} {io : Nat → List Bool} {env : Env} {Q : R → Env → Prop} {a b c e : E}
theorem wO_fn {sz : Nat} {ms : List Bool} {b : S} {ds : List D} {Q : D → Fl → List D → Prop} (hl : ds.length = ms.length)
    (h : wO (evS cf io b (startE sz ms ds)) (fnQ ms Q)) : wT (runFn cf io ⟨sz, ms, b⟩ ds) Q := by
  obtain ⟨o, e, q⟩ := h.ex
  unfold runFn
  rw [if_pos hl, e]
  cases o <;> first | exact q | exact q.elim
/-! ### expressions -/
theorem wE_cst {d : D} (h : Q (.v d .sh) env) : wP (evE cf io (.cst d) env) Q := by
  rw [evE]
  exact wP_some h
theorem wE_var {i : Nat} (h : wO (slotR env i) fun r => Q r env) : wP (evE cf io (.var i) env) Q := by
  rw [evE]
  exact mOP h
theorem wE_bin {op : Bop} (h : wP (evE cf io a env) fun r1 e1 => wP (evE cf io b e1) fun r2 e2 => wO (rd r1 e2) fun x => wO (rd r2 e2) fun y => wP (ite' (mulOk op r1) (binD op x y)) fun d f => Q (.v d f) e2) : wP (evE cf io (.bin op a b) env) Q := by
  rw [evE]
  exact bPP (h.imp fun r1 e1 h => bPP (h.imp fun r2 e2 h => bOP (h.imp fun x h => bOP (h.imp fun y h => by
    obtain ⟨d, f, e, q⟩ := h.ex
    by_cases k : mulOk op r1 = true
    · rw [ite', if_pos k] at e
      rw [ite', if_pos k, e]
      exact wP_some q
    · rw [ite', if_neg k] at e
      cases e))))
theorem wE_neg (h : wP (evE cf io a env) fun r e1 => wN r fun i => Q (.v (.int (-i)) .sh) e1) : wP (evE cf io (.neg a) env) Q := by
  rw [evE]
  refine bPP (h.imp fun r e1 h => ?_)
  obtain ⟨i, f, rfl, q⟩ := h.ex
  exact wP_some q
theorem wE_not (h : wP (evE cf io a env) fun r e1 => wO (rd r e1) fun x => wO (truD x) fun k => Q (.v (.bool (!k)) .sh) e1) : wP (evE cf io (.not a) env) Q := by
  rw [evE]
  exact bPP (h.imp fun r e1 h => bOP (h.imp fun x h => mOP h))
theorem wE_and (h : wP (evE cf io a env) fun r e1 => wV r fun d f => wO (truD d) fun c => wI c (wP (evE cf io b e1) Q) (Q (.v d f) e1)) : wP (evE cf io (.and a b) env) Q := by
  rw [evE]
  refine bPP (h.imp fun r e1 h => ?_)
  obtain ⟨d, f, rfl, q⟩ := h.ex
  refine bOP (q.imp fun k q => ?_)
  cases k with
  | true => exact wP_pos rfl (q.tt rfl)
  | false => exact wP_neg (by decide) (wP_some (q.ff rfl))
theorem wE_or (h : wP (evE cf io a env) fun r e1 => wV r fun d f => wO (truD d) fun c => wI c (Q (.v d f) e1) (wP (evE cf io b e1) Q)) : wP (evE cf io (.or a b) env) Q := by
  rw [evE]
  refine bPP (h.imp fun r e1 h => ?_)
  obtain ⟨d, f, rfl, q⟩ := h.ex
  refine bOP (q.imp fun k q => ?_)
  cases k with
  | true => exact wP_pos rfl (wP_some (q.tt rfl))
  | false => exact wP_neg (by decide) (q.ff rfl)
theorem wE_cmp {op : Cop} (h : wP (evE cf io a env) fun r1 e1 => wP (evE cf io b e1) fun r2 e2 => wO (rd r1 e2) fun x => wO (rd r2 e2) fun y => wO (cmpD op x y) fun c => Q (.v (.bool c) .sh) e2) : wP (evE cf io (.cmp op a b) env) Q := by
  rw [evE]
  exact bPP (h.imp fun r1 e1 h => bPP (h.imp fun r2 e2 h => bOP (h.imp fun x h => bOP (h.imp fun y h => mOP h))))
theorem wE_cmp2 {op op' : Cop} (h : wP (evE cf io a env) fun r1 e1 => wP (evE cf io b e1) fun r2 e2 => wH r1 fun x => wH r2 fun y => wO (cmpD op x y) fun k => wI k (wP (evE cf io c e2) fun r3 e3 => wO (rd r3 e3) fun z => wO (cmpD op' y z) fun k => Q (.v (.bool k) .sh) e3) (Q (.v (.bool false) .sh) e2)) : wP (evE cf io (.cmp2 op op' a b c) env) Q := by
  rw [evE]
  refine bPP (h.imp fun r1 e1 h => bPP (h.imp fun r2 e2 h => ?_))
  obtain ⟨x, rfl, ha⟩ := h.ex
  obtain ⟨y, rfl, q⟩ := ha.ex
  refine bOP (q.imp fun k q => ?_)
  cases k with
  | true => exact wP_pos rfl (bPP ((q.tt rfl).imp fun r3 e3 h => bOP (h.imp fun z h => mOP h)))
  | false => exact wP_neg (by decide) (wP_some (q.ff rfl))
theorem wE_ife (h : wP (evT cf io c env) fun k e1 => wI k (wP (evE cf io a e1) Q) (wP (evE cf io b e1) Q)) : wP (evE cf io (.ife c a b) env) Q := by
  rw [evE]
  refine bPP (h.imp fun k e1 q => ?_)
  cases k with
  | true => exact wP_pos rfl (q.tt rfl)
  | false => exact wP_neg (by decide) (q.ff rfl)
theorem wE_call {i : Nat} {args : Es} {ms : List Bool} (hio : io i = ms)
    (h : wP (evEs cf io args env) fun rs e1 => wT (argsOf ms rs e1) fun ds e2 is => wT (cf i ds) fun d fl outs => wO (putBack is outs e2) fun e3 => Q (.v d fl) e3) : wP (evE cf io (.call i args) env) Q := by
  subst hio
  rw [evE]
  exact bPP (h.imp fun rs e1 h => bTP (h.imp fun ds e2 is h => bTP (h.imp fun d fl outs h => mOP h)))
theorem wE_callK {i : Nat} {args kws : Es} {perm : List Nat} {ms : List Bool} (hio : io i = ms)
    (h : wP (evEs cf io args env) fun rs e1 => wP (fzAll rs e1) fun ds e2 => wP (evEs cf io kws e2) fun rs2 e3 => wP (fzAll rs2 e3) fun ds2 e4 => wG ((ms.all (fun m => !m) && decide ((permL perm (ds ++ ds2)).length = ms.length)) = true) (wT (cf i (permL perm (ds ++ ds2))) fun d fl outs => Q (.v d fl) e4)) : wP (evE cf io (.callK i args kws perm) env) Q := by
  subst hio
  rw [evE]
  refine bPP (h.imp fun rs e1 h => bPP (h.imp fun ds e2 h => bPP (h.imp fun rs2 e3 h => bPP (h.imp fun ds2 e4 h => ?_))))
  obtain ⟨h1, h2⟩ := h
  obtain ⟨d, fl, outs, e, q⟩ := h2.ex
  dsimp only
  rw [callV, ite', if_pos h1, e]
  exact wP_some q
theorem wE_blt {bl : Blt} {args : Es} (h : wP (evEs cf io args env) fun rs e1 => wO (rdAll rs e1) fun ds => wP (bltD bl ds) fun d f => Q (.v d f) e1) : wP (evE cf io (.blt bl args) env) Q := by
  rw [evE]
  exact bPP (h.imp fun rs e1 h => bOP (h.imp fun ds h => bPP (h.imp fun d f h => wP_some h)))
theorem wE_mth {m : Mth} {o : E} {args : Es} (h : wP (evE cf io o env) fun r e1 => wZ r fun z => wP (evEs cf io args e1) fun rs e2 => wO (rdAll rs e2) fun ds => wP (mthD m (.str z) ds) fun d f => Q (.v d f) e2) : wP (evE cf io (.mth m o args) env) Q := by
  rw [evE]
  refine bPP (h.imp fun r e1 h => ?_)
  obtain ⟨z, rfl, ha⟩ := h.ex
  exact bPP (ha.imp fun rs e2 h => bOP (h.imp fun ds h => bPP (h.imp fun d f h => wP_some h)))
theorem wE_pop {i : Nat} (h : wP (ownL env i) fun xs f => wO (xs[xs.length - 1]?) fun y => Q (.v y .sh) (env.set i (some (.list xs.dropLast, f)))) : wP (evE cf io (.pop i) env) Q := by
  rw [evE]
  exact bPP (h.imp fun xs f h => mOP h)
theorem wE_popAt {i : Nat} {k : E} (h : wP (ownL env i) fun _ _ => wP (evE cf io k env) fun r1 e1 => wN r1 fun j => wG (fitI j = true) (wP (ownL e1 i) fun xs f => wO (ixN xs.length j) fun p => wO (xs[p]?) fun y => Q (.v y .sh) (e1.set i (some (.list (xs.eraseIdx p), f))))) : wP (evE cf io (.popAt i k) env) Q := by
  rw [evE]
  refine bPP (h.imp fun _ _ h => bPP (h.imp fun r1 e1 h => ?_))
  obtain ⟨j, f, rfl, ha⟩ := h.ex
  exact wP_ite' ha.c (bPP (ha.q.imp fun xs f h => bOP (h.imp fun p h => mOP h)))
theorem wE_isi {ts : List Ty} (h : wP (evE cf io a env) fun r e1 => wO (rd r e1) fun d => Q (.v (.bool (isiD d ts)) .sh) e1) : wP (evE cf io (.isi a ts) env) Q := by
  rw [evE]
  exact bPP (h.imp fun r e1 h => mOP h)
theorem wE_ix (h : wP (evE cf io a env) fun r1 e1 => wP (evE cf io b e1) fun r2 e2 => wO (rd r1 e2) fun x => wO (rd r2 e2) fun y => wO (ixD x y) fun d => Q (.v d .sh) e2) : wP (evE cf io (.ix a b) env) Q := by
  rw [evE]
  exact bPP (h.imp fun r1 e1 h => bPP (h.imp fun r2 e2 h => bOP (h.imp fun x h => bOP (h.imp fun y h => mOP h))))
theorem wE_slc {lo hi : Eo} (h : wP (evE cf io a env) fun r1 e1 => wP (evEo cf io lo e1) fun l e2 => wP (evEo cf io hi e2) fun u e3 => wO (rd r1 e3) fun x => wP (slcD x l u) fun d f => Q (.v d f) e3) : wP (evE cf io (.slc a lo hi) env) Q := by
  rw [evE]
  exact bPP (h.imp fun r1 e1 h => bPP (h.imp fun r2 e2 h => bPP (h.imp fun u e3 h => bOP (h.imp fun x h => bPP (h.imp fun d f h => wP_some h)))))
theorem wE_lst {es : Es} (h : wP (evEd cf io es env) fun rs e1 => wP (fzAll rs e1) fun ds e2 => wG (ds.length ≤ LINE) (Q (.v (.list ds) .ow) e2)) : wP (evE cf io (.lst es) env) Q := by
  rw [evE]
  exact bPP (h.imp fun rs e1 h => bPP (h.imp fun ds e2 h => wP_ite' (decide_eq_true h.c) (wP_some h.q)))
theorem wE_tup {es : Es} (h : wP (evEd cf io es env) fun rs e1 => wP (fzAll rs e1) fun ds e2 => wG (ds.length ≤ LINE) (Q (.v (.tuple ds) .sh) e2)) : wP (evE cf io (.tup es) env) Q := by
  rw [evE]
  exact bPP (h.imp fun rs e1 h => bPP (h.imp fun ds e2 h => wP_ite' (decide_eq_true h.c) (wP_some h.q)))
theorem wE_dct (h : Q (.v (.dict []) .ow) env) : wP (evE cf io .dct env) Q := by
  rw [evE]
  exact wP_some h
theorem wE_dctK (h : Q (.v (.dict [mkD]) .ow) env) : wP (evE cf io .dctK env) Q := by
  rw [evE]
  exact wP_some h
theorem wE_dctK1 {k v : D} {kk : Key} (hk : keyD k = some kk) (hv : flatD v = true) (h : Q (.v (.dict [mkD, (.tuple [k], v)]) .ow) env) : wP (evE cf io (.dctK1 k v) env) Q := by
  rw [evE, hk, Option.bind_some]
  exact wP_ite' hv (wP_some h)
theorem wE_rev (h : wP (evE cf io a env) fun r e1 => wO (rd r e1) fun x => wP (revD x) fun d f => Q (.v d f) e1) : wP (evE cf io (.rev a) env) Q := by
  rw [evE]
  exact bPP (h.imp fun r e1 h => bOP (h.imp fun x h => bPP (h.imp fun d f h => wP_some h)))
theorem wS_nil {Q : List R → Env → Prop} (h : Q [] env) : wP (evEs cf io .nil env) Q := by
  rw [evEs]
  exact wP_some h
theorem wS_cons {es : Es} {Q : List R → Env → Prop} (h : wP (evE cf io e env) fun r e1 => wP (evEs cf io es e1) fun rs e2 => Q (r :: rs) e2) : wP (evEs cf io (.cons e es) env) Q := by
  rw [evEs]
  exact bPP (h.imp fun r e1 h => mPP h)
theorem wX_nil {Q : List R → Env → Prop} (h : Q [] env) : wP (evEd cf io .nil env) Q := by
  rw [evEd]
  exact wP_some h
theorem wX_cons {es : Es} {Q : List R → Env → Prop} (h : wP (evE cf io e env) fun r e1 => wP (evEd cf io es e1) fun rs e2 => Q (r :: rs) e2) : wP (evEd cf io (.cons e es) env) Q := by
  rw [evEd]
  exact bPP (h.imp fun r e1 h => mPP h)
theorem wX_star {es : Es} {Q : List R → Env → Prop} (h : wP (evE cf io e env) fun r e1 => wO (rd r e1) fun x => wO (starD x) fun xs => wP (evEd cf io es e1) fun rs e2 => Q (xs.map (R.v · .sh) ++ rs) e2) : wP (evEd cf io (.star e es) env) Q := by
  rw [evEd]
  exact bPP (h.imp fun r e1 h => bOP (h.imp fun x h => bOP (h.imp fun xs h => mPP h)))
theorem wO_no {Q : Option Int → Env → Prop} (h : Q none env) : wP (evEo cf io .no env) Q := by
  rw [evEo]
  exact wP_some h
theorem wO_yes {Q : Option Int → Env → Prop} (h : wP (evE cf io e env) fun r e1 => wN r fun i => Q (some i) e1) : wP (evEo cf io (.yes e) env) Q := by
  rw [evEo]
  refine bPP (h.imp fun r e1 h => ?_)
  obtain ⟨i, f, rfl, q⟩ := h.ex
  exact wP_some q
theorem wC_no {Q : Bool → Env → Prop} (h : Q true env) : wP (evC cf io .no env) Q := by
  rw [evC]
  exact wP_some h
theorem wC_yes {Q : Bool → Env → Prop} (h : wP (evT cf io e env) Q) : wP (evC cf io (.yes e) env) Q := by
  rw [evC]
  exact h
/-! ### tests -/
section
variable {Q : Bool → Env → Prop}
theorem wT_not (h : wP (evT cf io a env) fun k e1 => Q (!k) e1) : wP (evT cf io (.not a) env) Q := by
  rw [evT]
  exact mPP h
theorem wT_and (h : wP (evT cf io a env) fun k e1 => wI k (wP (evT cf io b e1) Q) (Q false e1)) : wP (evT cf io (.and a b) env) Q := by
  rw [evT]
  refine bPP (h.imp fun k e1 q => ?_)
  cases k with
  | true => exact wP_pos rfl (q.tt rfl)
  | false => exact wP_neg (by decide) (wP_some (q.ff rfl))
theorem wT_or (h : wP (evT cf io a env) fun k e1 => wI k (Q true e1) (wP (evT cf io b e1) Q)) : wP (evT cf io (.or a b) env) Q := by
  rw [evT]
  refine bPP (h.imp fun k e1 q => ?_)
  cases k with
  | true => exact wP_pos rfl (wP_some (q.tt rfl))
  | false => exact wP_neg (by decide) (q.ff rfl)
theorem wT_var {i : Nat} (h : wO (slotR env i) fun r => wO (rd r env) fun x => wO (truD x) fun k => Q k env) : wP (evT cf io (.var i) env) Q := by
  rw [evT]
  exact bOP (h.imp fun r h => bOP (h.imp fun x h => mOP h))
theorem wT_cmp {op : Cop} (h : wP (evE cf io a env) fun r1 e1 => wP (evE cf io b e1) fun r2 e2 => wO (rd r1 e2) fun x => wO (rd r2 e2) fun y => wO (cmpD op x y) fun c => Q c e2) : wP (evT cf io (.cmp op a b) env) Q := by
  rw [evT]
  exact bPP (h.imp fun r1 e1 h => bPP (h.imp fun r2 e2 h => bOP (h.imp fun x h => bOP (h.imp fun y h => mOP h))))
theorem wT_cmp2 {op op' : Cop} (h : wP (evE cf io a env) fun r1 e1 => wP (evE cf io b e1) fun r2 e2 => wH r1 fun x => wH r2 fun y => wO (cmpD op x y) fun k => wI k (wP (evE cf io c e2) fun r3 e3 => wO (rd r3 e3) fun z => wO (cmpD op' y z) fun k => Q k e3) (Q false e2)) : wP (evT cf io (.cmp2 op op' a b c) env) Q := by
  rw [evT]
  refine bPP (h.imp fun r1 e1 h => bPP (h.imp fun r2 e2 h => ?_))
  obtain ⟨x, rfl, ha⟩ := h.ex
  obtain ⟨y, rfl, q⟩ := ha.ex
  refine bOP (q.imp fun k q => ?_)
  cases k with
  | true => exact wP_pos rfl (bPP ((q.tt rfl).imp fun r3 e3 h => bOP (h.imp fun z h => mOP h)))
  | false => exact wP_neg (by decide) (wP_some (q.ff rfl))
theorem wT_isi {ts : List Ty} (h : wP (evE cf io a env) fun r e1 => wO (rd r e1) fun d => Q (isiD d ts) e1) : wP (evT cf io (.isi a ts) env) Q := by
  rw [evT]
  exact bPP (h.imp fun r e1 h => mOP h)
theorem wT_call {i : Nat} {args : Es} {ms : List Bool} (hio : io i = ms)
    (h : wP (evEs cf io args env) fun rs e1 => wT (argsOf ms rs e1) fun ds e2 is => wT (cf i ds) fun d fl outs => wO (putBack is outs e2) fun e3 => wO (truD d) fun k => Q k e3) : wP (evT cf io (.call i args) env) Q := by
  subst hio
  rw [evT]
  exact bPP (h.imp fun rs e1 h => bTP (h.imp fun ds e2 is h => bTP (h.imp fun d fl outs h => bOP (h.imp fun e3 h => mOP h))))
theorem wT_callK {i : Nat} {args kws : Es} {perm : List Nat} {ms : List Bool} (hio : io i = ms)
    (h : wP (evEs cf io args env) fun rs e1 => wP (fzAll rs e1) fun ds e2 => wP (evEs cf io kws e2) fun rs2 e3 => wP (fzAll rs2 e3) fun ds2 e4 => wG ((ms.all (fun m => !m) && decide ((permL perm (ds ++ ds2)).length = ms.length)) = true) (wT (cf i (permL perm (ds ++ ds2))) fun d fl outs => wO (truD d) fun k => Q k e4)) : wP (evT cf io (.callK i args kws perm) env) Q := by
  subst hio
  rw [evT]
  refine bPP (h.imp fun rs e1 h => bPP (h.imp fun ds e2 h => bPP (h.imp fun rs2 e3 h => bPP (h.imp fun ds2 e4 h => ?_))))
  obtain ⟨h1, h2⟩ := h
  obtain ⟨d, fl, outs, e, q⟩ := h2.ex
  dsimp only
  rw [callV, ite', if_pos h1, e]
  exact mOP q
theorem wT_blt {bl : Blt} {args : Es} (h : wP (evEs cf io args env) fun rs e1 => wO (rdAll rs e1) fun ds => wP (bltD bl ds) fun d f => wO (truD d) fun k => Q k e1) : wP (evT cf io (.blt bl args) env) Q := by
  rw [evT]
  exact bPP (h.imp fun rs e1 h => bOP (h.imp fun ds h => bPP (h.imp fun d f h => mOP h)))
theorem wT_mth {m : Mth} {o : E} {args : Es} (h : wP (evE cf io o env) fun r e1 => wZ r fun z => wP (evEs cf io args e1) fun rs e2 => wO (rdAll rs e2) fun ds => wP (mthD m (.str z) ds) fun d f => wO (truD d) fun k => Q k e2) : wP (evT cf io (.mth m o args) env) Q := by
  rw [evT]
  refine bPP (h.imp fun r e1 h => ?_)
  obtain ⟨z, rfl, ha⟩ := h.ex
  exact bPP (ha.imp fun rs e2 h => bOP (h.imp fun ds h => bPP (h.imp fun d f h => mOP h)))
theorem wT_ix (h : wP (evE cf io a env) fun r1 e1 => wP (evE cf io b e1) fun r2 e2 => wO (rd r1 e2) fun x => wO (rd r2 e2) fun y => wO (ixD x y) fun d => wO (truD d) fun k => Q k e2) : wP (evT cf io (.ix a b) env) Q := by
  rw [evT]
  exact bPP (h.imp fun r1 e1 h => bPP (h.imp fun r2 e2 h => bOP (h.imp fun x h => bOP (h.imp fun y h => bOP (h.imp fun d h => mOP h)))))
end
/-! ### what is walked -/
section
variable {Q : List D → Env → Prop}
theorem wI_seq (h : wP (evE cf io e env) fun r e1 => wP (fz r e1) fun d e2 => wO (seqItems d) fun xs => Q xs e2) : wP (evI cf io (.seq e) env) Q := by
  rw [evI]
  exact bPP (h.imp fun r e1 h => bPP (h.imp fun d e2 h => mOP h))
theorem wI_range1 (h : wP (evE cf io a env) fun r e1 => wN r fun i => wG (fitI i = true) (Q (rangeD 0 1 i.toNat) e1)) : wP (evI cf io (.range1 a) env) Q := by
  rw [evI]
  refine bPP (h.imp fun r e1 h => ?_)
  obtain ⟨i, f, rfl, ha⟩ := h.ex
  exact wP_ite' ha.c (wP_some ha.q)
theorem wI_range2 (h : wP (evE cf io a env) fun r e1 => wP (evE cf io b e1) fun r2 e2 => wN r fun i => wN r2 fun j => wG (fitI i = true) (wG (fitI j = true) (Q (rangeD i 1 (j - i).toNat) e2))) : wP (evI cf io (.range2 a b) env) Q := by
  rw [evI]
  refine bPP (h.imp fun r e1 h => bPP (h.imp fun r2 e2 h => ?_))
  obtain ⟨i, f, rfl, ha⟩ := h.ex
  obtain ⟨j, g, rfl, hb⟩ := ha.ex
  exact wP_ite' (by rw [hb.c, hb.q.c]; rfl) (wP_some hb.q.q)
theorem wI_range3 (h : wP (evE cf io a env) fun r e1 => wP (evE cf io b e1) fun r2 e2 => wP (evE cf io c e2) fun r3 e3 => wN r fun i => wN r2 fun j => wN r3 fun k => wG (k = -1) (wG (fitI i = true) (wG (fitI j = true) (Q (rangeD i (-1) (i - j).toNat) e3)))) : wP (evI cf io (.range3 a b c) env) Q := by
  rw [evI]
  refine bPP (h.imp fun r e1 h => bPP (h.imp fun r2 e2 h => bPP (h.imp fun r3 e3 h => ?_)))
  obtain ⟨i, f, rfl, ha⟩ := h.ex
  obtain ⟨j, g, rfl, hb⟩ := ha.ex
  obtain ⟨k, f3, rfl, hc⟩ := hb.ex
  obtain ⟨rfl, hd⟩ := hc
  exact wP_ite' (by rw [hd.c, hd.q.c]; rfl) (wP_some hd.q.q)
theorem wI_enum (h : wP (evE cf io e env) fun r e1 => wP (fz r e1) fun d e2 => wL d fun xs => Q (enumD 0 xs) e2) : wP (evI cf io (.enum e) env) Q := by
  rw [evI]
  refine bPP (h.imp fun r e1 h => bPP (h.imp fun d e2 h => ?_))
  obtain ⟨xs, h1 | h1, h2⟩ := h.ex
  · subst h1
    exact wP_some h2
  · subst h1
    exact wP_some h2
theorem wI_zip (h : wP (evE cf io a env) fun r e1 => wP (evE cf io b e1) fun r2 e2 => wP (fz r e2) fun d e3 => wP (fz r2 e3) fun d2 e4 => wL2 d d2 fun xs ys => Q (zipD xs ys) e4) : wP (evI cf io (.zip a b) env) Q := by
  rw [evI]
  refine bPP (h.imp fun r e1 h => bPP (h.imp fun r2 e2 h => bPP (h.imp fun d e3 h => bPP (h.imp fun d2 e4 h => ?_))))
  obtain ⟨xs, ys, h1 | h1, h2⟩ := h.ex
  · obtain ⟨rfl, rfl⟩ := h1
    exact wP_some h2
  · obtain ⟨rfl, rfl⟩ := h1
    exact wP_some h2
end
end

/-! ### statements -/
section
variable {cf : CallF} {io : Nat → List Bool} {env : Env} {Q : Out → Prop} {a b c e : E}
theorem wS_pass (h : Q (.nx env)) : wO (evS cf io .pass env) Q := by
  rw [evS]
  exact wO_some h
theorem wS_brk (h : Q (.bk env)) : wO (evS cf io .brk env) Q := by
  rw [evS]
  exact wO_some h
theorem wS_cnt (h : Q (.ct env)) : wO (evS cf io .cnt env) Q := by
  rw [evS]
  exact wO_some h
theorem wS_expr (h : wP (evE cf io e env) fun _ e1 => Q (.nx e1)) : wO (evS cf io (.expr e) env) Q := by
  rw [evS]
  exact mPO h
theorem wS_app {i : Nat} (h : wP (ownL env i) fun _ _ => wP (evE cf io e env) fun r e1 => wP (fz r e1) fun d e2 => wP (ownL e2 i) fun xs f => wG (xs.length < LINE) (Q (.nx (e2.set i (some (.list (xs ++ [d]), f)))))) : wO (evS cf io (.app i e) env) Q := by
  rw [evS]
  exact bPO (h.imp fun _ _ h => bPO (h.imp fun r e1 h => bPO (h.imp fun d e2 h => bPO (h.imp fun xs f h => wO_ite' (decide_eq_true h.c) (wO_some h.q)))))
theorem wS_ext {i : Nat} (h : wP (ownL env i) fun _ _ => wP (evE cf io e env) fun r e1 => wO (extD r i e1) fun ys => wP (ownL e1 i) fun xs f => wG (xs.length + ys.length ≤ LINE) (Q (.nx (e1.set i (some (.list (xs ++ ys), f)))))) : wO (evS cf io (.ext i e) env) Q := by
  rw [evS]
  exact bPO (h.imp fun _ _ h => bPO (h.imp fun r e1 h => bOO (h.imp fun ys h => bPO (h.imp fun xs f h => wO_ite' (decide_eq_true h.c) (wO_some h.q)))))
theorem wS_set {i : Nat} (h : wP (evE cf io e env) fun r e1 => wO (storeR r e1 i) fun e2 => Q (.nx e2)) : wO (evS cf io (.set i e) env) Q := by
  rw [evS]
  exact bPO (h.imp fun r e1 h => mOO h)
theorem wS_asg {tg : Tg} (h : wP (evE cf io e env) fun r e1 => wP (fz r e1) fun d e2 => wO (bindT tg d e2) fun e3 => Q (.nx e3)) : wO (evS cf io (.asg tg e) env) Q := by
  rw [evS]
  exact bPO (h.imp fun r e1 h => bPO (h.imp fun d e2 h => mOO h))
theorem wS_par2 {i j : Nat} (h : wP (evE cf io a env) fun r1 e1 => wP (evE cf io b e1) fun r2 e2 => wP (frz r1 e2) fun q1 e3 => wP (frz r2 e3) fun q2 e4 => wO (storeR q1 e4 i) fun e5 => wO (storeR q2 e5 j) fun e6 => Q (.nx e6)) : wO (evS cf io (.par2 i j a b) env) Q := by
  rw [evS]
  exact bPO (h.imp fun r1 e1 h => bPO (h.imp fun r2 e2 h => bPO (h.imp fun q1 e3 h => bPO (h.imp fun q2 e4 h => bOO (h.imp fun e5 h => mOO h)))))
theorem wS_par3 {i j k : Nat} (h : wP (evE cf io a env) fun r1 e1 => wP (evE cf io b e1) fun r2 e2 => wP (evE cf io c e2) fun r3 e3 => wP (frz r1 e3) fun q1 e4 => wP (frz r2 e4) fun q2 e5 => wP (frz r3 e5) fun q3 e6 => wO (storeR q1 e6 i) fun e7 => wO (storeR q2 e7 j) fun e8 => wO (storeR q3 e8 k) fun e9 => Q (.nx e9)) : wO (evS cf io (.par3 i j k a b c) env) Q := by
  rw [evS]
  exact bPO (h.imp fun r1 e1 h => bPO (h.imp fun r2 e2 h => bPO (h.imp fun r3 e3 h => bPO (h.imp fun q1 e4 h => bPO (h.imp fun q2 e5 h => bPO (h.imp fun q3 e6 h => bOO (h.imp fun e7 h => bOO (h.imp fun e8 h => mOO h))))))))
/-- d[k] = v, l[k] = v -/
theorem wS_put {i : Nat} {k v : E} (h : wP (evE cf io v env) fun r e1 => wO (hasS e1 i) fun _ => wP (evE cf io k e1) fun rk e2 => wO (rd rk e2) fun kd => wP (fz r e2) fun d e3 => wU e3 i kd d fun e4 => Q (.nx e4)) : wO (evS cf io (.put i k v) env) Q := by
  rw [evS]
  refine bPO (h.imp fun r e1 h => bOO (h.imp fun _ h => bPO (h.imp fun rk e2 h => bOO (h.imp fun kd h => bPO (h.imp fun d e3 h => ?_)))))
  rcases h.ex with ⟨j, xs, f, p, rfl, h1, h2, q⟩ | ⟨kvs, kvs', f, h0, h1, h2, h3, q⟩
  · dsimp only
    rw [h1]
    dsimp only
    rw [h2]
    exact wO_some q
  · dsimp only
    rw [h0]
    dsimp only
    rw [h1, Option.bind_some]
    dsimp only
    rw [h2, Option.bind_some]
    exact wO_ite' (decide_eq_true h3) (wO_some q)
theorem wS_augAdd {i : Nat} (h : wO (hasS env i) fun _ => wP (evE cf io e env) fun r e1 => wA r e1 i fun x y => Q (.nx (e1.set i (some (.int (x + y), .sh))))) : wO (evS cf io (.aug .add i e) env) Q := by
  rw [evS]
  refine bOO (h.imp fun _ h => bPO (h.imp fun r e1 h => ?_))
  obtain ⟨y, f, x, rfl, h1, q⟩ := h.ex
  dsimp only
  rw [h1]
  exact wO_some q
theorem wS_augSub {i : Nat} (h : wO (hasS env i) fun _ => wP (evE cf io e env) fun r e1 => wA r e1 i fun x y => Q (.nx (e1.set i (some (.int (x - y), .sh))))) : wO (evS cf io (.aug .sub i e) env) Q := by
  rw [evS]
  refine bOO (h.imp fun _ h => bPO (h.imp fun r e1 h => ?_))
  obtain ⟨y, f, x, rfl, h1, q⟩ := h.ex
  dsimp only
  rw [h1]
  exact wO_some q
theorem wS_ret (h : wP (evE cf io e env) fun r e1 => Q (.rt r e1)) : wO (evS cf io (.ret e) env) Q := by
  rw [evS]
  exact mPO h
theorem wS_retN (h : Q (.rt (.v .none .sh) env)) : wO (evS cf io .retN env) Q := by
  rw [evS]
  exact wO_some h
theorem wS_ite {a b : S} (h : wP (evT cf io c env) fun k e1 => wI k (wO (evS cf io a e1) Q) (wO (evS cf io b e1) Q)) : wO (evS cf io (.ite c a b) env) Q := by
  rw [evS]
  refine bPO (h.imp fun k e1 q => ?_)
  cases k with
  | true => exact wO_pos rfl (q.tt rfl)
  | false => exact wO_neg (by decide) (q.ff rfl)
theorem wS_seq {a b : S} (h : wO (evS cf io a env) (sq Q fun e1 => wO (evS cf io b e1) Q)) : wO (evS cf io (.seq a b) env) Q := by
  rw [evS]
  refine bOO (h.imp fun o ho => ?_)
  cases o with
  | nx e1 => exact ho
  | bk e1 => exact wO_some ho
  | ct e1 => exact wO_some ho
  | rt v e1 => exact wO_some ho
end

/-! ### loops -/
section
variable {cf : CallF} {io : Nat → List Bool}
theorem wP_loopC {f : D → Env → Option (List D × Env)} {Q : List D → Env → Prop} (I : List D → List D → Env → Prop) : ∀ {xs out : List D} {env : Env}, I xs out env →
    (∀ x r o en, I (x :: r) o en → wP (f x en) fun ys e => I r (o ++ ys) e) → (∀ ys en, I [] (out ++ ys) en → Q ys en) → wP (loopC f xs env) Q
  | [], out, env, h0, _, h2 => ⟨[], env, rfl, h2 [] env (by rw [List.append_nil]; exact h0)⟩
  | x :: r, out, env, h0, h1, h2 => by
    rw [loopC]
    refine bPP ((h1 x r out env h0).imp fun o e1 hp => mPP (wP_loopC I (out := out ++ o) hp h1 fun ys en hI => ?_))
    exact h2 (o ++ ys) en (by rw [← List.append_assoc]; exact hI)
/-- [e for tg in it if c], by what holds ahead of each turn: what is left to walk, what has come, the names -/
theorem wE_comp {own : List Nat} {tg : Tg} {it : It} {c : Eo} {e : E} {env : Env} {Q : R → Env → Prop}
    (h : wP (evI cf io it env) fun xs e1 => ∃ I : List D → List D → Env → Prop, I xs [] e1 ∧
      (∀ x r o en, I (x :: r) o en → wO (bindT tg x (wipeE en own)) fun e2 => wP (evC cf io c e2) fun k e3 => wI k (wP (evE cf io e e3) fun q e4 => wP (fz q e4) fun d e5 => I r (o ++ [d]) e5) (I r o e3)) ∧
      (∀ ys en, I [] ys en → ys.length ≤ LINE ∧ Q (.v (.list ys) .ow) (backE e1 en own))) : wP (evE cf io (.comp own tg it c e) env) Q := by
  obtain ⟨xs, e1, e0, I, h0, h1, h2⟩ := h.ex
  rw [evE, e0]
  show wP (Option.bind (loopC _ xs e1) _) Q
  refine bPP (wP_loopC I (out := []) h0 (fun x r o en hI => ?_) fun ys en hI => ?_)
  · refine bOP ((h1 x r o en hI).imp fun e2 h => bPP (h.imp fun k e3 hk => ?_))
    cases k with
    | true => exact wP_pos rfl (bPP ((hk.tt rfl).imp fun q e4 hp => mPP (hp.imp fun z e5 hz => hz)))
    | false =>
      refine wP_neg (by decide) (wP_some ?_)
      rw [List.append_nil]
      exact hk.ff rfl
  · obtain ⟨a, b⟩ := h2 ys en hI
    exact wP_ite' (decide_eq_true a) (wP_some b)
/-- [e for tg in it] that changes nothing, over the pictures of some things -/
theorem wE_compM {α : Type} (L : List α) (φ g : α → D) {own : List Nat} {tg : Tg} {it : It} {e : E} {env : Env} {Q : R → Env → Prop}
    (h : wP (evI cf io it env) fun xs e1 => xs = L.map φ ∧ L.length ≤ LINE ∧
      (∀ x ∈ L, wO (bindT tg (φ x) (wipeE e1 own)) fun e2 => wP (evE cf io e e2) fun r e3 => wP (fz r e3) fun d e4 => d = g x ∧ wipeE e4 own = wipeE e1 own) ∧
      Q (.v (.list (L.map g)) .ow) e1) : wP (evE cf io (.comp own tg it .no e) env) Q := by
  refine wE_comp (h.imp fun xs e1 h => ?_)
  obtain ⟨h1, h2, h3, h4⟩ := h
  refine ⟨fun rest out en => wipeE en own = wipeE e1 own ∧ ∃ d r, L = d ++ r ∧ rest = r.map φ ∧ out = d.map g, ⟨rfl, [], L, rfl, h1, rfl⟩, fun x r o en hI => ?_, fun ys en hI => ?_⟩
  · obtain ⟨hw, d, r', e1', e2', e3'⟩ := hI
    cases r' with
    | nil => cases e2'
    | cons y r' =>
      rw [List.map_cons] at e2'
      obtain ⟨rfl, rfl⟩ := List.cons.inj e2'
      have hy := h3 y (by rw [e1']; simp)
      rw [← hw] at hy
      refine hy.imp fun e2 h => wC_no ⟨fun _ => h.imp fun r e3 h => h.imp fun z e4 h => ?_, fun h => by cases h⟩
      obtain ⟨rfl, h⟩ := h
      refine ⟨h.trans hw, d ++ [y], r', by rw [e1']; simp, rfl, ?_⟩
      rw [e3', List.map_append]
      rfl
  · obtain ⟨hw, d, r', e1', e2', e3'⟩ := hI
    cases r' with
    | cons y r' => cases e2'
    | nil =>
      rw [List.append_nil] at e1'
      subst e1'
      subst e3'
      rw [List.length_map, back_of_wipe hw]
      exact ⟨h2, h4⟩
/-- [e for tg in it if c] that changes nothing, over the pictures of some things -/
theorem wE_compF {α : Type} (L : List α) (p : α → Bool) (φ g : α → D) {own : List Nat} {tg : Tg} {it : It} {c e : E} {env : Env} {Q : R → Env → Prop}
    (h : wP (evI cf io it env) fun xs e1 => xs = L.map φ ∧ L.length ≤ LINE ∧
      (∀ x ∈ L, wO (bindT tg (φ x) (wipeE e1 own)) fun e2 => wP (evT cf io c e2) fun k e3 => k = p x ∧ (p x = true → wP (evE cf io e e3) fun r e4 => wP (fz r e4) fun d e5 => d = g x ∧ wipeE e5 own = wipeE e1 own) ∧ (p x = false → wipeE e3 own = wipeE e1 own)) ∧
      Q (.v (.list ((L.filter p).map g)) .ow) e1) : wP (evE cf io (.comp own tg it (.yes c) e) env) Q := by
  refine wE_comp (h.imp fun xs e1 h => ?_)
  obtain ⟨h1, h2, h3, h4⟩ := h
  refine ⟨fun rest out en => wipeE en own = wipeE e1 own ∧ ∃ d r, L = d ++ r ∧ rest = r.map φ ∧ out = (d.filter p).map g, ⟨rfl, [], L, rfl, h1, rfl⟩, fun x r o en hI => ?_, fun ys en hI => ?_⟩
  · obtain ⟨hw, d, r', e1', e2', e3'⟩ := hI
    cases r' with
    | nil => cases e2'
    | cons y r' =>
      rw [List.map_cons] at e2'
      obtain ⟨rfl, rfl⟩ := List.cons.inj e2'
      have hy := h3 y (by rw [e1']; simp)
      rw [← hw] at hy
      refine hy.imp fun e2 h => wC_yes (h.imp fun k e3 h => ?_)
      obtain ⟨rfl, ha, hb⟩ := h
      have hL : L = (d ++ [y]) ++ r' := by rw [e1']; simp
      refine ⟨fun k => (ha k).imp fun r e3 h => h.imp fun z e4 h => ?_, fun k => ⟨(hb k).trans hw, d ++ [y], r', hL, rfl, ?_⟩⟩
      · obtain ⟨rfl, h⟩ := h
        refine ⟨h.trans hw, d ++ [y], r', hL, rfl, ?_⟩
        rw [e3', List.filter_append, List.map_append, List.filter_cons, if_pos k]
        rfl
      · rw [e3', List.filter_append, List.filter_cons, if_neg (by rw [k]; decide)]
        simp
  · obtain ⟨hw, d, r', e1', e2', e3'⟩ := hI
    cases r' with
    | cons y r' => cases e2'
    | nil =>
      rw [List.append_nil] at e1'
      subst e1'
      subst e3'
      rw [List.length_map, back_of_wipe hw]
      exact ⟨Nat.le_trans (List.length_filter_le ..) h2, h4⟩
theorem wO_forF {tg : Tg} {b : Env → Option Out} {Q : Out → Prop} (I : List D → Env → Prop) : ∀ {xs : List D} {env : Env}, I xs env →
    (∀ x r en, I (x :: r) en → wO (bindT tg x en) fun e1 => wO (b e1) (lq Q (I r))) → (∀ en, I [] en → Q (.nx en)) → wO (forF tg b xs env) Q
  | [], env, h0, _, h2 => ⟨_, rfl, h2 env h0⟩
  | x :: r, env, h0, h1, h2 => by
    rw [forF]
    refine bOO ((h1 x r env h0).imp fun e1 h => bOO (h.imp fun o ho => ?_))
    cases o with
    | nx e2 => exact wO_forF I ho h1 h2
    | ct e2 => exact wO_forF I ho h1 h2
    | bk e2 => exact wO_some ho
    | rt v e2 => exact wO_some ho
theorem wS_for {tg : Tg} {it : It} {b : S} {env : Env} {Q : Out → Prop} (h : wP (evI cf io it env) fun xs e1 => ∃ I : List D → Env → Prop, I xs e1 ∧
    (∀ x r en, I (x :: r) en → wO (bindT tg x en) fun e1 => wO (evS cf io b e1) (lq Q (I r))) ∧ (∀ en, I [] en → Q (.nx en))) : wO (evS cf io (.for_ tg it b) env) Q := by
  obtain ⟨xs, e1, e0, I, h0, h1, h2⟩ := h.ex
  rw [evS, e0]
  exact wO_forF I h0 h1 h2
theorem wO_whileF {c : Env → Option (Bool × Env)} {b : Env → Option Out} {Q : Out → Prop} (I : Nat → Env → Prop) (h1 : ∀ k en, I k en → wP (c en) fun p e => wI p (wO (b e) (lq Q fun e2 => ∃ k', k' < k ∧ I k' e2)) (Q (.nx e))) : ∀ (f k : Nat) (env : Env), k < f → I k env → wO (whileF c b f env) Q
  | 0, k, _, hk, _ => absurd hk (Nat.not_lt_zero _)
  | f + 1, k, env, hk, hI => by
    rw [whileF]
    refine bPO ((h1 k env hI).imp fun p e1 hp => ?_)
    cases p with
    | true =>
      refine wO_pos rfl (bOO ((hp.tt rfl).imp fun o ho => ?_))
      cases o with
      | nx e2 =>
        obtain ⟨k', h, hI'⟩ := ho
        exact wO_whileF I h1 f k' e2 (by omega) hI'
      | ct e2 =>
        obtain ⟨k', h, hI'⟩ := ho
        exact wO_whileF I h1 f k' e2 (by omega) hI'
      | bk e2 => exact wO_some ho
      | rt v e2 => exact wO_some ho
    | false => exact wO_neg (by decide) (wO_some (hp.ff rfl))
theorem wS_while {c : E} {b : S} {env : Env} {Q : Out → Prop} (I : Nat → Env → Prop) {k : Nat} (hk : k < FUEL) (h0 : I k env) (h1 : ∀ k en, I k en → wP (evT cf io c en) fun p e => wI p (wO (evS cf io b e) (lq Q fun e2 => ∃ k', k' < k ∧ I k' e2)) (Q (.nx e))) : wO (evS cf io (.while_ c b) env) Q := by
  rw [evS]
  exact wO_whileF I h1 FUEL k env hk h0
end
/-! ### where the run stops -/
theorem st_comp {cf : CallF} {io : Nat → List Bool} {env : Env} {own : List Nat} {tg : Tg} {it : It} {c : Eo} {e : E} {Q : R → Env → Prop} (h : wP (evE cf io (.comp own tg it c e) env) Q) : wP (evE cf io (.comp own tg it c e) env) Q := h
theorem st_comp2 {cf : CallF} {io : Nat → List Bool} {env : Env} {own own1 : List Nat} {tg tg1 : Tg} {it it1 : It} {c c1 : Eo} {e : E} {Q : R → Env → Prop} (h : wP (evE cf io (.comp2 own own1 tg it c tg1 it1 c1 e) env) Q) : wP (evE cf io (.comp2 own own1 tg it c tg1 it1 c1 e) env) Q := h
theorem st_for {cf : CallF} {io : Nat → List Bool} {env : Env} {tg : Tg} {it : It} {b : S} {Q : Out → Prop} (h : wO (evS cf io (.for_ tg it b) env) Q) : wO (evS cf io (.for_ tg it b) env) Q := h
theorem st_while {cf : CallF} {io : Nat → List Bool} {env : Env} {c : E} {b : S} {Q : Out → Prop} (h : wO (evS cf io (.while_ c b) env) Q) : wO (evS cf io (.while_ c b) env) Q := h
theorem st_call {tbl : List Fn} {n i : Nat} {ds : List D} {Q : D → Fl → List D → Prop} (h : wT (evCall tbl n i ds) Q) : wT (evCall tbl n i ds) Q := h
/-! ### primitive steps -/
section
variable {Q : D → Fl → Prop} {i j n : Int}
theorem pb_add (h : Q (.int (i + j)) .sh) : wP (binD .add (.int i) (.int j)) Q := wP_some h
theorem pb_sub (h : Q (.int (i - j)) .sh) : wP (binD .sub (.int i) (.int j)) Q := wP_some h
theorem pb_mul (h0 : (-(2 ^ 64) < i ∧ i < 2 ^ 64) ∨ (-(2 ^ 64) < j ∧ j < 2 ^ 64)) (h : Q (.int (i * j)) .sh) : wP (binD .mul (.int i) (.int j)) Q := wP_ite' (decide_eq_true h0) (wP_some h)
theorem pb_fdiv (h0 : 0 < j ∧ j < 1073741824) (h : Q (.int (i / j)) .sh) : wP (binD .fdiv (.int i) (.int j)) Q := wP_ite' (decide_eq_true h0) (wP_some h)
theorem pb_mod (h0 : 0 < j) (h : Q (.int (i % j)) .sh) : wP (binD .mod (.int i) (.int j)) Q := wP_ite' (decide_eq_true h0) (wP_some h)
theorem pb_pow (h0 : 0 ≤ j ∧ j ≤ 1000000 ∧ i.natAbs < 2 ^ 64) (h : Q (.int (i ^ j.toNat)) .sh) : wP (binD .pow (.int i) (.int j)) Q := wP_ite' (decide_eq_true h0) (wP_some h)
theorem pb_list {a b : List D} (h0 : a.length + b.length ≤ LINE) (h : Q (.list (a ++ b)) .ow) : wP (binD .add (.list a) (.list b)) Q := wP_ite' (decide_eq_true h0) (wP_some h)
theorem pb_tup {a b : List D} (h0 : a.length + b.length ≤ LINE) (h : Q (.tuple (a ++ b)) .sh) : wP (binD .add (.tuple a) (.tuple b)) Q := wP_ite' (decide_eq_true h0) (wP_some h)
theorem pb_str {a b : Str} (h0 : a.length + b.length ≤ LINE) (h : Q (.str (a ++ b)) .sh) : wP (binD .add (.str a) (.str b)) Q := wP_ite' (decide_eq_true h0) (wP_some h)
theorem pl_list {xs : List D} (h : Q (.int xs.length) .sh) : wP (bltD .len [.list xs]) Q := wP_some h
theorem pl_tup {xs : List D} (h : Q (.int xs.length) .sh) : wP (bltD .len [.tuple xs]) Q := wP_some h
theorem pl_str {s : Str} (h0 : s.length ≤ LINE) (h : Q (.int s.length) .sh) : wP (bltD .len [.str s]) Q := by
  rw [bltD, if_pos h0]
  exact wP_some h
end
theorem pc_gt {i j : Int} {Q : Bool → Prop} (h : Q (decide (j < i))) : wO (cmpD .gt (.int i) (.int j)) Q := wO_some h
theorem pc_lt {i j : Int} {Q : Bool → Prop} (h : Q (decide (i < j))) : wO (cmpD .lt (.int i) (.int j)) Q := wO_some h
theorem pc_ge {i j : Int} {Q : Bool → Prop} (h : Q (decide (j ≤ i))) : wO (cmpD .ge (.int i) (.int j)) Q := wO_some h
theorem pc_le {i j : Int} {Q : Bool → Prop} (h : Q (decide (i ≤ j))) : wO (cmpD .le (.int i) (.int j)) Q := wO_some h
theorem pc_eq {i j : Int} {Q : Bool → Prop} (h : Q (decide (i = j))) : wO (cmpD .eq (.int i) (.int j)) Q := wO_some h
theorem pc_ne {i j : Int} {Q : Bool → Prop} (h : Q (!decide (i = j))) : wO (cmpD .ne (.int i) (.int j)) Q := wO_some h
theorem pc_eqs {i j : Str} {Q : Bool → Prop} (h : Q (decide (i = j))) : wO (cmpD .eq (.str i) (.str j)) Q := wO_some h
theorem pc_nes {i j : Str} {Q : Bool → Prop} (h : Q (!decide (i = j))) : wO (cmpD .ne (.str i) (.str j)) Q := wO_some h
theorem pc_ins {i j : Str} {Q : Bool → Prop} (h : Q (inStr i j)) : wO (cmpD .isin (.str i) (.str j)) Q := wO_some h
theorem pc_nins {i j : Str} {Q : Bool → Prop} (h : Q (!inStr i j)) : wO (cmpD .nin (.str i) (.str j)) Q := wO_some h
theorem pt_bool {b : Bool} {Q : Bool → Prop} (h : Q b) : wO (truD (.bool b)) Q := wO_some h
theorem pt_int {i : Int} {Q : Bool → Prop} (h : Q (i != 0)) : wO (truD (.int i)) Q := wO_some h
theorem pt_list {xs : List D} {Q : Bool → Prop} (h : Q (!xs.isEmpty)) : wO (truD (.list xs)) Q := wO_some h
theorem pt_tup {xs : List D} {Q : Bool → Prop} (h : Q (!xs.isEmpty)) : wO (truD (.tuple xs)) Q := wO_some h
theorem pr_v {d : D} {f : Fl} {env : Env} {Q : D → Prop} (h : Q d) : wO (rd (.v d f) env) Q := wO_some h
theorem pf_v {d : D} {f : Fl} {env : Env} {Q : D → Env → Prop} (h : Q d env) : wP (fz (.v d f) env) Q := wP_some h
theorem kG {a b : Bool} (h : (a && b) = true) : (a && b) = true := h
theorem fit_of {a : Int} (h1 : -4611686018427387904 ≤ a) (h2 : a < 4611686018427387904) : fitI a = true := decide_eq_true (by omega)
theorem ix_at {xs : List D} {i : Nat} {x : D} (h : xs[i]? = some x) : ixN xs.length (i : Int) = some i := by
  obtain ⟨h, _⟩ := List.getElem?_eq_some_iff.mp h
  unfold ixN
  simp
  omega
/-! ### built-ins -/
theorem len_str {s : Str} (hl : s.length ≤ LINE) : bltD .len [.str s] = some (.int s.length, .sh) := by
  simp [bltD, hl]
theorem boolsD_map {α : Type} (f : α → Bool) : ∀ l : List α, boolsD (l.map fun x => .bool (f x)) = some (l.map f)
  | [] => rfl
  | x :: l => by simp [boolsD, boolsD_map f l]
theorem all_map {α : Type} (f : α → Bool) (l : List α) : bltD .all [.list (l.map fun x => .bool (f x))] = some (.bool (l.all f), .sh) := by
  simp [bltD, boolsD_map, List.all_map]
theorem any_map {α : Type} (f : α → Bool) (l : List α) : bltD .any [.list (l.map fun x => .bool (f x))] = some (.bool (l.any f), .sh) := by
  simp [bltD, boolsD_map, List.any_map]
end Ev.Pl


set_option Elab.async false
set_option linter.all false
set_option maxRecDepth 100000
set_option maxHeartbeats 1000000
/-! Plain laws: what is run with less known slots is run so with more. -/
namespace Ev.Pl
open PySem PySem.Spec PyProof.Rows L2
def Nio (t : Slot) : Prop := ∀ d, t ≠ some (d, .io)
theorem nio_none : Nio none := fun d h => by cases h
theorem nio_sh {d : D} : Nio (some (d, .sh)) := fun d h => by cases h
theorem nio_ow {d : D} : Nio (some (d, .ow)) := fun d h => by cases h
/-- a slot of which less is known -/
def Sl : Slot → Slot → Prop
  | some x, t => t = some x
  | none, t => Nio t
theorem Sl.rf : ∀ a : Slot, Sl a a
  | some _ => rfl
  | none => nio_none
theorem Sl.tr : ∀ {a b c : Slot}, Sl a b → Sl b c → Sl a c
  | some _, _, _, rfl, h => h
  | none, none, _, _, h => h
  | none, some _, _, h, rfl => h
inductive LeE : Env → Env → Prop
  | nil : LeE [] []
  | cons {a b : Slot} {e e' : Env} : Sl a b → LeE e e' → LeE (a :: e) (b :: e')
theorem LeE.rf : ∀ e : Env, LeE e e
  | [] => .nil
  | a :: e => .cons (Sl.rf a) (LeE.rf e)
theorem LeE.tr : ∀ {a b c : Env}, LeE a b → LeE b c → LeE a c
  | _, _, _, .nil, .nil => .nil
  | _, _, _, .cons h t, .cons h' t' => .cons (h.tr h') (t.tr t')
theorem LeE.len : ∀ {e e' : Env}, LeE e e' → e.length = e'.length
  | _, _, .nil => rfl
  | _, _, .cons _ t => by rw [List.length_cons, List.length_cons, t.len]
theorem LeE.get : ∀ {e e' : Env} {i : Nat} {s : Slot}, LeE e e' → e[i]? = some s → ∃ t, e'[i]? = some t ∧ Sl s t
  | _, _, 0, _, .cons h _, q => by cases q; exact ⟨_, rfl, h⟩
  | _, _, i + 1, _, .cons _ t, q => LeE.get (i := i) t q
theorem LeE.at {e e' : Env} {i : Nat} {x : D × Fl} (h : LeE e e') (q : e[i]? = some (some x)) : e'[i]? = some (some x) := by
  obtain ⟨t, a, b⟩ := h.get q
  rw [a, show t = some x from b]
theorem LeE.set : ∀ {e e' : Env} {a b : Slot} (i : Nat), LeE e e' → Sl a b → LeE (e.set i a) (e'.set i b)
  | _, _, _, _, _, .nil, _ => .nil
  | _, _, _, _, 0, .cons _ t, s => .cons s t
  | _, _, _, _, i + 1, .cons h t, s => .cons h (LeE.set i t s)
theorem LeE.none {e e' : Env} {i : Nat} (h : LeE e e') (q : e[i]? = none) : e'[i]? = none := by
  rw [List.getElem?_eq_none_iff] at q ⊢
  rw [← h.len]
  exact q
inductive LeO : Out → Out → Prop
  | nx {e e' : Env} : LeE e e' → LeO (.nx e) (.nx e')
  | bk {e e' : Env} : LeE e e' → LeO (.bk e) (.bk e')
  | ct {e e' : Env} : LeE e e' → LeO (.ct e) (.ct e')
  | rt {r : R} {e e' : Env} : LeE e e' → LeO (.rt r e) (.rt r e')
theorem LeO.rf : ∀ o : Out, LeO o o
  | .nx e => .nx (.rf e)
  | .bk e => .bk (.rf e)
  | .ct e => .ct (.rf e)
  | .rt _ e => .rt (.rf e)
theorem LeO.tr : ∀ {a b c : Out}, LeO a b → LeO b c → LeO a c
  | _, _, _, .nx h, .nx t => .nx (h.tr t)
  | _, _, _, .bk h, .bk t => .bk (h.tr t)
  | _, _, _, .ct h, .ct t => .ct (h.tr t)
  | _, _, _, .rt h, .rt t => .rt (h.tr t)
class Wk (α : Type) where
  rel : α → α → Prop
instance : Wk Env := ⟨LeE⟩
instance : Wk Out := ⟨LeO⟩
instance : Wk D := ⟨Eq⟩
instance : Wk R := ⟨Eq⟩
instance : Wk Bool := ⟨Eq⟩
instance : Wk Int := ⟨Eq⟩
instance : Wk Nat := ⟨Eq⟩
instance : Wk Unit := ⟨Eq⟩
instance : Wk Fl := ⟨Eq⟩
instance : Wk (List D) := ⟨Eq⟩
instance : Wk (List R) := ⟨Eq⟩
instance : Wk (List (D × D)) := ⟨Eq⟩
instance : Wk (List (Option Nat)) := ⟨Eq⟩
instance : Wk (Option Int) := ⟨Eq⟩
instance {α β : Type} [Wk α] [Wk β] : Wk (α × β) := ⟨fun a b => Wk.rel a.1 b.1 ∧ Wk.rel a.2 b.2⟩
/-- what gives something gives so still -/
def OL {α : Type} [Wk α] (x y : Option α) : Prop := ∀ a, x = some a → ∃ b, y = some b ∧ Wk.rel a b
section
variable {α β : Type} [Wk α] [Wk β]
theorem OL.no {y : Option α} : OL none y := fun _ h => by cases h
theorem OL.so {a b : α} (h : Wk.rel a b) : OL (some a) (some b) := fun _ e => by
  cases e
  exact ⟨b, rfl, h⟩
theorem OL.bd {x y : Option α} {f g : α → Option β} (h : OL x y) (k : ∀ a b, Wk.rel a b → OL (f a) (g b)) : OL (x.bind f) (y.bind g) := fun r e => by
  cases x with
  | none => cases e
  | some a =>
    obtain ⟨b, rfl, q⟩ := h a rfl
    exact k a b q r e
theorem OL.mp {x y : Option α} {f g : α → β} (h : OL x y) (k : ∀ a b, Wk.rel a b → Wk.rel (f a) (g b)) : OL (x.map f) (y.map g) := fun r e => by
  cases x with
  | none => cases e
  | some a =>
    obtain ⟨b, rfl, q⟩ := h a rfl
    cases e
    exact ⟨_, rfl, k a b q⟩
theorem OL.i' {c : Bool} {x y : Option α} (h : OL x y) : OL (ite' c x) (ite' c y) := fun r e => by
  unfold ite' at e ⊢
  split at e
  · rename_i q
    rw [if_pos q]
    exact h r e
  · cases e
theorem OL.if {c : Prop} [Decidable c] {x y x' y' : Option α} (h : OL x x') (k : OL y y') : OL (if c then x else y) (if c then x' else y') := by
  by_cases q : c
  · rw [if_pos q, if_pos q]
    exact h
  · rw [if_neg q, if_neg q]
    exact k
end
/-- the same, where nothing is weakened -/
theorem OL.eq {α β : Type} [Wk β] {x : Option α} {f g : α → Option β} (k : ∀ a, OL (f a) (g a)) : OL (x.bind f) (x.bind g) := fun r e => by
  cases x with
  | none => cases e
  | some a => exact k a r e
theorem OL.em {α β : Type} [Wk β] {x : Option α} {f g : α → β} (k : ∀ a, Wk.rel (f a) (g a)) : OL (x.map f) (x.map g) := fun r e => by
  cases x with
  | none => cases e
  | some a =>
    cases e
    exact ⟨_, rfl, k a⟩

theorem bdP {α β : Type} [Wk β] [Wk α] {x y : Option (α × Env)} {f g : α × Env → Option β} (he : ∀ a b : α, Wk.rel a b → a = b) (h : OL x y) (k : ∀ a e e', LeE e e' → OL (f (a, e)) (g (a, e'))) : OL (x.bind f) (y.bind g) := OL.bd h fun a b q => by
  obtain ⟨a, e1⟩ := a
  obtain ⟨b, e2⟩ := b
  obtain ⟨q1, q2⟩ := q
  cases he _ _ q1
  exact k a _ _ q2
theorem bdR {β : Type} [Wk β] {x y : Option (R × Env)} {f g : R × Env → Option β} (h : OL x y) (k : ∀ a e e', LeE e e' → OL (f (a, e)) (g (a, e'))) : OL (x.bind f) (y.bind g) := bdP (fun _ _ q => q) h k
theorem bdRs {β : Type} [Wk β] {x y : Option (List R × Env)} {f g : List R × Env → Option β} (h : OL x y) (k : ∀ a e e', LeE e e' → OL (f (a, e)) (g (a, e'))) : OL (x.bind f) (y.bind g) := bdP (fun _ _ q => q) h k
theorem bdB {β : Type} [Wk β] {x y : Option (Bool × Env)} {f g : Bool × Env → Option β} (h : OL x y) (k : ∀ a e e', LeE e e' → OL (f (a, e)) (g (a, e'))) : OL (x.bind f) (y.bind g) := bdP (fun _ _ q => q) h k
theorem bdO {β : Type} [Wk β] {x y : Option (Option Int × Env)} {f g : Option Int × Env → Option β} (h : OL x y) (k : ∀ a e e', LeE e e' → OL (f (a, e)) (g (a, e'))) : OL (x.bind f) (y.bind g) := bdP (fun _ _ q => q) h k
theorem bdD {β : Type} [Wk β] {x y : Option (D × Env)} {f g : D × Env → Option β} (h : OL x y) (k : ∀ a e e', LeE e e' → OL (f (a, e)) (g (a, e'))) : OL (x.bind f) (y.bind g) := bdP (fun _ _ q => q) h k
theorem bdDs {β : Type} [Wk β] {x y : Option (List D × Env)} {f g : List D × Env → Option β} (h : OL x y) (k : ∀ a e e', LeE e e' → OL (f (a, e)) (g (a, e'))) : OL (x.bind f) (y.bind g) := bdP (fun _ _ q => q) h k
theorem bdA {β : Type} [Wk β] {x y : Option (List D × Env × List (Option Nat))} {f g : List D × Env × List (Option Nat) → Option β} (h : OL x y) (k : ∀ a e e' is, LeE e e' → OL (f (a, e, is)) (g (a, e', is))) : OL (x.bind f) (y.bind g) := OL.bd h fun a b q => by
  obtain ⟨a, e1, is⟩ := a
  obtain ⟨b, e2, is'⟩ := b
  obtain ⟨q1, q2, q3⟩ := q
  cases (show a = b from q1)
  cases (show is = is' from q3)
  exact k a _ _ is q2
theorem bdV {β : Type} [Wk β] {x y : Option D} {f g : D → Option β} (h : OL x y) (k : ∀ a, OL (f a) (g a)) : OL (x.bind f) (y.bind g) := OL.bd h fun a b q => by
  cases (show a = b from q)
  exact k a
theorem bdVs {β : Type} [Wk β] {x y : Option (List D)} {f g : List D → Option β} (h : OL x y) (k : ∀ a, OL (f a) (g a)) : OL (x.bind f) (y.bind g) := OL.bd h fun a b q => by
  cases (show a = b from q)
  exact k a
theorem bdU {β : Type} [Wk β] {x y : Option Unit} {f g : Unit → Option β} (h : OL x y) (k : ∀ a, OL (f a) (g a)) : OL (x.bind f) (y.bind g) := OL.bd h fun a b _ => k a
theorem bdL {β : Type} [Wk β] {x y : Option (List D × Fl)} {f g : List D × Fl → Option β} (h : OL x y) (k : ∀ a, OL (f a) (g a)) : OL (x.bind f) (y.bind g) := OL.bd h fun a b q => by
  obtain ⟨a, f1⟩ := a
  obtain ⟨b, f2⟩ := b
  obtain ⟨q1, q2⟩ := q
  cases (show a = b from q1)
  cases (show f1 = f2 from q2)
  exact k _
theorem bdK {β : Type} [Wk β] {x y : Option (List (D × D) × Fl)} {f g : List (D × D) × Fl → Option β} (h : OL x y) (k : ∀ a, OL (f a) (g a)) : OL (x.bind f) (y.bind g) := OL.bd h fun a b q => by
  obtain ⟨a, f1⟩ := a
  obtain ⟨b, f2⟩ := b
  obtain ⟨q1, q2⟩ := q
  cases (show a = b from q1)
  cases (show f1 = f2 from q2)
  exact k _
theorem mpP {α β : Type} [Wk β] [Wk α] {x y : Option (α × Env)} {f g : α × Env → β} (he : ∀ a b : α, Wk.rel a b → a = b) (h : OL x y) (k : ∀ a e e', LeE e e' → Wk.rel (f (a, e)) (g (a, e'))) : OL (x.map f) (y.map g) := OL.mp h fun a b q => by
  obtain ⟨a, e1⟩ := a
  obtain ⟨b, e2⟩ := b
  obtain ⟨q1, q2⟩ := q
  cases he _ _ q1
  exact k a _ _ q2

/-! ### the small steps -/
variable {env env' : Env}
theorem w_slotR (h : LeE env env') (i : Nat) : OL (slotR env i) (slotR env' i) := fun r e => by
  unfold slotR at e ⊢
  split at e
  · rename_i d q
    cases e
    rw [h.at q]
    exact ⟨_, rfl, rfl⟩
  · rename_i p n q
    cases e
    rw [h.at q]
    split
    · rename_i d z
      cases z
      exact absurd rfl (n d)
    · exact ⟨_, rfl, rfl⟩
    · rename_i n1 n2
      exact absurd rfl (n2 _)
  · cases e
theorem w_rd (h : LeE env env') (r : R) : OL (rd r env) (rd r env') := fun d e => by
  cases r with
  | v x f => exact ⟨_, e, rfl⟩
  | s i =>
    unfold rd at e ⊢
    dsimp only at e ⊢
    split at e
    · rename_i x f q
      cases e
      rw [h.at q]
      exact ⟨_, rfl, rfl⟩
    · cases e
theorem w_fz (h : LeE env env') (r : R) : OL (fz r env) (fz r env') := fun a e => by
  cases r with
  | v x f =>
    cases e
    exact ⟨_, rfl, rfl, h⟩
  | s i =>
    unfold fz at e ⊢
    dsimp only at e ⊢
    split at e
    · rename_i x q
      cases e
      rw [h.at q]
      exact ⟨_, rfl, rfl, h.set i rfl⟩
    · rename_i x q
      cases e
      rw [h.at q]
      exact ⟨_, rfl, rfl, h⟩
    · cases e
theorem w_store (h : LeE env env') (i : Nat) (d : D) (f : Fl) : OL (store env i d f) (store env' i d f) := fun a e => by
  unfold store at e ⊢
  split at e
  · cases e
  · rename_i s n q
    cases e
    obtain ⟨t, q', sl⟩ := h.get q
    rw [q']
    split
    · rename_i d' z
      cases z
      exfalso
      cases s with
      | none => exact sl d' rfl
      | some x => cases (show some (d', Fl.io) = some x from sl); exact n d' rfl
    · rename_i z
      cases z
      exact ⟨_, rfl, h.set i rfl⟩
    · rename_i z
      cases z
  · cases e
theorem w_bindT (h : LeE env env') (t : Tg) (d : D) : OL (bindT t d env) (bindT t d env') := by
  induction t generalizing env env' d with
  | name i => exact w_store h i d .sh
  | pair a b iha ihb =>
    rcases d with _ | _ | _ | _ | xs | xs | _
    case list => rcases xs with _ | ⟨x, _ | ⟨y, _ | ⟨z, r⟩⟩⟩ <;> first | exact OL.no | exact OL.bd (iha h _) fun _ _ k => ihb k _
    case tuple => rcases xs with _ | ⟨x, _ | ⟨y, _ | ⟨z, r⟩⟩⟩ <;> first | exact OL.no | exact OL.bd (iha h _) fun _ _ k => ihb k _
    all_goals exact OL.no
  | trip a b c iha ihb ihc =>
    rcases d with _ | _ | _ | _ | xs | xs | _
    case list => rcases xs with _ | ⟨x, _ | ⟨y, _ | ⟨z, _ | ⟨u, r⟩⟩⟩⟩ <;> first | exact OL.no | exact OL.bd (iha h _) fun _ _ k => OL.bd (ihb k _) fun _ _ k2 => ihc k2 _
    case tuple => rcases xs with _ | ⟨x, _ | ⟨y, _ | ⟨z, _ | ⟨u, r⟩⟩⟩⟩ <;> first | exact OL.no | exact OL.bd (iha h _) fun _ _ k => OL.bd (ihb k _) fun _ _ k2 => ihc k2 _
    all_goals exact OL.no
theorem w_argsOf : ∀ (ms : List Bool) (rs : List R) {env env' : Env}, LeE env env' → OL (argsOf ms rs env) (argsOf ms rs env')
  | [], [], _, _, h => OL.so ⟨rfl, h, rfl⟩
  | false :: ms, r :: rs, _, _, h => by
    rw [argsOf, argsOf]
    refine OL.bd (w_argsOf ms rs h) fun a b k => ?_
    obtain ⟨ds, e1, is⟩ := a
    obtain ⟨_, e2, _⟩ := b
    obtain ⟨rfl, k, rfl⟩ := k
    exact OL.if OL.no (mpP (fun _ _ q => q) (w_fz k r) fun d e e' q => ⟨rfl, q, rfl⟩)
  | true :: ms, .s i :: rs, _, _, h => by
    rw [argsOf, argsOf]
    refine OL.bd (w_argsOf ms rs h) fun a b k => ?_
    obtain ⟨ds, e1, is⟩ := a
    obtain ⟨_, e2, _⟩ := b
    obtain ⟨rfl, k, rfl⟩ := k
    dsimp only
    split
    · exact OL.no
    · rename_i d f n q
      rw [k.at q]
      cases f with
      | sh => exact absurd rfl n
      | ow => exact OL.if OL.no (OL.so ⟨rfl, k, rfl⟩)
      | io => exact OL.if OL.no (OL.so ⟨rfl, k, rfl⟩)
    · exact OL.no
  | true :: ms, .v d .ow :: rs, _, _, h => by
    rw [argsOf, argsOf]
    refine OL.bd (w_argsOf ms rs h) fun a b k => ?_
    obtain ⟨ds, e1, is⟩ := a
    obtain ⟨_, e2, _⟩ := b
    obtain ⟨rfl, k, rfl⟩ := k
    exact OL.so ⟨rfl, k, rfl⟩
  | true :: _, .v _ .sh :: _, _, _, h => OL.no
  | true :: _, .v _ .io :: _, _, _, h => OL.no
  | [], _ :: _, _, _, h => OL.no
  | _ :: _, [], _, _, h => by
    rename_i b ms _ _
    cases b <;> exact OL.no
theorem w_putBack : ∀ (is : List (Option Nat)) (ds : List D) {env env' : Env}, LeE env env' → OL (putBack is ds env) (putBack is ds env')
  | [], [], _, _, h => OL.so h
  | none :: is, _ :: ds, _, _, h => by
    rw [putBack, putBack]
    exact w_putBack is ds h
  | some i :: is, d :: ds, e1, e2, h => by
    rw [putBack, putBack]
    cases q : e1[i]? with
    | none => exact OL.no
    | some s =>
      cases s with
      | none => exact OL.no
      | some x =>
        obtain ⟨x, f⟩ := x
        rw [h.at q]
        exact w_putBack is ds (h.set i rfl)
  | [], _ :: _, _, _, h => OL.no
  | none :: _, [], _, _, h => OL.no
  | some _ :: _, [], _, _, h => OL.no
theorem w_fzAll : ∀ (rs : List R) {env env' : Env}, LeE env env' → OL (fzAll rs env) (fzAll rs env')
  | [], _, _, h => OL.so ⟨rfl, h⟩
  | r :: rs, _, _, h => by
    rw [fzAll, fzAll]
    refine OL.bd (w_fzAll rs h) fun a b k => ?_
    obtain ⟨ds, e1⟩ := a
    obtain ⟨_, e2⟩ := b
    obtain ⟨rfl, k⟩ := k
    exact mpP (fun _ _ q => q) (w_fz k r) fun d e e' q => ⟨rfl, q⟩
theorem w_rdAll (h : LeE env env') : ∀ (rs : List R), OL (rdAll rs env) (rdAll rs env')
  | [] => OL.so rfl
  | r :: rs => by
    rw [rdAll, rdAll]
    refine OL.bd (w_rd h r) fun a b k => ?_
    cases (show a = b from k)
    exact OL.mp (w_rdAll h rs) fun a b q => by rw [show a = b from q]; rfl
theorem w_ownL (h : LeE env env') (i : Nat) : OL (ownL env i) (ownL env' i) := fun a e => by
  unfold ownL at e ⊢
  split at e
  · rename_i xs q
    cases e
    rw [h.at q]
    exact ⟨_, rfl, rfl, rfl⟩
  · rename_i xs q
    cases e
    rw [h.at q]
    exact ⟨_, rfl, rfl, rfl⟩
  · cases e
theorem w_ownK (h : LeE env env') (i : Nat) : OL (ownK env i) (ownK env' i) := fun a e => by
  unfold ownK at e ⊢
  split at e
  · rename_i xs q
    cases e
    rw [h.at q]
    exact ⟨_, rfl, rfl, rfl⟩
  · rename_i xs q
    cases e
    rw [h.at q]
    exact ⟨_, rfl, rfl, rfl⟩
  · cases e
theorem w_hasS (h : LeE env env') (i : Nat) : OL (hasS env i) (hasS env' i) := fun a e => by
  unfold hasS at e ⊢
  split at e
  · rename_i x q
    rw [h.at q]
    exact ⟨(), rfl, rfl⟩
  · cases e
theorem w_extD (h : LeE env env') (r : R) (i : Nat) : OL (extD r i env) (extD r i env') := by
  unfold extD
  split
  · exact OL.so rfl
  · exact OL.if OL.no (OL.mp (w_ownL h _) fun a b q => by rw [show a.1 = b.1 from q.1]; rfl)
  · exact OL.no
theorem w_frz (h : LeE env env') (r : R) : OL (frz r env) (frz r env') := by
  cases r with
  | v d f => exact OL.so ⟨rfl, h⟩
  | s i => exact mpP (fun _ _ q => q) (w_fz h _) fun d e e' q => ⟨rfl, q⟩
theorem w_storeR (h : LeE env env') (r : R) (i : Nat) : OL (storeR r env i) (storeR r env' i) := by
  cases r with
  | v d f => exact w_store h i d f
  | s j => exact bdD (w_fz h _) fun d e e' q => w_store q i _ .sh
theorem w_wipe (h : LeE env env') : ∀ own : List Nat, LeE (wipeE env own) (wipeE env' own)
  | [] => h
  | v :: vs => (w_wipe h vs).set v nio_none
theorem w_back {o o' : Env} (ho : LeE o o') (h : LeE env env') : ∀ own : List Nat, LeE (backE o env own) (backE o' env' own)
  | [] => h
  | v :: vs => (w_back ho h vs).set v (by
      cases q : o[v]? with
      | none => rw [ho.none q]; exact nio_none
      | some s =>
        obtain ⟨t, q', sl⟩ := ho.get q
        rw [q']
        exact sl)
theorem w_loopC {f g : D → Env → Option (List D × Env)} (k : ∀ x e e', LeE e e' → OL (f x e) (g x e')) : ∀ (xs : List D) {env env' : Env}, LeE env env' → OL (loopC f xs env) (loopC g xs env')
  | [], _, _, h => OL.so ⟨rfl, h⟩
  | x :: r, _, _, h => by
    rw [loopC, loopC]
    refine OL.bd (k x _ _ h) fun a b q => ?_
    obtain ⟨o, e1⟩ := a
    obtain ⟨_, e2⟩ := b
    obtain ⟨rfl, q⟩ := q
    exact mpP (fun _ _ q => q) (w_loopC k r q) fun d e e' q => ⟨rfl, q⟩
section
variable {cf : CallF} {io : Nat → List Bool}
theorem w_val {x : D × Fl} (h : LeE env env') : OL (val x env) (val x env') := OL.so ⟨rfl, h⟩
mutual
theorem qE : ∀ (e : E) {env env' : Env}, LeE env env' → OL (evE cf io e env) (evE cf io e env')
  | .bad, _, _, h => by simp only [evE]; exact OL.no
  | .cst _, _, _, h => by simp only [evE]; exact OL.so ⟨rfl, h⟩
  | .var i, _, _, h => by simp only [evE]; exact OL.mp (w_slotR h i) fun a b q => ⟨q, h⟩
  | .bin op a b, _, _, h => by
    have h1 := @qE a; have h2 := @qE b
    simp only [evE]
    exact bdR (h1 h) fun r1 _ _ k1 => bdR (h2 k1) fun r2 _ _ k2 => bdV (w_rd k2 r1) fun x => bdV (w_rd k2 r2) fun y => OL.i' (OL.eq fun z => w_val k2)
  | .neg a, _, _, h => by
    have h1 := @qE a
    simp only [evE]
    refine bdR (h1 h) fun r1 _ _ k1 => ?_
    dsimp only
    split
    · exact OL.so ⟨rfl, k1⟩
    · exact OL.no
  | .not a, _, _, h => by
    have h1 := @qE a
    simp only [evE]
    exact bdR (h1 h) fun r1 _ _ k1 => bdV (w_rd k1 r1) fun x => OL.em fun b => ⟨rfl, k1⟩
  | .and a b, _, _, h => by
    have h1 := @qE a; have h2 := @qE b
    simp only [evE]
    refine bdR (h1 h) fun r1 _ _ k1 => ?_
    cases r1 with
    | v d f => exact OL.eq fun c => OL.if (h2 k1) (OL.so ⟨rfl, k1⟩)
    | s i => exact OL.no
  | .or a b, _, _, h => by
    have h1 := @qE a; have h2 := @qE b
    simp only [evE]
    refine bdR (h1 h) fun r1 _ _ k1 => ?_
    cases r1 with
    | v d f => exact OL.eq fun c => OL.if (OL.so ⟨rfl, k1⟩) (h2 k1)
    | s i => exact OL.no
  | .cmp op a b, _, _, h => by
    have h1 := @qE a; have h2 := @qE b
    simp only [evE]
    exact bdR (h1 h) fun r1 _ _ k1 => bdR (h2 k1) fun r2 _ _ k2 => bdV (w_rd k2 r1) fun x => bdV (w_rd k2 r2) fun y => OL.em fun z => ⟨rfl, k2⟩
  | .cmp2 op op' a b c, _, _, h => by
    have h1 := @qE a; have h2 := @qE b; have h3 := @qE c
    simp only [evE]
    refine bdR (h1 h) fun r1 _ _ k1 => bdR (h2 k1) fun r2 _ _ k2 => ?_
    dsimp only
    split
    · exact OL.eq fun k => OL.if (bdR (h3 k2) fun r3 _ _ k3 => bdV (w_rd k3 r3) fun z => OL.em fun _ => ⟨rfl, k3⟩) (OL.so ⟨rfl, k2⟩)
    · exact OL.no
  | .ife c a b, _, _, h => by
    have h1 := @qT c; have h2 := @qE a; have h3 := @qE b
    simp only [evE]
    exact bdB (h1 h) fun p _ _ k => OL.if (h2 k) (h3 k)
  | .call f args, _, _, h => by
    have h1 := @qEs args
    simp only [evE]
    exact bdRs (h1 h) fun rs _ _ k1 => bdA (w_argsOf _ rs k1) fun ds _ _ is k2 => OL.eq fun t => OL.mp (w_putBack is _ k2) fun a b q => ⟨rfl, q⟩
  | .callK f args kws perm, _, _, h => by
    have h1 := @qEs args; have h2 := @qEs kws
    simp only [evE]
    exact bdRs (h1 h) fun rs _ _ k1 => bdDs (w_fzAll rs k1) fun ds _ _ k2 => bdRs (h2 k2) fun rs2 _ _ k3 => bdDs (w_fzAll rs2 k3) fun ds2 _ _ k4 => OL.eq fun t => w_val k4
  | .blt b args, _, _, h => by
    have h1 := @qEs args
    simp only [evE]
    exact bdRs (h1 h) fun rs _ _ k1 => bdVs (w_rdAll k1 rs) fun ds => OL.eq fun t => w_val k1
  | .mth m o args, _, _, h => by
    have h1 := @qE o; have h2 := @qEs args
    simp only [evE]
    refine bdR (h1 h) fun r1 _ _ k1 => ?_
    dsimp only
    split
    · exact bdRs (h2 k1) fun rs _ _ k2 => bdVs (w_rdAll k2 rs) fun ds => OL.eq fun t => w_val k2
    · exact OL.no
  | .pop i, _, _, h => by
    simp only [evE]
    exact bdL (w_ownL h i) fun t => OL.em fun y => ⟨rfl, h.set i rfl⟩
  | .popAt i k, _, _, h => by
    have h1 := @qE k
    simp only [evE]
    refine bdL (w_ownL h i) fun t => bdR (h1 h) fun r1 _ _ k1 => ?_
    dsimp only
    split
    · exact OL.i' (bdL (w_ownL k1 i) fun t => OL.eq fun p => OL.em fun y => ⟨rfl, k1.set i rfl⟩)
    · exact OL.no
  | .isi a ts, _, _, h => by
    have h1 := @qE a
    simp only [evE]
    exact bdR (h1 h) fun r1 _ _ k1 => OL.mp (w_rd k1 r1) fun a b q => ⟨by rw [show a = b from q]; rfl, k1⟩
  | .ix a i, _, _, h => by
    have h1 := @qE a; have h2 := @qE i
    simp only [evE]
    exact bdR (h1 h) fun r1 _ _ k1 => bdR (h2 k1) fun r2 _ _ k2 => bdV (w_rd k2 r1) fun x => bdV (w_rd k2 r2) fun y => OL.em fun z => ⟨rfl, k2⟩
  | .slc a lo hi, _, _, h => by
    have h1 := @qE a; have h2 := @qEo lo; have h3 := @qEo hi
    simp only [evE]
    exact bdR (h1 h) fun r1 _ _ k1 => bdO (h2 k1) fun l _ _ k2 => bdO (h3 k2) fun u _ _ k3 => bdV (w_rd k3 r1) fun x => OL.eq fun z => w_val k3
  | .lst es, _, _, h => by
    have h1 := @qEd es
    simp only [evE]
    exact bdRs (h1 h) fun rs _ _ k1 => bdDs (w_fzAll rs k1) fun ds _ _ k2 => OL.i' (OL.so ⟨rfl, k2⟩)
  | .tup es, _, _, h => by
    have h1 := @qEd es
    simp only [evE]
    exact bdRs (h1 h) fun rs _ _ k1 => bdDs (w_fzAll rs k1) fun ds _ _ k2 => OL.i' (OL.so ⟨rfl, k2⟩)
  | .dct, _, _, h => by simp only [evE]; exact OL.so ⟨rfl, h⟩
  | .dctK, _, _, h => by simp only [evE]; exact OL.so ⟨rfl, h⟩
  | .dctK1 _ _, _, _, h => by simp only [evE]; exact OL.eq fun _ => OL.i' (OL.so ⟨rfl, h⟩)
  | .rev a, _, _, h => by
    have h1 := @qE a
    simp only [evE]
    exact bdR (h1 h) fun r1 _ _ k1 => bdV (w_rd k1 r1) fun x => OL.eq fun z => w_val k1
  | .setOf _, _, _, h => by simp only [evE]; exact OL.no
  | .srt a, _, _, h => by
    have h1 := @qE a
    simp only [evE]
    exact bdR (h1 h) fun r1 _ _ k1 => bdV (w_rd k1 r1) fun x => OL.eq fun z => w_val k1
  | .sset a, _, _, h => by
    have h1 := @qE a
    simp only [evE]
    exact bdR (h1 h) fun r1 _ _ k1 => bdV (w_rd k1 r1) fun x => OL.eq fun z => w_val k1
  | .lset a, _, _, h => by
    have h1 := @qE a
    simp only [evE]
    exact bdR (h1 h) fun r1 _ _ k1 => bdV (w_rd k1 r1) fun x => OL.eq fun z => w_val k1
  | .comp own tg it c e, _, _, h => by
    have h1 := @qI it; have h2 := @qC c; have h3 := @qE e
    simp only [evE]
    refine bdDs (h1 h) fun xs _ _ k1 => bdDs (w_loopC (fun x en en' k => ?_) xs k1) fun ys _ _ k6 => OL.i' (OL.so ⟨rfl, w_back k1 k6 own⟩)
    refine OL.bd (w_bindT (w_wipe k own) tg x) fun _ _ k2 => bdB (h2 k2) fun c _ _ k3 => OL.if (bdR (h3 k3) fun r _ _ k4 => ?_) (OL.so ⟨rfl, k3⟩)
    exact mpP (fun _ _ q => q) (w_fz k4 r) fun d e e' q => ⟨rfl, q⟩
  | .comp2 own own1 tg it c tg1 it1 c1 e, _, _, h => by
    have h1 := @qI it; have h2 := @qC c; have h3 := @qE e; have h4 := @qI it1; have h5 := @qC c1
    simp only [evE]
    refine bdDs (h1 h) fun xs _ _ k1 => bdDs (w_loopC (fun x en en' k => ?_) xs k1) fun ys _ _ k9 => OL.i' (OL.so ⟨rfl, w_back k1 k9 own⟩)
    refine OL.bd (w_bindT (w_wipe k own) tg x) fun _ _ k2 => bdB (h2 k2) fun c _ _ k3 => OL.if (bdDs (h4 k3) fun xs1 _ _ k4 => w_loopC (fun x1 en1 en1' k => ?_) xs1 k4) (OL.so ⟨rfl, k3⟩)
    refine OL.bd (w_bindT (w_wipe k own1) tg1 x1) fun _ _ k5 => bdB (h5 k5) fun c1 _ _ k6 => OL.if (bdR (h3 k6) fun r _ _ k7 => ?_) (OL.so ⟨rfl, k6⟩)
    exact mpP (fun _ _ q => q) (w_fz k7 r) fun d e e' q => ⟨rfl, q⟩
theorem qT : ∀ (e : E) {env env' : Env}, LeE env env' → OL (evT cf io e env) (evT cf io e env')
  | .not a, _, _, h => by
    have h1 := @qT a
    simp only [evT]
    exact mpP (fun _ _ q => q) (h1 h) fun d e e' q => ⟨rfl, q⟩
  | .and a b, _, _, h => by
    have h1 := @qT a; have h2 := @qT b
    simp only [evT]
    exact bdB (h1 h) fun c _ _ k => OL.if (h2 k) (OL.so ⟨rfl, k⟩)
  | .or a b, _, _, h => by
    have h1 := @qT a; have h2 := @qT b
    simp only [evT]
    exact bdB (h1 h) fun c _ _ k => OL.if (OL.so ⟨rfl, k⟩) (h2 k)
  | .bad, _, _, h => by simp only [evT]; exact OL.no
  | .cst _, _, _, h => by simp only [evT]; exact OL.no
  | .var i, _, _, h => by
    simp only [evT]
    refine OL.bd (w_slotR h i) fun a b q => ?_
    cases (show a = b from q)
    exact bdV (w_rd h a) fun x => OL.em fun z => ⟨rfl, h⟩
  | .cmp op a b, _, _, h => by
    have h1 := @qE a; have h2 := @qE b
    simp only [evT]
    exact bdR (h1 h) fun r1 _ _ k1 => bdR (h2 k1) fun r2 _ _ k2 => bdV (w_rd k2 r1) fun x => bdV (w_rd k2 r2) fun y => OL.em fun z => ⟨rfl, k2⟩
  | .cmp2 op op' a b c, _, _, h => by
    have h1 := @qE a; have h2 := @qE b; have h3 := @qE c
    simp only [evT]
    refine bdR (h1 h) fun r1 _ _ k1 => bdR (h2 k1) fun r2 _ _ k2 => ?_
    dsimp only
    split
    · exact OL.eq fun k => OL.if (bdR (h3 k2) fun r3 _ _ k3 => bdV (w_rd k3 r3) fun z => OL.em fun _ => ⟨rfl, k3⟩) (OL.so ⟨rfl, k2⟩)
    · exact OL.no
  | .isi a ts, _, _, h => by
    have h1 := @qE a
    simp only [evT]
    exact bdR (h1 h) fun r1 _ _ k1 => OL.mp (w_rd k1 r1) fun a b q => ⟨by rw [show a = b from q]; rfl, k1⟩
  | .call f args, _, _, h => by
    have h1 := @qEs args
    simp only [evT]
    exact bdRs (h1 h) fun rs _ _ k1 => bdA (w_argsOf _ rs k1) fun ds _ _ is k2 => OL.eq fun t => OL.bd (w_putBack is _ k2) fun a b q => OL.em fun z => ⟨rfl, q⟩
  | .callK f args kws perm, _, _, h => by
    have h1 := @qEs args; have h2 := @qEs kws
    simp only [evT]
    exact bdRs (h1 h) fun rs _ _ k1 => bdDs (w_fzAll rs k1) fun ds _ _ k2 => bdRs (h2 k2) fun rs2 _ _ k3 => bdDs (w_fzAll rs2 k3) fun ds2 _ _ k4 => OL.eq fun t => OL.em fun z => ⟨rfl, k4⟩
  | .blt b args, _, _, h => by
    have h1 := @qEs args
    simp only [evT]
    exact bdRs (h1 h) fun rs _ _ k1 => bdVs (w_rdAll k1 rs) fun ds => OL.eq fun t => OL.em fun z => ⟨rfl, k1⟩
  | .mth m o args, _, _, h => by
    have h1 := @qE o; have h2 := @qEs args
    simp only [evT]
    refine bdR (h1 h) fun r1 _ _ k1 => ?_
    dsimp only
    split
    · exact bdRs (h2 k1) fun rs _ _ k2 => bdVs (w_rdAll k2 rs) fun ds => OL.eq fun t => OL.em fun z => ⟨rfl, k2⟩
    · exact OL.no
  | .ix a i, _, _, h => by
    have h1 := @qE a; have h2 := @qE i
    simp only [evT]
    exact bdR (h1 h) fun r1 _ _ k1 => bdR (h2 k1) fun r2 _ _ k2 => bdV (w_rd k2 r1) fun x => bdV (w_rd k2 r2) fun y => OL.eq fun d => OL.em fun z => ⟨rfl, k2⟩
  | .neg a, _, _, h => by simp only [evT]; exact OL.no
  | .ife c a b, _, _, h => by simp only [evT]; exact OL.no
  | .pop i, _, _, h => by simp only [evT]; exact OL.no
  | .popAt i k, _, _, h => by simp only [evT]; exact OL.no
  | .slc a lo hi, _, _, h => by simp only [evT]; exact OL.no
  | .lst es, _, _, h => by simp only [evT]; exact OL.no
  | .tup es, _, _, h => by simp only [evT]; exact OL.no
  | .dct, _, _, h => by simp only [evT]; exact OL.no
  | .dctK, _, _, h => by simp only [evT]; exact OL.no
  | .dctK1 _ _, _, _, h => by simp only [evT]; exact OL.no
  | .rev _, _, _, h => by simp only [evT]; exact OL.no
  | .setOf _, _, _, h => by simp only [evT]; exact OL.no
  | .srt _, _, _, h => by simp only [evT]; exact OL.no
  | .sset _, _, _, h => by simp only [evT]; exact OL.no
  | .lset _, _, _, h => by simp only [evT]; exact OL.no
  | .bin op a b, _, _, h => by simp only [evT]; exact OL.no
  | .comp own tg it c e, _, _, h => by simp only [evT]; exact OL.no
  | .comp2 own own1 tg it c tg1 it1 c1 e, _, _, h => by simp only [evT]; exact OL.no
theorem qEs : ∀ (e : Es) {env env' : Env}, LeE env env' → OL (evEs cf io e env) (evEs cf io e env')
  | .nil, _, _, h => by simp only [evEs]; exact OL.so ⟨rfl, h⟩
  | .cons e es, _, _, h => by
    have h1 := @qE e; have h2 := @qEs es
    simp only [evEs]
    exact bdR (h1 h) fun r _ _ k => mpP (fun _ _ q => q) (h2 k) fun d e e' q => ⟨rfl, q⟩
  | .star _ _, _, _, h => by simp only [evEs]; exact OL.no
theorem qEd : ∀ (e : Es) {env env' : Env}, LeE env env' → OL (evEd cf io e env) (evEd cf io e env')
  | .nil, _, _, h => by simp only [evEd]; exact OL.so ⟨rfl, h⟩
  | .cons e es, _, _, h => by
    have h1 := @qE e; have h2 := @qEd es
    simp only [evEd]
    exact bdR (h1 h) fun r _ _ k => mpP (fun _ _ q => q) (h2 k) fun d e e' q => ⟨rfl, q⟩
  | .star e es, _, _, h => by
    have h1 := @qE e; have h2 := @qEd es
    simp only [evEd]
    exact bdR (h1 h) fun r1 _ _ k1 => bdV (w_rd k1 r1) fun x => OL.eq fun xs => mpP (fun _ _ q => q) (h2 k1) fun d e e' q => ⟨rfl, q⟩
theorem qEo : ∀ (e : Eo) {env env' : Env}, LeE env env' → OL (evEo cf io e env) (evEo cf io e env')
  | .no, _, _, h => by simp only [evEo]; exact OL.so ⟨rfl, h⟩
  | .yes e, _, _, h => by
    have h1 := @qE e
    simp only [evEo]
    refine bdR (h1 h) fun r1 _ _ k1 => ?_
    dsimp only
    split
    · exact OL.so ⟨rfl, k1⟩
    · exact OL.no
theorem qC : ∀ (e : Eo) {env env' : Env}, LeE env env' → OL (evC cf io e env) (evC cf io e env')
  | .no, _, _, h => by simp only [evC]; exact OL.so ⟨rfl, h⟩
  | .yes e, _, _, h => by
    have h1 := @qT e
    simp only [evC]
    exact h1 h
theorem qI : ∀ (e : It) {env env' : Env}, LeE env env' → OL (evI cf io e env) (evI cf io e env')
  | .seq e, _, _, h => by
    have h1 := @qE e
    simp only [evI]
    exact bdR (h1 h) fun r _ _ k => bdD (w_fz k r) fun d _ _ k2 => OL.em fun z => ⟨rfl, k2⟩
  | .range1 a, _, _, h => by
    have h1 := @qE a
    simp only [evI]
    refine bdR (h1 h) fun r _ _ k => ?_
    dsimp only
    split
    · exact OL.i' (OL.so ⟨rfl, k⟩)
    · exact OL.no
  | .range2 a b, _, _, h => by
    have h1 := @qE a; have h2 := @qE b
    simp only [evI]
    refine bdR (h1 h) fun r _ _ k => bdR (h2 k) fun r2 _ _ k2 => ?_
    dsimp only
    split
    · exact OL.i' (OL.so ⟨rfl, k2⟩)
    · exact OL.no
  | .range3 a b c, _, _, h => by
    have h1 := @qE a; have h2 := @qE b; have h3 := @qE c
    simp only [evI]
    refine bdR (h1 h) fun r _ _ k => bdR (h2 k) fun r2 _ _ k2 => bdR (h3 k2) fun r3 _ _ k3 => ?_
    dsimp only
    split
    · exact OL.i' (OL.so ⟨rfl, k3⟩)
    · exact OL.no
  | .enum e, _, _, h => by
    have h1 := @qE e
    simp only [evI]
    refine bdR (h1 h) fun r _ _ k => bdD (w_fz k r) fun d _ _ k2 => ?_
    dsimp only
    split
    · exact OL.so ⟨rfl, k2⟩
    · exact OL.so ⟨rfl, k2⟩
    · exact OL.no
  | .zip a b, _, _, h => by
    have h1 := @qE a; have h2 := @qE b
    simp only [evI]
    refine bdR (h1 h) fun r _ _ k => bdR (h2 k) fun r2 _ _ k2 => bdD (w_fz k2 r) fun d _ _ k3 => bdD (w_fz k3 r2) fun d2 _ _ k4 => ?_
    dsimp only
    split
    · exact OL.so ⟨rfl, k4⟩
    · exact OL.so ⟨rfl, k4⟩
    · exact OL.no
end
end
end Ev.Pl


set_option Elab.async false
set_option linter.all false
set_option maxRecDepth 100000
set_option maxHeartbeats 1000000
/-! Plain laws: statements run from less known slots; loops over typed lists. -/
namespace Ev.Pl
open PySem PySem.Spec PyProof.Rows L2
section
variable {cf : CallF} {io : Nat → List Bool}
theorem w_forF {tg : Tg} {b : Env → Option Out} (hb : ∀ e e', LeE e e' → OL (b e) (b e')) : ∀ (xs : List D) {env env' : Env}, LeE env env' → OL (forF tg b xs env) (forF tg b xs env')
  | [], _, _, h => OL.so (.nx h)
  | x :: r, _, _, h => by
    rw [forF, forF]
    refine OL.bd (w_bindT h tg x) fun _ _ k => OL.bd (hb _ _ k) fun o o' q => ?_
    cases (show LeO o o' from q) with
    | nx l => exact w_forF hb r l
    | ct l => exact w_forF hb r l
    | bk l => exact OL.so (.nx l)
    | rt l => exact OL.so (.rt l)
theorem w_whileF {c : Env → Option (Bool × Env)} {b : Env → Option Out} (hc : ∀ e e', LeE e e' → OL (c e) (c e')) (hb : ∀ e e', LeE e e' → OL (b e) (b e')) : ∀ (n : Nat) {env env' : Env}, LeE env env' → OL (whileF c b n env) (whileF c b n env')
  | 0, _, _, h => OL.no
  | n + 1, _, _, h => by
    rw [whileF, whileF]
    refine bdB (hc _ _ h) fun k _ _ q => OL.if (OL.bd (hb _ _ q) fun o o' q => ?_) (OL.so (.nx q))
    cases (show LeO o o' from q) with
    | nx l => exact w_whileF hc hb n l
    | ct l => exact w_whileF hc hb n l
    | bk l => exact OL.so (.nx l)
    | rt l => exact OL.so (.rt l)
theorem bdOut {β : Type} [Wk β] {x y : Option Env} {f g : Env → Option β} (h : OL x y) (k : ∀ e e', LeE e e' → OL (f e) (g e')) : OL (x.bind f) (y.bind g) := OL.bd h k
theorem qS : ∀ (s : S) {env env' : Env}, LeE env env' → OL (evS cf io s env) (evS cf io s env')
  | .bad, _, _, h => by simp only [evS]; exact OL.no
  | .pass, _, _, h => by simp only [evS]; exact OL.so (.nx h)
  | .brk, _, _, h => by simp only [evS]; exact OL.so (.bk h)
  | .cnt, _, _, h => by simp only [evS]; exact OL.so (.ct h)
  | .expr e, _, _, h => by
    simp only [evS]
    exact mpP (fun _ _ q => q) (qE e h) fun r _ _ k => LeO.nx k
  | .app i e, _, _, h => by
    simp only [evS]
    exact bdL (w_ownL h i) fun _ => bdR (qE e h) fun r _ _ k => bdD (w_fz k r) fun d _ _ k2 => bdL (w_ownL k2 i) fun t => OL.i' (OL.so (.nx (k2.set i rfl)))
  | .ext i e, _, _, h => by
    simp only [evS]
    exact bdL (w_ownL h i) fun _ => bdR (qE e h) fun r _ _ k => bdVs (w_extD k r i) fun ys => bdL (w_ownL k i) fun t => OL.i' (OL.so (.nx (k.set i rfl)))
  | .set i e, _, _, h => by
    simp only [evS]
    exact bdR (qE e h) fun r _ _ k => OL.mp (w_storeR k r i) fun a b q => LeO.nx q
  | .asg tg e, _, _, h => by
    simp only [evS]
    exact bdR (qE e h) fun r _ _ k => bdD (w_fz k r) fun d _ _ k2 => OL.mp (w_bindT k2 tg d) fun a b q => LeO.nx q
  | .par2 i j a b, _, _, h => by
    simp only [evS]
    exact bdR (qE a h) fun r1 _ _ k1 => bdR (qE b k1) fun r2 _ _ k2 => bdR (w_frz k2 r1) fun q1 _ _ k3 => bdR (w_frz k3 r2) fun q2 _ _ k4 => OL.bd (w_storeR k4 q1 i) fun _ _ k5 => OL.mp (w_storeR k5 q2 j) fun a b q => LeO.nx q
  | .par3 i j k a b c, _, _, h => by
    simp only [evS]
    exact bdR (qE a h) fun r1 _ _ k1 => bdR (qE b k1) fun r2 _ _ k2 => bdR (qE c k2) fun r3 _ _ k3 => bdR (w_frz k3 r1) fun q1 _ _ k4 => bdR (w_frz k4 r2) fun q2 _ _ k5 => bdR (w_frz k5 r3) fun q3 _ _ k6 =>
      OL.bd (w_storeR k6 q1 i) fun _ _ k7 => OL.bd (w_storeR k7 q2 j) fun _ _ k8 => OL.mp (w_storeR k8 q3 k) fun a b q => LeO.nx q
  | .put i kk v, _, _, h => by
    simp only [evS]
    refine bdR (qE v h) fun r _ _ k => bdU (w_hasS k i) fun _ => bdR (qE kk k) fun rk _ _ k2 => bdV (w_rd k2 rk) fun kd => bdD (w_fz k2 r) fun d e3 e3' k3 => ?_
    have hl := w_ownL k3 i
    have hk := w_ownK k3 i
    cases q : ownL e3 i with
    | some t =>
      obtain ⟨xs, f⟩ := t
      obtain ⟨b, q', q2⟩ := hl _ q
      obtain ⟨xs', f'⟩ := b
      obtain ⟨q3, q4⟩ := q2
      cases (show xs = xs' from q3)
      cases (show f = f' from q4)
      rw [q']
      cases kd <;> first | exact OL.no | exact OL.em fun p => LeO.nx (k3.set i rfl)
    | none =>
      cases q0 : ownK e3 i with
      | none => cases kd <;> exact OL.no
      | some t =>
        obtain ⟨xs, f⟩ := t
        obtain ⟨b, q', q2⟩ := hk _ q0
        obtain ⟨xs', f'⟩ := b
        obtain ⟨q3, q4⟩ := q2
        cases (show xs = xs' from q3)
        cases (show f = f' from q4)
        have q5 : ownL e3' i = none := by
          have z : ∃ x, e3'[i]? = some (some (.dict xs, x)) := by
            unfold ownK at q'
            split at q' <;> first | cases q' | skip
            · rename_i z; exact ⟨_, z⟩
            · rename_i z; exact ⟨_, z⟩
          obtain ⟨x, z⟩ := z
          unfold ownL
          rw [z]
        rw [q5, q']
        cases kd <;> exact OL.eq fun kvs => OL.eq fun kvs' => OL.i' (OL.so (LeO.nx (k3.set i rfl)))
  | .aug op i e, _, _, h => by
    simp only [evS]
    refine bdU (w_hasS h i) fun _ => bdR (qE e h) fun r e1 e1' k => ?_
    dsimp only
    split
    · rename_i y f x q
      rw [k.at q]
      cases op <;> first | exact OL.no | exact OL.so (.nx (k.set i rfl))
    · exact OL.no
  | .ret e, _, _, h => by
    simp only [evS]
    exact mpP (fun _ _ q => q) (qE e h) fun r _ _ k => LeO.rt k
  | .retN, _, _, h => by simp only [evS]; exact OL.so (.rt h)
  | .ite c a b, _, _, h => by
    have h1 := @qS a; have h2 := @qS b
    simp only [evS]
    exact bdB (qT c h) fun p _ _ k => OL.if (h1 k) (h2 k)
  | .for_ tg it b, _, _, h => by
    have h1 := @qS b
    simp only [evS]
    exact bdDs (qI it h) fun xs _ _ k => w_forF (fun _ _ k => h1 k) xs k
  | .while_ c b, _, _, h => by
    have h1 := @qS b
    simp only [evS]
    exact w_whileF (fun _ _ k => qT c k) (fun _ _ k => h1 k) _ h
  | .seq a b, _, _, h => by
    have h1 := @qS a; have h2 := @qS b
    simp only [evS]
    refine OL.bd (h1 h) fun o o' q => ?_
    cases (show LeO o o' from q) with
    | nx l => exact h2 l
    | bk l => exact OL.so (.bk l)
    | ct l => exact OL.so (.ct l)
    | rt l => exact OL.so (.rt l)
/-- x ends, and Q holds of an end of which less is known -/
structure wW (x : Option Out) (Q : Out → Prop) : Prop where
  ex : ∃ o o', x = some o ∧ LeO o' o ∧ Q o'
theorem vW_of {x : Option Out} {Q : Out → Prop} (h : wO x Q) : wW x Q := by
  obtain ⟨o, e, q⟩ := h.ex
  exact ⟨o, o, e, LeO.rf o, q⟩
variable {env : Env} {Q : Out → Prop}
/-- less may be known from here on -/
theorem vW_weak {s : S} {e0 : Env} (h : LeE e0 env) (k : wW (evS cf io s e0) Q) : wW (evS cf io s env) Q := by
  obtain ⟨o, o', e, l, q⟩ := k.ex
  obtain ⟨o2, e2, l2⟩ := qS s h o e
  exact ⟨o2, o', e2, l.tr l2, q⟩
theorem vS_seq {a b : S} (h : wW (evS cf io a env) (sq Q fun e1 => wW (evS cf io b e1) Q)) : wW (evS cf io (.seq a b) env) Q := by
  obtain ⟨o, o', e, l, q⟩ := h.ex
  rw [evS, e]
  cases l with
  | nx l => exact vW_weak l q
  | bk l => exact ⟨_, _, rfl, .bk l, q⟩
  | ct l => exact ⟨_, _, rfl, .ct l, q⟩
  | rt l => exact ⟨_, _, rfl, .rt l, q⟩
theorem vS_ite {c : E} {a b : S} (h : wP (evT cf io c env) fun k e1 => wI k (wW (evS cf io a e1) Q) (wW (evS cf io b e1) Q)) : wW (evS cf io (.ite c a b) env) Q := by
  obtain ⟨k, e1, e, q⟩ := h.ex
  rw [evS, e]
  cases k with
  | true => exact q.tt rfl
  | false => exact q.ff rfl
/-- for tg in it: over the pictures of typed things; the slots by a state s -/
theorem vW_forF {α σ : Type} {tg : Tg} {b : S} (φ : α → D) (E : σ → Env) (P : List α → List α → σ → Prop) : ∀ (rest done : List α) (s : σ) {env : Env}, LeE (E s) env → P done rest s →
    (∀ d x r s, d ++ x :: r = done ++ rest → P d (x :: r) s → wO (bindT tg (φ x) (E s)) fun e2 => wW (evS cf io b e2) (lq Q fun e3 => ∃ s', LeE (E s') e3 ∧ P (d ++ [x]) r s')) →
    (∀ s, P (done ++ rest) [] s → Q (.nx (E s))) → wW (forF tg (evS cf io b) (rest.map φ) env) Q
  | [], done, s, env, hl, hp, h1, h2 => ⟨.nx env, .nx (E s), rfl, .nx hl, h2 s (by rw [List.append_nil]; exact hp)⟩
  | x :: r, done, s, env, hl, hp, h1, h2 => by
    rw [List.map_cons, forF]
    obtain ⟨e2, q2, h⟩ := (h1 done x r s rfl hp).ex
    obtain ⟨e2', q2', l2⟩ := w_bindT hl tg (φ x) _ q2
    rw [q2']
    show wW (Option.bind (evS cf io b e2') _) Q
    obtain ⟨o, o', e, l, q⟩ := (vW_weak l2 h).ex
    rw [e]
    have go : ∀ {e3 e4 : Env}, LeE e3 e4 → (∃ s', LeE (E s') e3 ∧ P (done ++ [x]) r s') → wW (forF tg (evS cf io b) (r.map φ) e4) Q := fun le hq => by
      obtain ⟨s', l', p'⟩ := hq
      have ea : done ++ [x] ++ r = done ++ x :: r := by simp
      exact vW_forF φ E P r (done ++ [x]) s' (l'.tr le) p' (fun d y r' s e => h1 d y r' s (by rw [e, ea])) (fun s hs => h2 s (by rw [← ea]; exact hs))
    cases l with
    | nx l => exact go l q
    | ct l => exact go l q
    | bk l => exact ⟨_, _, rfl, .nx l, q⟩
    | rt l => exact ⟨_, _, rfl, .rt l, q⟩
theorem vS_for {α σ : Type} {tg : Tg} {it : It} {b : S} (L : List α) (φ : α → D) (E : σ → Env) (P : List α → List α → σ → Prop) (s0 : σ)
    (h : wP (evI cf io it env) fun xs e1 => xs = L.map φ ∧ LeE (E s0) e1 ∧ P [] L s0 ∧
      (∀ d x r s, d ++ x :: r = L → P d (x :: r) s → wO (bindT tg (φ x) (E s)) fun e2 => wW (evS cf io b e2) (lq Q fun e3 => ∃ s', LeE (E s') e3 ∧ P (d ++ [x]) r s')) ∧
      (∀ s, P L [] s → Q (.nx (E s)))) : wW (evS cf io (.for_ tg it b) env) Q := by
  obtain ⟨xs, e1, e0, rfl, hl, hp, h1, h2⟩ := h.ex
  rw [evS, e0]
  exact vW_forF φ E P L [] s0 hl hp h1 h2
theorem vW_whileF {σ : Type} {c : E} {b : S} (E : σ → Env) (P : Nat → σ → Prop) (h1 : ∀ k s, P k s → wP (evT cf io c (E s)) fun p e => wI p (wW (evS cf io b e) (lq Q fun e2 => ∃ k' s', k' < k ∧ LeE (E s') e2 ∧ P k' s')) (Q (.nx e))) :
    ∀ (f k : Nat) (s : σ) {env : Env}, k < f → LeE (E s) env → P k s → wW (whileF (evT cf io c) (evS cf io b) f env) Q
  | 0, k, _, _, hk, _, _ => absurd hk (Nat.not_lt_zero _)
  | f + 1, k, s, env, hk, hl, hp => by
    rw [whileF]
    obtain ⟨p, e1, q1, h⟩ := (h1 k s hp).ex
    obtain ⟨pe, q1', l1⟩ := qT c hl _ q1
    obtain ⟨p', e1'⟩ := pe
    obtain ⟨l0, l1⟩ := l1
    cases (show p = p' from l0)
    rw [q1']
    cases p with
    | false => exact ⟨_, _, rfl, .nx l1, h.ff rfl⟩
    | true =>
      show wW (Option.bind (evS cf io b e1') _) Q
      obtain ⟨o, o', e, l, q⟩ := (vW_weak l1 (h.tt rfl)).ex
      rw [e]
      cases l with
      | nx l =>
        obtain ⟨k', s', hk', l', p'⟩ := q
        exact vW_whileF E P h1 f k' s' (by omega) (l'.tr l) p'
      | ct l =>
        obtain ⟨k', s', hk', l', p'⟩ := q
        exact vW_whileF E P h1 f k' s' (by omega) (l'.tr l) p'
      | bk l => exact ⟨_, _, rfl, .nx l, q⟩
      | rt l => exact ⟨_, _, rfl, .rt l, q⟩
theorem vS_while {σ : Type} {c : E} {b : S} (E : σ → Env) (P : Nat → σ → Prop) (k0 : Nat) (s0 : σ) (hk : k0 < FUEL) (hl : LeE (E s0) env) (hp : P k0 s0)
    (h1 : ∀ k s, P k s → wP (evT cf io c (E s)) fun p e => wI p (wW (evS cf io b e) (lq Q fun e2 => ∃ k' s', k' < k ∧ LeE (E s') e2 ∧ P k' s')) (Q (.nx e))) : wW (evS cf io (.while_ c b) env) Q := by
  rw [evS]
  exact vW_whileF E P h1 FUEL k0 s0 hk hl hp
theorem w_outsOf : ∀ (ms : List Bool) {e e' : Env}, LeE e e' → OL (outsOf ms e) (outsOf ms e')
  | [], _, _, _ => OL.so rfl
  | false :: ms, _, _, .cons _ t => by
    rw [outsOf, outsOf]
    exact w_outsOf ms t
  | true :: ms, a :: e, b :: e', .cons s t => by
    cases a with
    | none => exact OL.no
    | some x =>
      cases (show b = some x from s)
      obtain ⟨d, f⟩ := x
      cases f with
      | io =>
        rw [outsOf, outsOf]
        exact OL.mp (w_outsOf ms t) fun a b q => by rw [show a = b from q]; rfl
      | sh => exact OL.no
      | ow => exact OL.no
  | false :: _, _, _, .nil => OL.no
  | true :: _, _, _, .nil => OL.no
theorem w_endR {ms : List Bool} {r : R} {e e' : Env} (h : LeE e e') {x : D × Fl × List D} (q : endR ms r e = some x) : endR ms r e' = some x := by
  cases r with
  | v d f =>
    rw [endR, Option.map_eq_some_iff] at q ⊢
    obtain ⟨os, q1, q2⟩ := q
    obtain ⟨b, e1, e2⟩ := w_outsOf ms h os q1
    cases (show os = b from e2)
    exact ⟨os, e1, q2⟩
  | s i =>
    unfold endR at q ⊢
    dsimp only at q ⊢
    split at q
    · rename_i d z
      rw [h.at z]
      rw [Option.map_eq_some_iff] at q
      obtain ⟨os, q1, q2⟩ := q
      obtain ⟨b, e1, e2⟩ := w_outsOf ms h os q1
      cases (show os = b from e2)
      show (outsOf ms e').map _ = _
      rw [e1]
      exact congrArg some q2
    · cases q
theorem vO_fn {sz : Nat} {ms : List Bool} {b : S} {ds : List D} {Q : D → Fl → List D → Prop} (hl : ds.length = ms.length)
    (h : wW (evS cf io b (startE sz ms ds)) (fnQ ms Q)) : wT (runFn cf io ⟨sz, ms, b⟩ ds) Q := by
  obtain ⟨o, o', e, l, q⟩ := h.ex
  unfold runFn
  rw [if_pos hl, e]
  cases l with
  | bk l => exact q.elim
  | ct l => exact q.elim
  | nx l =>
    obtain ⟨a, b, c, e1, q1⟩ := (show wT _ _ from q).ex
    exact ⟨a, b, c, w_endR l e1, q1⟩
  | rt l =>
    obtain ⟨a, b, c, e1, q1⟩ := (show wT _ _ from q).ex
    exact ⟨a, b, c, w_endR l e1, q1⟩
end

/-! ### comprehensions -/
section
variable {cf : CallF} {io : Nat → List Bool} {env : Env} {Q : R → Env → Prop}
theorem back_wipe {old en : Env} {own : List Nat} : backE old en own = backE old (wipeE en own) own := by
  apply List.ext_getElem?
  intro i
  rw [backE_get, backE_get, wipeE_length, wipeE_get]
  by_cases c : i < en.length ∧ i ∈ own
  · rw [if_pos c, if_pos c]
  · rw [if_neg c, if_neg c, if_neg c]
theorem wipe_sub {a b : Env} {own own1 : List Nat} (h : ∀ i ∈ own1, i ∈ own) (e : wipeE a own1 = wipeE b own1) : wipeE a own = wipeE b own := by
  have hl : a.length = b.length := wipe_len e
  apply List.ext_getElem?
  intro i
  rw [wipeE_get, wipeE_get, hl]
  by_cases c : i < b.length ∧ i ∈ own
  · rw [if_pos c, if_pos c]
  · rw [if_neg c, if_neg c]
    have hi := congrArg (fun z => z[i]?) e
    simp only [wipeE_get] at hi
    have c1 : ¬ (i < b.length ∧ i ∈ own1) := fun z => c ⟨z.1, h _ z.2⟩
    rw [hl, if_neg c1, if_neg c1] at hi
    exact hi
/-- [e for tg in it if c] over the pictures of typed things, the slots (the block's own ones wiped) by a state s -/
theorem vE_comp {α σ : Type} {own : List Nat} {tg : Tg} {it : It} {c : Eo} {e : E} (L : List α) (φ : α → D) (E : σ → Env) (P : List α → List α → List D → σ → Prop) (s0 : σ)
    (h : wP (evI cf io it env) fun xs e1 => xs = L.map φ ∧ wipeE e1 own = E s0 ∧ P [] L [] s0 ∧
      (∀ d x r o s, d ++ x :: r = L → P d (x :: r) o s → wO (bindT tg (φ x) (E s)) fun e2 => wP (evC cf io c e2) fun k e3 => wI k (wP (evE cf io e e3) fun q e4 => wP (fz q e4) fun y e5 => ∃ s', wipeE e5 own = E s' ∧ P (d ++ [x]) r (o ++ [y]) s') (∃ s', wipeE e3 own = E s' ∧ P (d ++ [x]) r o s')) ∧
      (∀ o s, P L [] o s → wG (o.length ≤ LINE) (Q (.v (.list o) .ow) (backE e1 (E s) own)))) : wP (evE cf io (.comp own tg it c e) env) Q := by
  refine wE_comp (h.imp fun xs e1 h => ?_)
  obtain ⟨h1, h2, h3, h4, h5⟩ := h
  refine ⟨fun rest out en => ∃ d r s, d ++ r = L ∧ rest = r.map φ ∧ wipeE en own = E s ∧ P d r out s, ⟨[], L, s0, rfl, h1, h2, h3⟩, ?_, ?_⟩
  · rintro x r o en ⟨d, r', s, hL, e2, hw, hp⟩
    cases r' with
    | nil => cases e2
    | cons y r' =>
      rw [List.map_cons] at e2
      obtain ⟨rfl, rfl⟩ := List.cons.inj e2
      rw [hw]
      have hL' : (d ++ [y]) ++ r' = L := by rw [← hL]; simp
      refine (h4 d y r' o s hL hp).imp fun e2 h => h.imp fun k e3 h => ⟨fun hk => (h.tt hk).imp fun q e4 h => h.imp fun z e5 h => ?_, fun hk => ?_⟩
      · obtain ⟨s', a, b⟩ := h
        exact ⟨d ++ [y], r', s', hL', rfl, a, b⟩
      · obtain ⟨s', a, b⟩ := h.ff hk
        exact ⟨d ++ [y], r', s', hL', rfl, a, b⟩
  · rintro ys en ⟨d, r', s, hL, e2, hw, hp⟩
    cases r' with
    | cons y r' => cases e2
    | nil =>
      rw [List.append_nil] at hL
      subst hL
      rw [back_wipe, hw]
      have := h5 ys s hp
      exact ⟨this.c, this.q⟩
theorem wP_loopP {α : Type} {f : D → Env → Option (List D × Env)} (base : Env → Prop) (φ : α → D) (h : α → List D) : ∀ (L : List α) {env : Env}, base env → (∀ x ∈ L, ∀ en, base en → wP (f (φ x) en) fun ys e => ys = h x ∧ base e) →
    wP (loopC f (L.map φ) env) fun ys e => ys = L.flatMap h ∧ base e
  | [], _, hb, _ => ⟨_, _, rfl, rfl, hb⟩
  | x :: L, _, hb, st => by
    rw [List.map_cons, loopC]
    refine bPP ((st x (List.mem_cons_self ..) _ hb).imp fun ys e1 hx => mPP ((wP_loopP base φ h L hx.2 fun y hy => st y (List.mem_cons_of_mem _ hy)).imp fun zs e2 hz => ?_))
    exact ⟨by rw [List.flatMap_cons, ← hx.1, ← hz.1], hz.2⟩
/-- [e for a in it if c for b in it1 if c1] that changes nothing -/
theorem vE_comp2 {α β : Type} {own own1 : List Nat} {tg tg1 : Tg} {it it1 : It} {c c1 : Eo} {e : E} (L : List α) (φ : α → D) (q : α → Bool) (M : α → List β) (ψ : α → β → D) (p : α → β → Bool) (g : α → β → D) (hs : ∀ i ∈ own1, i ∈ own)
    (h : wP (evI cf io it env) fun xs e1 => xs = L.map φ ∧ ((L.filter q).flatMap fun x => ((M x).filter (p x)).map (g x)).length ≤ LINE ∧
      (∀ x ∈ L, wO (bindT tg (φ x) (wipeE e1 own)) fun e2 => wP (evC cf io c e2) fun k e3 => k = q x ∧ wipeE e3 own = wipeE e1 own ∧ (q x = true → wP (evI cf io it1 e3) fun ys e4 => ys = (M x).map (ψ x) ∧ wipeE e4 own = wipeE e1 own ∧
        ∀ y ∈ M x, wO (bindT tg1 (ψ x y) (wipeE e4 own1)) fun e5 => wP (evC cf io c1 e5) fun k1 e6 => k1 = p x y ∧ (p x y = true → wP (evE cf io e e6) fun r e7 => wP (fz r e7) fun d e8 => d = g x y ∧ wipeE e8 own1 = wipeE e4 own1) ∧ (p x y = false → wipeE e6 own1 = wipeE e4 own1))) ∧
      Q (.v (.list ((L.filter q).flatMap fun x => ((M x).filter (p x)).map (g x))) .ow) e1) : wP (evE cf io (.comp2 own own1 tg it c tg1 it1 c1 e) env) Q := by
  rw [evE]
  refine bPP (h.imp fun xs e1 h => ?_)
  obtain ⟨rfl, h2, h3, h4⟩ := h
  have hfm : ∀ L : List α, (L.flatMap fun x => if q x = true then ((M x).filter (p x)).map (g x) else []) = (L.filter q).flatMap fun x => ((M x).filter (p x)).map (g x) := fun L => by
    induction L with
    | nil => rfl
    | cons x L ih =>
      rw [List.flatMap_cons, ih, List.filter_cons]
      split
      · rw [List.flatMap_cons]
      · rfl
  refine bPP ((wP_loopP (fun en => wipeE en own = wipeE e1 own) φ (fun x => if q x = true then ((M x).filter (p x)).map (g x) else []) L rfl fun x hx en hen => ?_).imp fun ys e9 hy => ?_)
  · rw [hen]
    refine bOP ((h3 x hx).imp fun e2 h => bPP (h.imp fun k e3 h => ?_))
    obtain ⟨rfl, hw3, h⟩ := h
    by_cases hq : q x = true
    · refine wP_pos hq (bPP ((h hq).imp fun zs e4 h => ?_))
      obtain ⟨rfl, hw4, h⟩ := h
      have hfi : ((M x).flatMap fun y => if p x y = true then [g x y] else []) = ((M x).filter (p x)).map (g x) := by
        generalize M x = l
        induction l with
        | nil => rfl
        | cons y l ih =>
          rw [List.flatMap_cons, ih, List.filter_cons]
          split
          · rfl
          · rfl
      refine (wP_loopP (fun en => wipeE en own1 = wipeE e4 own1) (ψ x) (fun y => if p x y = true then [g x y] else []) (M x) rfl fun y hy en1 hen1 => ?_).imp fun us e5 hu => ⟨?_, (wipe_sub hs hu.2).trans hw4⟩
      · rw [hen1]
        refine bOP ((h y hy).imp fun e5 h => bPP (h.imp fun k1 e6 h => ?_))
        obtain ⟨rfl, ht, hf⟩ := h
        by_cases hp : p x y = true
        · refine wP_pos hp (bPP ((ht hp).imp fun r e7 h => mPP (h.imp fun d e8 h => ?_)))
          obtain ⟨rfl, hw⟩ := h
          exact ⟨by rw [if_pos hp], hw⟩
        · refine wP_neg hp (wP_some ⟨by rw [if_neg hp], hf (by simpa using hp)⟩)
      · rw [hu.1, hfi, if_pos hq]
    · refine wP_neg hq (wP_some ⟨by rw [if_neg hq], hw3⟩)
  · obtain ⟨rfl, hw⟩ := hy
    rw [hfm]
    refine wP_ite' (decide_eq_true h2) (wP_some ?_)
    rw [back_of_wipe hw]
    exact h4
theorem st_forW {tg : Tg} {it : It} {b : S} {Q : Out → Prop} (h : wW (evS cf io (.for_ tg it b) env) Q) : wW (evS cf io (.for_ tg it b) env) Q := h
theorem st_whileW {c : E} {b : S} {Q : Out → Prop} (h : wW (evS cf io (.while_ c b) env) Q) : wW (evS cf io (.while_ c b) env) Q := h
/-! ### sorted, sets -/
theorem wE_srt {a : E} (h : wP (evE cf io a env) fun r e1 => wO (rd r e1) fun x => wP (sortedD x) fun d f => Q (.v d f) e1) : wP (evE cf io (.srt a) env) Q := by
  rw [evE]
  exact bPP (h.imp fun r e1 h => bOP (h.imp fun x h => bPP (h.imp fun d f h => wP_some h)))
theorem wE_sset {a : E} (h : wP (evE cf io a env) fun r e1 => wO (rd r e1) fun x => wP (ssetD x) fun d f => Q (.v d f) e1) : wP (evE cf io (.sset a) env) Q := by
  rw [evE]
  exact bPP (h.imp fun r e1 h => bOP (h.imp fun x h => bPP (h.imp fun d f h => wP_some h)))
theorem wE_lset {a : E} (h : wP (evE cf io a env) fun r e1 => wO (rd r e1) fun x => wP (lsetD x) fun d f => Q (.v d f) e1) : wP (evE cf io (.lset a) env) Q := by
  rw [evE]
  exact bPP (h.imp fun r e1 h => bOP (h.imp fun x h => bPP (h.imp fun d f h => wP_some h)))
end
end Ev.Pl


set_option Elab.async false
set_option linter.all false
set_option maxRecDepth 100000
set_option maxHeartbeats 1000000
/-! Plain laws: the rules looked up by what they speak of. -/
namespace Ev.Pl
open PySem PySem.Spec PyProof.Rows L2
/-- to show g it is enough to show s -/
class WPc (g : Prop) (s : outParam Prop) : Prop where
  imp : s → g
theorem WPc.step {g s : Prop} [h : WPc g s] (q : s) : g := h.imp q
/-- here the run stops: a word of one's own is wanted -/
class WSt (g : Prop) : Prop where
  stop : True
theorem WSt.step {g : Prop} [WSt g] (q : g) : g := q
instance {cf : CallF} {io : Nat → List Bool} {env : Env} {Q : R → Env → Prop} {d : D} : WPc (wP (evE cf io (.cst d) env) Q) (Q (.v d .sh) env) := ⟨wE_cst⟩
instance {cf : CallF} {io : Nat → List Bool} {env : Env} {Q : R → Env → Prop} {i : Nat} : WPc (wP (evE cf io (.var i) env) Q) (wO (slotR env i) fun r => Q r env) := ⟨wE_var⟩
instance {cf : CallF} {io : Nat → List Bool} {env : Env} {e : E} {es : Es} {Q : List R → Env → Prop} : WPc (wP (evEs cf io (.cons e es) env) Q) (wP (evE cf io e env) fun r e1 => wP (evEs cf io es e1) fun rs e2 => Q (r :: rs) e2) := ⟨wS_cons⟩
instance {cf : CallF} {io : Nat → List Bool} {env : Env} {Q : List R → Env → Prop} : WPc (wP (evEs cf io .nil env) Q) (Q [] env) := ⟨wS_nil⟩
instance {cf : CallF} {io : Nat → List Bool} {env : Env} {Q : List R → Env → Prop} : WPc (wP (evEd cf io .nil env) Q) (Q [] env) := ⟨wX_nil⟩
instance {cf : CallF} {io : Nat → List Bool} {env : Env} {e : E} {es : Es} {Q : List R → Env → Prop} : WPc (wP (evEd cf io (.cons e es) env) Q) (wP (evE cf io e env) fun r e1 => wP (evEd cf io es e1) fun rs e2 => Q (r :: rs) e2) := ⟨wX_cons⟩
instance {cf : CallF} {io : Nat → List Bool} {env : Env} {e : E} {es : Es} {Q : List R → Env → Prop} : WPc (wP (evEd cf io (.star e es) env) Q) (wP (evE cf io e env) fun r e1 => wO (rd r e1) fun x => wO (starD x) fun xs => wP (evEd cf io es e1) fun rs e2 => Q (xs.map (R.v · .sh) ++ rs) e2) := ⟨wX_star⟩
instance {d : D} {f : Fl} {env : Env} {Q : D → Prop} : WPc (wO (rd (.v d f) env) Q) (Q d) := ⟨pr_v⟩
instance {d : D} {f : Fl} {env : Env} {Q : D → Env → Prop} : WPc (wP (fz (.v d f) env) Q) (Q d env) := ⟨pf_v⟩
instance {d : D} {f : Fl} {Q : D → Fl → Prop} : WPc (wV (.v d f) Q) (Q d f) := ⟨wV_mk⟩
instance {i : Int} {f : Fl} {Q : Int → Prop} : WPc (wN (.v (.int i) f) Q) (Q i) := ⟨wN_mk⟩
instance {d : D} {Q : D → Prop} : WPc (wH (.v d .sh) Q) (Q d) := ⟨wH_mk⟩
instance {z : Str} {Q : Str → Prop} : WPc (wZ (.v (.str z) .sh) Q) (Q z) := ⟨wZ_mk⟩
instance {cf : CallF} {io : Nat → List Bool} {env : Env} {a : E} {b : E} {Q : R → Env → Prop} {op : Cop} : WPc (wP (evE cf io (.cmp op a b) env) Q) (wP (evE cf io a env) fun r1 e1 => wP (evE cf io b e1) fun r2 e2 => wO (rd r1 e2) fun x => wO (rd r2 e2) fun y => wO (cmpD op x y) fun c => Q (.v (.bool c) .sh) e2) := ⟨wE_cmp⟩
instance {cf : CallF} {io : Nat → List Bool} {env : Env} {a : E} {b : E} {Q : Bool → Env → Prop} {op : Cop} : WPc (wP (evT cf io (.cmp op a b) env) Q) (wP (evE cf io a env) fun r1 e1 => wP (evE cf io b e1) fun r2 e2 => wO (rd r1 e2) fun x => wO (rd r2 e2) fun y => wO (cmpD op x y) fun c => Q c e2) := ⟨wT_cmp⟩
instance {cf : CallF} {io : Nat → List Bool} {env : Env} {Q : R → Env → Prop} {bl : Blt} {args : Es} : WPc (wP (evE cf io (.blt bl args) env) Q) (wP (evEs cf io args env) fun rs e1 => wO (rdAll rs e1) fun ds => wP (bltD bl ds) fun d f => Q (.v d f) e1) := ⟨wE_blt⟩
instance {cf : CallF} {io : Nat → List Bool} {env : Env} {Q : Bool → Env → Prop} {bl : Blt} {args : Es} : WPc (wP (evT cf io (.blt bl args) env) Q) (wP (evEs cf io args env) fun rs e1 => wO (rdAll rs e1) fun ds => wP (bltD bl ds) fun d f => wO (truD d) fun k => Q k e1) := ⟨wT_blt⟩
instance {cf : CallF} {io : Nat → List Bool} {env : Env} {a : E} {b : E} {Q : R → Env → Prop} {op : Bop} : WPc (wP (evE cf io (.bin op a b) env) Q) (wP (evE cf io a env) fun r1 e1 => wP (evE cf io b e1) fun r2 e2 => wO (rd r1 e2) fun x => wO (rd r2 e2) fun y => wP (ite' (mulOk op r1) (binD op x y)) fun d f => Q (.v d f) e2) := ⟨wE_bin⟩
instance {cf : CallF} {io : Nat → List Bool} {env : Env} {a : E} {b : E} {Q : R → Env → Prop} : WPc (wP (evE cf io (.ix a b) env) Q) (wP (evE cf io a env) fun r1 e1 => wP (evE cf io b e1) fun r2 e2 => wO (rd r1 e2) fun x => wO (rd r2 e2) fun y => wO (ixD x y) fun d => Q (.v d .sh) e2) := ⟨wE_ix⟩
instance {cf : CallF} {io : Nat → List Bool} {env : Env} {a : E} {b : E} {Q : Bool → Env → Prop} : WPc (wP (evT cf io (.ix a b) env) Q) (wP (evE cf io a env) fun r1 e1 => wP (evE cf io b e1) fun r2 e2 => wO (rd r1 e2) fun x => wO (rd r2 e2) fun y => wO (ixD x y) fun d => wO (truD d) fun k => Q k e2) := ⟨wT_ix⟩
instance {cf : CallF} {io : Nat → List Bool} {env : Env} {a : E} {b : E} {Q : R → Env → Prop} : WPc (wP (evE cf io (.and a b) env) Q) (wP (evE cf io a env) fun r e1 => wV r fun d f => wO (truD d) fun c => wI c (wP (evE cf io b e1) Q) (Q (.v d f) e1)) := ⟨wE_and⟩
instance {cf : CallF} {io : Nat → List Bool} {env : Env} {a : E} {b : E} {Q : R → Env → Prop} : WPc (wP (evE cf io (.or a b) env) Q) (wP (evE cf io a env) fun r e1 => wV r fun d f => wO (truD d) fun c => wI c (Q (.v d f) e1) (wP (evE cf io b e1) Q)) := ⟨wE_or⟩
instance {cf : CallF} {io : Nat → List Bool} {env : Env} {a : E} {b : E} {Q : Bool → Env → Prop} : WPc (wP (evT cf io (.and a b) env) Q) (wP (evT cf io a env) fun k e1 => wI k (wP (evT cf io b e1) Q) (Q false e1)) := ⟨wT_and⟩
instance {cf : CallF} {io : Nat → List Bool} {env : Env} {a : E} {b : E} {Q : Bool → Env → Prop} : WPc (wP (evT cf io (.or a b) env) Q) (wP (evT cf io a env) fun k e1 => wI k (Q true e1) (wP (evT cf io b e1) Q)) := ⟨wT_or⟩
instance {cf : CallF} {io : Nat → List Bool} {env : Env} {a : E} {Q : R → Env → Prop} : WPc (wP (evE cf io (.not a) env) Q) (wP (evE cf io a env) fun r e1 => wO (rd r e1) fun x => wO (truD x) fun k => Q (.v (.bool (!k)) .sh) e1) := ⟨wE_not⟩
instance {cf : CallF} {io : Nat → List Bool} {env : Env} {a : E} {Q : Bool → Env → Prop} : WPc (wP (evT cf io (.not a) env) Q) (wP (evT cf io a env) fun k e1 => Q (!k) e1) := ⟨wT_not⟩
instance {cf : CallF} {io : Nat → List Bool} {env : Env} {Q : Bool → Env → Prop} {i : Nat} : WPc (wP (evT cf io (.var i) env) Q) (wO (slotR env i) fun r => wO (rd r env) fun x => wO (truD x) fun k => Q k env) := ⟨wT_var⟩
instance {cf : CallF} {io : Nat → List Bool} {env : Env} {a : E} {Q : R → Env → Prop} {ts : List Ty} : WPc (wP (evE cf io (.isi a ts) env) Q) (wP (evE cf io a env) fun r e1 => wO (rd r e1) fun d => Q (.v (.bool (isiD d ts)) .sh) e1) := ⟨wE_isi⟩
instance {cf : CallF} {io : Nat → List Bool} {env : Env} {a : E} {Q : Bool → Env → Prop} {ts : List Ty} : WPc (wP (evT cf io (.isi a ts) env) Q) (wP (evE cf io a env) fun r e1 => wO (rd r e1) fun d => Q (isiD d ts) e1) := ⟨wT_isi⟩
instance {cf : CallF} {io : Nat → List Bool} {env : Env} {a : E} {b : E} {c : E} {Q : R → Env → Prop} : WPc (wP (evE cf io (.ife c a b) env) Q) (wP (evT cf io c env) fun k e1 => wI k (wP (evE cf io a e1) Q) (wP (evE cf io b e1) Q)) := ⟨wE_ife⟩
instance {cf : CallF} {io : Nat → List Bool} {env : Env} {a : E} {Q : R → Env → Prop} {lo hi : Eo} : WPc (wP (evE cf io (.slc a lo hi) env) Q) (wP (evE cf io a env) fun r1 e1 => wP (evEo cf io lo e1) fun l e2 => wP (evEo cf io hi e2) fun u e3 => wO (rd r1 e3) fun x => wP (slcD x l u) fun d f => Q (.v d f) e3) := ⟨wE_slc⟩
instance {cf : CallF} {io : Nat → List Bool} {env : Env} {Q : R → Env → Prop} {es : Es} : WPc (wP (evE cf io (.lst es) env) Q) (wP (evEd cf io es env) fun rs e1 => wP (fzAll rs e1) fun ds e2 => wG (ds.length ≤ LINE) (Q (.v (.list ds) .ow) e2)) := ⟨wE_lst⟩
instance {cf : CallF} {io : Nat → List Bool} {env : Env} {Q : R → Env → Prop} {es : Es} : WPc (wP (evE cf io (.tup es) env) Q) (wP (evEd cf io es env) fun rs e1 => wP (fzAll rs e1) fun ds e2 => wG (ds.length ≤ LINE) (Q (.v (.tuple ds) .sh) e2)) := ⟨wE_tup⟩
instance {cf : CallF} {io : Nat → List Bool} {env : Env} {Q : R → Env → Prop} : WPc (wP (evE cf io .dct env) Q) (Q (.v (.dict []) .ow) env) := ⟨wE_dct⟩
instance {cf : CallF} {io : Nat → List Bool} {env : Env} {Q : R → Env → Prop} : WPc (wP (evE cf io .dctK env) Q) (Q (.v (.dict [mkD]) .ow) env) := ⟨wE_dctK⟩
instance {cf : CallF} {io : Nat → List Bool} {env : Env} {a : E} {Q : R → Env → Prop} : WPc (wP (evE cf io (.rev a) env) Q) (wP (evE cf io a env) fun r e1 => wO (rd r e1) fun x => wP (revD x) fun d f => Q (.v d f) e1) := ⟨wE_rev⟩
instance {cf : CallF} {io : Nat → List Bool} {env : Env} {Q : R → Env → Prop} {a : E} : WPc (wP (evE cf io (.srt a) env) Q) (wP (evE cf io a env) fun r e1 => wO (rd r e1) fun x => wP (sortedD x) fun d f => Q (.v d f) e1) := ⟨wE_srt⟩
instance {cf : CallF} {io : Nat → List Bool} {env : Env} {Q : R → Env → Prop} {a : E} : WPc (wP (evE cf io (.sset a) env) Q) (wP (evE cf io a env) fun r e1 => wO (rd r e1) fun x => wP (ssetD x) fun d f => Q (.v d f) e1) := ⟨wE_sset⟩
instance {cf : CallF} {io : Nat → List Bool} {env : Env} {Q : R → Env → Prop} {a : E} : WPc (wP (evE cf io (.lset a) env) Q) (wP (evE cf io a env) fun r e1 => wO (rd r e1) fun x => wP (lsetD x) fun d f => Q (.v d f) e1) := ⟨wE_lset⟩
instance {cf : CallF} {io : Nat → List Bool} {env : Env} {Q : R → Env → Prop} {m : Mth} {o : E} {args : Es} : WPc (wP (evE cf io (.mth m o args) env) Q) (wP (evE cf io o env) fun r e1 => wZ r fun z => wP (evEs cf io args e1) fun rs e2 => wO (rdAll rs e2) fun ds => wP (mthD m (.str z) ds) fun d f => Q (.v d f) e2) := ⟨wE_mth⟩
instance {cf : CallF} {io : Nat → List Bool} {env : Env} {Q : Bool → Env → Prop} {m : Mth} {o : E} {args : Es} : WPc (wP (evT cf io (.mth m o args) env) Q) (wP (evE cf io o env) fun r e1 => wZ r fun z => wP (evEs cf io args e1) fun rs e2 => wO (rdAll rs e2) fun ds => wP (mthD m (.str z) ds) fun d f => wO (truD d) fun k => Q k e2) := ⟨wT_mth⟩
instance {cf : CallF} {io : Nat → List Bool} {env : Env} {a : E} {Q : R → Env → Prop} : WPc (wP (evE cf io (.neg a) env) Q) (wP (evE cf io a env) fun r e1 => wN r fun i => Q (.v (.int (-i)) .sh) e1) := ⟨wE_neg⟩
instance {cf : CallF} {io : Nat → List Bool} {env : Env} {a : E} {b : E} {c : E} {Q : R → Env → Prop} {op op' : Cop} : WPc (wP (evE cf io (.cmp2 op op' a b c) env) Q) (wP (evE cf io a env) fun r1 e1 => wP (evE cf io b e1) fun r2 e2 => wH r1 fun x => wH r2 fun y => wO (cmpD op x y) fun k => wI k (wP (evE cf io c e2) fun r3 e3 => wO (rd r3 e3) fun z => wO (cmpD op' y z) fun k => Q (.v (.bool k) .sh) e3) (Q (.v (.bool false) .sh) e2)) := ⟨wE_cmp2⟩
instance {cf : CallF} {io : Nat → List Bool} {env : Env} {a : E} {b : E} {c : E} {Q : Bool → Env → Prop} {op op' : Cop} : WPc (wP (evT cf io (.cmp2 op op' a b c) env) Q) (wP (evE cf io a env) fun r1 e1 => wP (evE cf io b e1) fun r2 e2 => wH r1 fun x => wH r2 fun y => wO (cmpD op x y) fun k => wI k (wP (evE cf io c e2) fun r3 e3 => wO (rd r3 e3) fun z => wO (cmpD op' y z) fun k => Q k e3) (Q false e2)) := ⟨wT_cmp2⟩
instance {cf : CallF} {io : Nat → List Bool} {env : Env} {Q : R → Env → Prop} {i : Nat} : WPc (wP (evE cf io (.pop i) env) Q) (wP (ownL env i) fun xs f => wO (xs[xs.length - 1]?) fun y => Q (.v y .sh) (env.set i (some (.list xs.dropLast, f)))) := ⟨wE_pop⟩
instance {cf : CallF} {io : Nat → List Bool} {env : Env} {Q : R → Env → Prop} {i : Nat} {k : E} : WPc (wP (evE cf io (.popAt i k) env) Q) (wP (ownL env i) fun _ _ => wP (evE cf io k env) fun r1 e1 => wN r1 fun j => wG (fitI j = true) (wP (ownL e1 i) fun xs f => wO (ixN xs.length j) fun p => wO (xs[p]?) fun y => Q (.v y .sh) (e1.set i (some (.list (xs.eraseIdx p), f))))) := ⟨wE_popAt⟩
instance {cf : CallF} {io : Nat → List Bool} {env : Env} {Q : Option Int → Env → Prop} : WPc (wP (evEo cf io .no env) Q) (Q none env) := ⟨wO_no⟩
instance {cf : CallF} {io : Nat → List Bool} {env : Env} {e : E} {Q : Option Int → Env → Prop} : WPc (wP (evEo cf io (.yes e) env) Q) (wP (evE cf io e env) fun r e1 => wN r fun i => Q (some i) e1) := ⟨wO_yes⟩
instance {cf : CallF} {io : Nat → List Bool} {env : Env} {Q : Bool → Env → Prop} : WPc (wP (evC cf io .no env) Q) (Q true env) := ⟨wC_no⟩
instance {cf : CallF} {io : Nat → List Bool} {env : Env} {e : E} {Q : Bool → Env → Prop} : WPc (wP (evC cf io (.yes e) env) Q) (wP (evT cf io e env) Q) := ⟨wC_yes⟩
instance {cf : CallF} {io : Nat → List Bool} {env : Env} {e : E} {Q : List D → Env → Prop} : WPc (wP (evI cf io (.seq e) env) Q) (wP (evE cf io e env) fun r e1 => wP (fz r e1) fun d e2 => wO (seqItems d) fun xs => Q xs e2) := ⟨wI_seq⟩
instance {cf : CallF} {io : Nat → List Bool} {env : Env} {a : E} {Q : List D → Env → Prop} : WPc (wP (evI cf io (.range1 a) env) Q) (wP (evE cf io a env) fun r e1 => wN r fun i => wG (fitI i = true) (Q (rangeD 0 1 i.toNat) e1)) := ⟨wI_range1⟩
instance {cf : CallF} {io : Nat → List Bool} {env : Env} {a : E} {b : E} {Q : List D → Env → Prop} : WPc (wP (evI cf io (.range2 a b) env) Q) (wP (evE cf io a env) fun r e1 => wP (evE cf io b e1) fun r2 e2 => wN r fun i => wN r2 fun j => wG (fitI i = true) (wG (fitI j = true) (Q (rangeD i 1 (j - i).toNat) e2))) := ⟨wI_range2⟩
instance {cf : CallF} {io : Nat → List Bool} {env : Env} {a : E} {b : E} {c : E} {Q : List D → Env → Prop} : WPc (wP (evI cf io (.range3 a b c) env) Q) (wP (evE cf io a env) fun r e1 => wP (evE cf io b e1) fun r2 e2 => wP (evE cf io c e2) fun r3 e3 => wN r fun i => wN r2 fun j => wN r3 fun k => wG (k = -1) (wG (fitI i = true) (wG (fitI j = true) (Q (rangeD i (-1) (i - j).toNat) e3)))) := ⟨wI_range3⟩
instance {cf : CallF} {io : Nat → List Bool} {env : Env} {e : E} {Q : List D → Env → Prop} : WPc (wP (evI cf io (.enum e) env) Q) (wP (evE cf io e env) fun r e1 => wP (fz r e1) fun d e2 => wL d fun xs => Q (enumD 0 xs) e2) := ⟨wI_enum⟩
instance {cf : CallF} {io : Nat → List Bool} {env : Env} {a : E} {b : E} {Q : List D → Env → Prop} : WPc (wP (evI cf io (.zip a b) env) Q) (wP (evE cf io a env) fun r e1 => wP (evE cf io b e1) fun r2 e2 => wP (fz r e2) fun d e3 => wP (fz r2 e3) fun d2 e4 => wL2 d d2 fun xs ys => Q (zipD xs ys) e4) := ⟨wI_zip⟩
instance {cf : CallF} {io : Nat → List Bool} {env : Env} {Q : Out → Prop} {a b : S} : WPc (wW (evS cf io (.seq a b) env) Q) (wW (evS cf io a env) (sq Q fun e1 => wW (evS cf io b e1) Q)) := ⟨vS_seq⟩
instance {cf : CallF} {io : Nat → List Bool} {env : Env} {Q : Out → Prop} {c : E} {a b : S} : WPc (wW (evS cf io (.ite c a b) env) Q) (wP (evT cf io c env) fun k e1 => wI k (wW (evS cf io a e1) Q) (wW (evS cf io b e1) Q)) := ⟨vS_ite⟩
instance {Q : Out → Prop} {f : Env → Prop} {e : Env} : WPc (sq Q f (.nx e)) (f e) := ⟨sq_nx⟩
instance {Q : Out → Prop} {f : Env → Prop} {r : R} {e : Env} : WPc (sq Q f (.rt r e)) (Q (.rt r e)) := ⟨sq_rt⟩
instance {Q : Out → Prop} {f : Env → Prop} {e : Env} : WPc (sq Q f (.bk e)) (Q (.bk e)) := ⟨sq_bk⟩
instance {Q : Out → Prop} {f : Env → Prop} {e : Env} : WPc (sq Q f (.ct e)) (Q (.ct e)) := ⟨sq_ct⟩
instance {Q : Out → Prop} {f : Env → Prop} {e : Env} : WPc (lq Q f (.nx e)) (f e) := ⟨lq_nx⟩
instance {Q : Out → Prop} {f : Env → Prop} {r : R} {e : Env} : WPc (lq Q f (.rt r e)) (Q (.rt r e)) := ⟨lq_rt⟩
instance {Q : Out → Prop} {f : Env → Prop} {e : Env} : WPc (lq Q f (.bk e)) (Q (.nx e)) := ⟨lq_bk⟩
instance {Q : Out → Prop} {f : Env → Prop} {e : Env} : WPc (lq Q f (.ct e)) (f e) := ⟨lq_ct⟩
instance {ms : List Bool} {Q : D → Fl → List D → Prop} {r : R} {env : Env} : WPc (fnQ ms Q (.rt r env)) (wT (endR ms r env) Q) := ⟨fnQ_rt⟩
instance {ms : List Bool} {Q : D → Fl → List D → Prop} {env : Env} : WPc (fnQ ms Q (.nx env)) (wT (endR ms (.v .none .sh) env) Q) := ⟨fnQ_nx⟩
instance {d : D} {f : Fl} {env : Env} {ms : List Bool} {Q : D → Fl → List D → Prop} : WPc (wT (endR ms (.v d f) env) Q) (wO (outsOf ms env) fun os => Q d f os) := ⟨endR_v⟩
instance {xs : List D} {Q : List D → Prop} : WPc (wL (.list xs) Q) (Q xs) := ⟨wL_l⟩
instance {xs : List D} {Q : List D → Prop} : WPc (wL (.tuple xs) Q) (Q xs) := ⟨wL_t⟩
instance {xs ys : List D} {Q : List D → List D → Prop} : WPc (wL2 (.list xs) (.list ys) Q) (Q xs ys) := ⟨wL2_l⟩
instance {xs ys : List D} {Q : List D → List D → Prop} : WPc (wL2 (.tuple xs) (.tuple ys) Q) (Q xs ys) := ⟨wL2_t⟩
instance {i : Int} {j : Int} {Q : D → Fl → Prop} : WPc (wP (binD .add (.int i) (.int j)) Q) (Q (.int (i + j)) .sh) := ⟨pb_add⟩
instance {i : Int} {j : Int} {Q : D → Fl → Prop} : WPc (wP (binD .sub (.int i) (.int j)) Q) (Q (.int (i - j)) .sh) := ⟨pb_sub⟩
instance {i j : Int} {Q : Bool → Prop} : WPc (wO (cmpD .gt (.int i) (.int j)) Q) (Q (decide (j < i))) := ⟨pc_gt⟩
instance {i j : Int} {Q : Bool → Prop} : WPc (wO (cmpD .lt (.int i) (.int j)) Q) (Q (decide (i < j))) := ⟨pc_lt⟩
instance {i j : Int} {Q : Bool → Prop} : WPc (wO (cmpD .ge (.int i) (.int j)) Q) (Q (decide (j ≤ i))) := ⟨pc_ge⟩
instance {i j : Int} {Q : Bool → Prop} : WPc (wO (cmpD .le (.int i) (.int j)) Q) (Q (decide (i ≤ j))) := ⟨pc_le⟩
instance {i j : Int} {Q : Bool → Prop} : WPc (wO (cmpD .eq (.int i) (.int j)) Q) (Q (decide (i = j))) := ⟨pc_eq⟩
instance {i j : Int} {Q : Bool → Prop} : WPc (wO (cmpD .ne (.int i) (.int j)) Q) (Q (!decide (i = j))) := ⟨pc_ne⟩
instance {i j : Str} {Q : Bool → Prop} : WPc (wO (cmpD .eq (.str i) (.str j)) Q) (Q (decide (i = j))) := ⟨pc_eqs⟩
instance {i j : Str} {Q : Bool → Prop} : WPc (wO (cmpD .ne (.str i) (.str j)) Q) (Q (!decide (i = j))) := ⟨pc_nes⟩
instance {i j : Str} {Q : Bool → Prop} : WPc (wO (cmpD .isin (.str i) (.str j)) Q) (Q (inStr i j)) := ⟨pc_ins⟩
instance {i j : Str} {Q : Bool → Prop} : WPc (wO (cmpD .nin (.str i) (.str j)) Q) (Q (!inStr i j)) := ⟨pc_nins⟩
instance {b : Bool} {Q : Bool → Prop} : WPc (wO (truD (.bool b)) Q) (Q b) := ⟨pt_bool⟩
instance {i : Int} {Q : Bool → Prop} : WPc (wO (truD (.int i)) Q) (Q (i != 0)) := ⟨pt_int⟩
instance {xs : List D} {Q : Bool → Prop} : WPc (wO (truD (.list xs)) Q) (Q (!xs.isEmpty)) := ⟨pt_list⟩
instance {xs : List D} {Q : Bool → Prop} : WPc (wO (truD (.tuple xs)) Q) (Q (!xs.isEmpty)) := ⟨pt_tup⟩
instance {Q : D → Fl → Prop} {xs : List D} : WPc (wP (bltD .len [.list xs]) Q) (Q (.int xs.length) .sh) := ⟨pl_list⟩
instance {Q : D → Fl → Prop} {xs : List D} : WPc (wP (bltD .len [.tuple xs]) Q) (Q (.int xs.length) .sh) := ⟨pl_tup⟩
instance {cf : CallF} {io : Nat → List Bool} {env : Env} {e : E} {Q : Out → Prop} {i : Nat} : WPc (wW (evS cf io (.set i e) env) Q) (wP (evE cf io e env) fun r e1 => wO (storeR r e1 i) fun e2 => Q (.nx e2)) := ⟨fun h => vW_of (wS_set h)⟩
instance {cf : CallF} {io : Nat → List Bool} {env : Env} {e : E} {Q : Out → Prop} : WPc (wW (evS cf io (.ret e) env) Q) (wP (evE cf io e env) fun r e1 => Q (.rt r e1)) := ⟨fun h => vW_of (wS_ret h)⟩
instance {cf : CallF} {io : Nat → List Bool} {env : Env} {Q : Out → Prop} : WPc (wW (evS cf io .retN env) Q) (Q (.rt (.v .none .sh) env)) := ⟨fun h => vW_of (wS_retN h)⟩
instance {cf : CallF} {io : Nat → List Bool} {env : Env} {e : E} {Q : Out → Prop} {i : Nat} : WPc (wW (evS cf io (.app i e) env) Q) (wP (ownL env i) fun _ _ => wP (evE cf io e env) fun r e1 => wP (fz r e1) fun d e2 => wP (ownL e2 i) fun xs f => wG (xs.length < LINE) (Q (.nx (e2.set i (some (.list (xs ++ [d]), f)))))) := ⟨fun h => vW_of (wS_app h)⟩
instance {cf : CallF} {io : Nat → List Bool} {env : Env} {e : E} {Q : Out → Prop} {i : Nat} : WPc (wW (evS cf io (.ext i e) env) Q) (wP (ownL env i) fun _ _ => wP (evE cf io e env) fun r e1 => wO (extD r i e1) fun ys => wP (ownL e1 i) fun xs f => wG (xs.length + ys.length ≤ LINE) (Q (.nx (e1.set i (some (.list (xs ++ ys), f)))))) := ⟨fun h => vW_of (wS_ext h)⟩
instance {cf : CallF} {io : Nat → List Bool} {env : Env} {Q : Out → Prop} {i : Nat} {k v : E} : WPc (wW (evS cf io (.put i k v) env) Q) (wP (evE cf io v env) fun r e1 => wO (hasS e1 i) fun _ => wP (evE cf io k e1) fun rk e2 => wO (rd rk e2) fun kd => wP (fz r e2) fun d e3 => wU e3 i kd d fun e4 => Q (.nx e4)) := ⟨fun h => vW_of (wS_put h)⟩
instance {cf : CallF} {io : Nat → List Bool} {env : Env} {e : E} {Q : Out → Prop} {tg : Tg} : WPc (wW (evS cf io (.asg tg e) env) Q) (wP (evE cf io e env) fun r e1 => wP (fz r e1) fun d e2 => wO (bindT tg d e2) fun e3 => Q (.nx e3)) := ⟨fun h => vW_of (wS_asg h)⟩
instance {cf : CallF} {io : Nat → List Bool} {env : Env} {e : E} {Q : Out → Prop} {i : Nat} : WPc (wW (evS cf io (.aug .add i e) env) Q) (wO (hasS env i) fun _ => wP (evE cf io e env) fun r e1 => wA r e1 i fun x y => Q (.nx (e1.set i (some (.int (x + y), .sh))))) := ⟨fun h => vW_of (wS_augAdd h)⟩
instance {cf : CallF} {io : Nat → List Bool} {env : Env} {e : E} {Q : Out → Prop} {i : Nat} : WPc (wW (evS cf io (.aug .sub i e) env) Q) (wO (hasS env i) fun _ => wP (evE cf io e env) fun r e1 => wA r e1 i fun x y => Q (.nx (e1.set i (some (.int (x - y), .sh))))) := ⟨fun h => vW_of (wS_augSub h)⟩
instance {cf : CallF} {io : Nat → List Bool} {env : Env} {a : E} {b : E} {Q : Out → Prop} {i j : Nat} : WPc (wW (evS cf io (.par2 i j a b) env) Q) (wP (evE cf io a env) fun r1 e1 => wP (evE cf io b e1) fun r2 e2 => wP (frz r1 e2) fun q1 e3 => wP (frz r2 e3) fun q2 e4 => wO (storeR q1 e4 i) fun e5 => wO (storeR q2 e5 j) fun e6 => Q (.nx e6)) := ⟨fun h => vW_of (wS_par2 h)⟩
instance {cf : CallF} {io : Nat → List Bool} {env : Env} {a : E} {b : E} {c : E} {Q : Out → Prop} {i j k : Nat} : WPc (wW (evS cf io (.par3 i j k a b c) env) Q) (wP (evE cf io a env) fun r1 e1 => wP (evE cf io b e1) fun r2 e2 => wP (evE cf io c e2) fun r3 e3 => wP (frz r1 e3) fun q1 e4 => wP (frz r2 e4) fun q2 e5 => wP (frz r3 e5) fun q3 e6 => wO (storeR q1 e6 i) fun e7 => wO (storeR q2 e7 j) fun e8 => wO (storeR q3 e8 k) fun e9 => Q (.nx e9)) := ⟨fun h => vW_of (wS_par3 h)⟩
instance {cf : CallF} {io : Nat → List Bool} {env : Env} {Q : Out → Prop} : WPc (wW (evS cf io .pass env) Q) (Q (.nx env)) := ⟨fun h => vW_of (wS_pass h)⟩
instance {cf : CallF} {io : Nat → List Bool} {env : Env} {Q : Out → Prop} : WPc (wW (evS cf io .brk env) Q) (Q (.bk env)) := ⟨fun h => vW_of (wS_brk h)⟩
instance {cf : CallF} {io : Nat → List Bool} {env : Env} {Q : Out → Prop} : WPc (wW (evS cf io .cnt env) Q) (Q (.ct env)) := ⟨fun h => vW_of (wS_cnt h)⟩
instance {cf : CallF} {io : Nat → List Bool} {env : Env} {e : E} {Q : Out → Prop} : WPc (wW (evS cf io (.expr e) env) Q) (wP (evE cf io e env) fun _ e1 => Q (.nx e1)) := ⟨fun h => vW_of (wS_expr h)⟩
instance {cf : CallF} {io : Nat → List Bool} {env : Env} {e : E} {Q : Out → Prop} {i : Nat} : WPc (wO (evS cf io (.set i e) env) Q) (wP (evE cf io e env) fun r e1 => wO (storeR r e1 i) fun e2 => Q (.nx e2)) := ⟨wS_set⟩
instance {cf : CallF} {io : Nat → List Bool} {env : Env} {e : E} {Q : Out → Prop} : WPc (wO (evS cf io (.ret e) env) Q) (wP (evE cf io e env) fun r e1 => Q (.rt r e1)) := ⟨wS_ret⟩
instance {cf : CallF} {io : Nat → List Bool} {env : Env} {Q : Out → Prop} : WPc (wO (evS cf io .retN env) Q) (Q (.rt (.v .none .sh) env)) := ⟨wS_retN⟩
instance {cf : CallF} {io : Nat → List Bool} {env : Env} {e : E} {Q : Out → Prop} {i : Nat} : WPc (wO (evS cf io (.app i e) env) Q) (wP (ownL env i) fun _ _ => wP (evE cf io e env) fun r e1 => wP (fz r e1) fun d e2 => wP (ownL e2 i) fun xs f => wG (xs.length < LINE) (Q (.nx (e2.set i (some (.list (xs ++ [d]), f)))))) := ⟨wS_app⟩
instance {cf : CallF} {io : Nat → List Bool} {env : Env} {e : E} {Q : Out → Prop} {i : Nat} : WPc (wO (evS cf io (.ext i e) env) Q) (wP (ownL env i) fun _ _ => wP (evE cf io e env) fun r e1 => wO (extD r i e1) fun ys => wP (ownL e1 i) fun xs f => wG (xs.length + ys.length ≤ LINE) (Q (.nx (e1.set i (some (.list (xs ++ ys), f)))))) := ⟨wS_ext⟩
instance {cf : CallF} {io : Nat → List Bool} {env : Env} {Q : Out → Prop} {i : Nat} {k v : E} : WPc (wO (evS cf io (.put i k v) env) Q) (wP (evE cf io v env) fun r e1 => wO (hasS e1 i) fun _ => wP (evE cf io k e1) fun rk e2 => wO (rd rk e2) fun kd => wP (fz r e2) fun d e3 => wU e3 i kd d fun e4 => Q (.nx e4)) := ⟨wS_put⟩
instance {cf : CallF} {io : Nat → List Bool} {env : Env} {e : E} {Q : Out → Prop} {tg : Tg} : WPc (wO (evS cf io (.asg tg e) env) Q) (wP (evE cf io e env) fun r e1 => wP (fz r e1) fun d e2 => wO (bindT tg d e2) fun e3 => Q (.nx e3)) := ⟨wS_asg⟩
instance {cf : CallF} {io : Nat → List Bool} {env : Env} {e : E} {Q : Out → Prop} {i : Nat} : WPc (wO (evS cf io (.aug .add i e) env) Q) (wO (hasS env i) fun _ => wP (evE cf io e env) fun r e1 => wA r e1 i fun x y => Q (.nx (e1.set i (some (.int (x + y), .sh))))) := ⟨wS_augAdd⟩
instance {cf : CallF} {io : Nat → List Bool} {env : Env} {e : E} {Q : Out → Prop} {i : Nat} : WPc (wO (evS cf io (.aug .sub i e) env) Q) (wO (hasS env i) fun _ => wP (evE cf io e env) fun r e1 => wA r e1 i fun x y => Q (.nx (e1.set i (some (.int (x - y), .sh))))) := ⟨wS_augSub⟩
instance {cf : CallF} {io : Nat → List Bool} {env : Env} {a : E} {b : E} {Q : Out → Prop} {i j : Nat} : WPc (wO (evS cf io (.par2 i j a b) env) Q) (wP (evE cf io a env) fun r1 e1 => wP (evE cf io b e1) fun r2 e2 => wP (frz r1 e2) fun q1 e3 => wP (frz r2 e3) fun q2 e4 => wO (storeR q1 e4 i) fun e5 => wO (storeR q2 e5 j) fun e6 => Q (.nx e6)) := ⟨wS_par2⟩
instance {cf : CallF} {io : Nat → List Bool} {env : Env} {a : E} {b : E} {c : E} {Q : Out → Prop} {i j k : Nat} : WPc (wO (evS cf io (.par3 i j k a b c) env) Q) (wP (evE cf io a env) fun r1 e1 => wP (evE cf io b e1) fun r2 e2 => wP (evE cf io c e2) fun r3 e3 => wP (frz r1 e3) fun q1 e4 => wP (frz r2 e4) fun q2 e5 => wP (frz r3 e5) fun q3 e6 => wO (storeR q1 e6 i) fun e7 => wO (storeR q2 e7 j) fun e8 => wO (storeR q3 e8 k) fun e9 => Q (.nx e9)) := ⟨wS_par3⟩
instance {cf : CallF} {io : Nat → List Bool} {env : Env} {Q : Out → Prop} : WPc (wO (evS cf io .pass env) Q) (Q (.nx env)) := ⟨wS_pass⟩
instance {cf : CallF} {io : Nat → List Bool} {env : Env} {Q : Out → Prop} : WPc (wO (evS cf io .brk env) Q) (Q (.bk env)) := ⟨wS_brk⟩
instance {cf : CallF} {io : Nat → List Bool} {env : Env} {Q : Out → Prop} : WPc (wO (evS cf io .cnt env) Q) (Q (.ct env)) := ⟨wS_cnt⟩
instance {cf : CallF} {io : Nat → List Bool} {env : Env} {e : E} {Q : Out → Prop} : WPc (wO (evS cf io (.expr e) env) Q) (wP (evE cf io e env) fun _ e1 => Q (.nx e1)) := ⟨wS_expr⟩
instance {cf : CallF} {io : Nat → List Bool} {env : Env} {Q : Out → Prop} {a b : S} : WPc (wO (evS cf io (.seq a b) env) Q) (wO (evS cf io a env) (sq Q fun e1 => wO (evS cf io b e1) Q)) := ⟨wS_seq⟩
instance {cf : CallF} {io : Nat → List Bool} {env : Env} {c : E} {Q : Out → Prop} {a b : S} : WPc (wO (evS cf io (.ite c a b) env) Q) (wP (evT cf io c env) fun k e1 => wI k (wO (evS cf io a e1) Q) (wO (evS cf io b e1) Q)) := ⟨wS_ite⟩
instance {Q : D → Fl → Prop} {a b : List D} : WPc (wP (binD .add (.list a) (.list b)) Q) (wG (a.length + b.length ≤ LINE) (Q (.list (a ++ b)) .ow)) := ⟨fun q => pb_list q.c q.q⟩
instance {Q : D → Fl → Prop} {a b : List D} : WPc (wP (binD .add (.tuple a) (.tuple b)) Q) (wG (a.length + b.length ≤ LINE) (Q (.tuple (a ++ b)) .sh)) := ⟨fun q => pb_tup q.c q.q⟩
instance {Q : D → Fl → Prop} {a b : Str} : WPc (wP (binD .add (.str a) (.str b)) Q) (wG (a.length + b.length ≤ LINE) (Q (.str (a ++ b)) .sh)) := ⟨fun q => pb_str q.c q.q⟩
instance {Q : D → Fl → Prop} {s : Str} : WPc (wP (bltD .len [.str s]) Q) (wG (s.length ≤ LINE) (Q (.int s.length) .sh)) := ⟨fun q => pl_str q.c q.q⟩
instance {i : Int} {j : Int} {Q : D → Fl → Prop} : WPc (wP (binD .mul (.int i) (.int j)) Q) (wG ((-(2 ^ 64) < i ∧ i < 2 ^ 64) ∨ (-(2 ^ 64) < j ∧ j < 2 ^ 64)) (Q (.int (i * j)) .sh)) := ⟨fun q => pb_mul q.c q.q⟩
instance {i : Int} {j : Int} {Q : D → Fl → Prop} : WPc (wP (binD .fdiv (.int i) (.int j)) Q) (wG (0 < j ∧ j < 1073741824) (Q (.int (i / j)) .sh)) := ⟨fun q => pb_fdiv q.c q.q⟩
instance {i : Int} {j : Int} {Q : D → Fl → Prop} : WPc (wP (binD .mod (.int i) (.int j)) Q) (wG (0 < j) (Q (.int (i % j)) .sh)) := ⟨fun q => pb_mod q.c q.q⟩
instance {i : Int} {j : Int} {Q : D → Fl → Prop} : WPc (wP (binD .pow (.int i) (.int j)) Q) (wG (0 ≤ j ∧ j ≤ 1000000 ∧ i.natAbs < 2 ^ 64) (Q (.int (i ^ j.toNat)) .sh)) := ⟨fun q => pb_pow q.c q.q⟩
instance {cf : CallF} {io : Nat → List Bool} {env : Env} {own : List Nat} {tg : Tg} {it : It} {c : Eo} {e : E} {Q : R → Env → Prop} : WSt (wP (evE cf io (.comp own tg it c e) env) Q) := ⟨trivial⟩
instance {cf : CallF} {io : Nat → List Bool} {env : Env} {own own1 : List Nat} {tg tg1 : Tg} {it it1 : It} {c c1 : Eo} {e : E} {Q : R → Env → Prop} : WSt (wP (evE cf io (.comp2 own own1 tg it c tg1 it1 c1 e) env) Q) := ⟨trivial⟩
instance {cf : CallF} {io : Nat → List Bool} {env : Env} {tg : Tg} {it : It} {b : S} {Q : Out → Prop} : WSt (wW (evS cf io (.for_ tg it b) env) Q) := ⟨trivial⟩
instance {cf : CallF} {io : Nat → List Bool} {env : Env} {c : E} {b : S} {Q : Out → Prop} : WSt (wW (evS cf io (.while_ c b) env) Q) := ⟨trivial⟩
instance {cf : CallF} {io : Nat → List Bool} {env : Env} {tg : Tg} {it : It} {b : S} {Q : Out → Prop} : WSt (wO (evS cf io (.for_ tg it b) env) Q) := ⟨trivial⟩
instance {cf : CallF} {io : Nat → List Bool} {env : Env} {c : E} {b : S} {Q : Out → Prop} : WSt (wO (evS cf io (.while_ c b) env) Q) := ⟨trivial⟩
instance {tbl : List Fn} {n i : Nat} {ds : List D} {Q : D → Fl → List D → Prop} : WSt (wT (evCall tbl n i ds) Q) := ⟨trivial⟩
end Ev.Pl


set_option Elab.async false
set_option linter.all false
set_option maxRecDepth 100000
set_option maxHeartbeats 40000000
namespace Ev.Pl
open PySem PySem.Spec PyProof.Rows L2
local macro_rules
  | `(tactic| ac_rfl) => `(tactic| repeat (first
    | with_reducible refine WPc.step ?_
    | with_reducible first | refine wE_call (by assumption) ?_ | refine wT_call (by assumption) ?_ | refine wE_callK (by assumption) ?_ | refine wT_callK (by assumption) ?_ | refine wE_dctK1 rfl rfl ?_ | refine wP_ite' rfl ?_ | refine wG.mk (by first | assumption | (show _ ≤ 16777216; omega) | (show _ < 16777216; omega) | omega | exact fit_of (by omega) (by omega) | (show _ ≤ 16777216; simp only [List.length_append, List.length_cons, List.length_nil, List.length_map]; omega) | (show _ < 16777216; simp only [List.length_append, List.length_cons, List.length_nil, List.length_map]; omega)) ?_
    | (fail_if_success with_reducible refine WSt.step ?_)
      first | refine wO_some ?_ | refine wP_some ?_ | refine wT_some ?_ | refine wI_tt ?_ | refine wI_ff ?_ | refine wA_mk rfl ?_ | refine wU_l rfl rfl ?_ | refine wG.mk (by first | exact Nat.le_of_ble_eq_true rfl | ((with_reducible refine kG ?_); rfl)) ?_))
/-- _law_take -/
def F_law_take : Fn := ⟨6, [true, false], (.seq (.ite (.cmp .gt (.ix (.var 0) (.cst (.int 0))) (.cst (.int 0)))
 (.seq (.set 5 (.bin .mod (.blt .int (.cons (.ix (.var 0) (.cst (.int 0))) .nil)) (.var 1)))
 (.seq (.put 0 (.cst (.int 0)) (.bin .fdiv (.ix (.var 0) (.cst (.int 0))) (.var 1)))
 (.ret (.var 5))))
 .pass)
 (.seq (.put 0 (.cst (.int 2)) (.bin .add (.ix (.var 0) (.cst (.int 2))) (.cst (.int 1))))
 (.seq (.set 2 (.bin .mod (.blt .int (.cons (.bin .mul (.bin .add (.ix (.var 0) (.cst (.int 1))) (.bin .mul (.cst (.int 48271)) (.ix (.var 0) (.cst (.int 2))))) (.bin .add (.cst (.int 39373)) (.ix (.var 0) (.cst (.int 2))))) .nil)) (.cst (.int 2147483647))))
 (.seq (.set 3 (.bin .add (.bin .mod (.blt .int (.cons (.var 2) .nil)) (.cst (.int 40009))) (.cst (.int 7))))
 (.seq (.set 4 (.bin .mod (.blt .int (.cons (.bin .mul (.bin .add (.bin .add (.var 2) (.ix (.var 0) (.cst (.int 2)))) (.bin .fdiv (.ix (.var 0) (.cst (.int 1))) (.cst (.int 1000003)))) (.var 3)) .nil)) (.cst (.int 2147483629))))
 (.ret (.bin .mod (.blt .int (.cons (.bin .fdiv (.bin .mod (.blt .int (.cons (.bin .add (.bin .mul (.var 4) (.cst (.int 48271))) (.var 2)) .nil)) (.cst (.int 2147483587))) (.cst (.int 64))) .nil)) (.var 1))))))))⟩
/-- _law_of -/
def F_law_of (i_law_take : Nat) : Fn := ⟨2, [true, false], (.ret (.ix (.var 1) (.call i_law_take (.cons (.var 0) (.cons (.blt .len (.cons (.var 1) .nil)) .nil)))))⟩
/-- _law_pick -/
def F_law_pick (i_law_take : Nat) : Fn := ⟨6, [true, false, false], (.seq (.par2 4 5 (.blt .list (.cons (.var 1) .nil)) (.lst .nil))
 (.seq (.for_ (.name 3) (.range1 (.blt .min (.cons (.var 2) (.cons (.blt .len (.cons (.var 4) .nil)) .nil))))
 (.app 5 (.popAt 4 (.call i_law_take (.cons (.var 0) (.cons (.blt .len (.cons (.var 4) .nil)) .nil))))))
 (.ret (.var 5))))⟩
/-- _law_cells -/
def F_law_cells : Fn := ⟨6, [false, false], (.seq (.set 2 (.or (.blt .list (.cons (.slc (.var 0) .no (.yes (.var 1))) .nil)) (.lst (.cons (.cst (.int 0)) .nil))))
 (.seq (.for_ (.pair (.name 3) (.name 4)) (.enum (.slc (.var 0) (.yes (.var 1)) (.yes (.cst (.int 63)))))
 (.seq (.set 5 (.bin .mod (.blt .int (.cons (.var 3) .nil)) (.var 1)))
 (.put 2 (.var 5) (.bin .add (.ix (.var 2) (.var 5)) (.bin .mul (.var 4) (.bin .add (.var 3) (.cst (.int 2))))))))
 (.ret (.var 2))))⟩
/-- _law_same -/
def F_law_same (i_law_same : Nat) : Fn := ⟨5, [false, false], (.seq (.ite (.isi (.var 1) [.list, .tuple])
 (.seq (.ite (.or (.cmp .ne (.isi (.var 0) [.list]) (.isi (.var 1) [.list])) (.cmp .ne (.isi (.var 0) [.tuple]) (.isi (.var 1) [.tuple])))
 (.ret (.cst (.bool false)))
 .pass)
 (.ret (.and (.cmp .eq (.blt .len (.cons (.var 0) .nil)) (.blt .len (.cons (.var 1) .nil))) (.blt .all (.cons (.comp [3, 4] (.pair (.name 3) (.name 4)) (.zip (.var 0) (.var 1)) .no (.call i_law_same (.cons (.var 3) (.cons (.var 4) .nil)))) .nil)))))
 .pass)
 (.seq (.ite (.isi (.var 1) [.dict])
 (.seq (.ite (.or (.not (.isi (.var 0) [.dict])) (.cmp .ne (.srt (.var 0)) (.srt (.var 1))))
 (.ret (.cst (.bool false)))
 .pass)
 (.ret (.blt .all (.cons (.comp [2] (.name 2) (.seq (.var 1)) .no (.call i_law_same (.cons (.ix (.var 0) (.var 2)) (.cons (.ix (.var 1) (.var 2)) .nil)))) .nil))))
 .pass)
 (.seq (.ite (.or (.cmp .isn (.var 1) (.cst .none)) (.isi (.var 1) [.bool, .str]))
 (.ret (.and (.cmp .eq (.var 0) (.var 1)) (.and (.cmp .eq (.isi (.var 0) [.bool]) (.isi (.var 1) [.bool])) (.cmp .eq (.cmp .isn (.var 0) (.cst .none)) (.cmp .isn (.var 1) (.cst .none))))))
 .pass)
 (.ret (.and (.isi (.var 0) [.int]) (.and (.not (.isi (.var 0) [.bool])) (.cmp .eq (.var 0) (.var 1))))))))⟩
/-- _law_box -/
def F_law_box (k0 : Int) : Fn := ⟨3, [false, false], (.seq (.set 2 (.ife (.cmp .lt (.var 1) (.blt .len (.cons (.var 0) .nil))) (.ix (.var 0) (.var 1)) (.cst (.int 0))))
 (.ret (.lst (.cons (.bin .mul (.blt .abs (.cons (.var 2) .nil)) (.blt .int (.cons (.cmp .ge (.blt .abs (.cons (.var 2) .nil)) (.bin .pow (.cst (.int 10)) (.cst (.int 18)))) .nil))) (.cons (.bin .add (.bin .add (.bin .mod (.blt .int (.cons (.var 2) .nil)) (.cst (.int 2305843009213693951))) (.bin .mul (.cst (.int 39373)) (.var 1))) (.cst (.int k0))) (.cons (.cst (.int 0)) .nil))))))⟩
/-- a box of draws, drawn from at most k times -/
def Bx (k : Int) (d : D) : Prop := ∃ a b c : Int, d = .list [.int a, .int b, .int c] ∧ 0 ≤ a ∧ 0 ≤ b ∧ b < 4611686018427387904 ∧ 0 ≤ c ∧ c ≤ k
theorem take_ok {tbl : List Fn} {i m : Nat} (h : tbl[i]? = some F_law_take) {k n : Int} {box : D} (hb : Bx k box) (hk : k < 1099511627776) (hn : 0 < n) (hn' : n < 1073741824) :
    wT (evCall tbl (m + 1) i [box, .int n]) fun d fl outs => ∃ (x : Int) (box' : D), d = .int x ∧ fl = .sh ∧ outs = [box'] ∧ 0 ≤ x ∧ x < n ∧ Bx (k + 1) box' := by
  obtain ⟨a, b, c, rfl, ha, hb, hb', hc, hc'⟩ := hb
  rw [evCall_succ h]
  refine wO_fn rfl ?_
  ac_rfl
  refine ⟨fun q => ?_, fun q => ?_⟩
  · ac_rfl
    exact ⟨_, _, rfl, rfl, rfl, Int.emod_nonneg _ (by omega), Int.emod_lt_of_pos _ hn, _, _, _, rfl, Int.ediv_nonneg ha (by omega), hb, hb', hc, by omega⟩
  · ac_rfl
    exact ⟨_, _, rfl, rfl, rfl, Int.emod_nonneg _ (by omega), Int.emod_lt_of_pos _ hn, _, _, _, rfl, ha, hb, hb', by omega, by omega⟩
theorem Bx.le {k k' : Int} {d : D} (h : Bx k d) (hk : k ≤ k') : Bx k' d := by
  obtain ⟨a, b, c, e, h1, h2, h3, h4, h5⟩ := h
  exact ⟨a, b, c, e, h1, h2, h3, h4, by omega⟩
/-- what the boxes are made by -/
def TakeS (tbl : List Fn) (i N : Nat) : Prop := ∀ n, N ≤ n → ∀ (k m : Int) (box : D), Bx k box → k < 1099511627776 → 0 < m → m < 1073741824 →
  wT (evCall tbl n i [box, .int m]) fun d fl outs => ∃ (x : Int) (box' : D), d = .int x ∧ fl = .sh ∧ outs = [box'] ∧ 0 ≤ x ∧ x < m ∧ Bx (k + 1) box'
theorem takeS {tbl : List Fn} {i : Nat} (h : tbl[i]? = some F_law_take) : TakeS tbl i 1 := fun n hn k m box hb hk h0 h1 => by
  obtain ⟨n, rfl⟩ : ∃ n', n = n' + 1 := ⟨n - 1, by omega⟩
  exact take_ok h hb hk h0 h1
def OfS (tbl : List Fn) (i N : Nat) : Prop := ∀ n, N ≤ n → ∀ (k : Int) (box : D) (xs : List D), Bx k box → k < 1099511627776 → xs ≠ [] → xs.length < 1073741824 →
  wT (evCall tbl n i [box, .list xs]) fun d fl outs => ∃ (box' : D), fl = .sh ∧ outs = [box'] ∧ d ∈ xs ∧ Bx (k + 1) box'
theorem ixN_nat {n : Nat} {x : Int} (h0 : 0 ≤ x) (h1 : x < n) : ixN n x = some x.toNat := by
  unfold ixN
  rw [if_pos h0, if_pos h1]
theorem atI_of {xs : List D} {x : Int} (h0 : 0 ≤ x) (h1 : x < xs.length) : ∃ d, atI xs x = some d ∧ d ∈ xs := by
  have : x.toNat < xs.length := by omega
  refine ⟨xs[x.toNat], ?_, List.getElem_mem this⟩
  rw [atI, ixN_nat h0 h1]
  exact List.getElem?_eq_getElem this
theorem ofS {tbl : List Fn} {i j N : Nat} (h : tbl[i]? = some (F_law_of j)) (hj : TakeS tbl j N) (hio : ioOf tbl j = [true, false]) : OfS tbl i (N + 1) := fun n hn k box xs hb hk h0 h1 => by
  obtain ⟨n, rfl⟩ : ∃ n', n = n' + 1 := ⟨n - 1, by omega⟩
  have hb' := hb
  obtain ⟨a, b, c, rfl, ha, hb, hb2, hc, hc'⟩ := hb
  have hl : 0 < xs.length := List.length_pos_iff.mpr h0
  rw [evCall_succ h]
  refine wO_fn rfl ?_
  ac_rfl
  refine (hj n (by omega) k _ _ hb' hk (by omega) (by omega)).imp ?_
  rintro d fl outs ⟨x, box', rfl, rfl, rfl, x0, x1, hB⟩
  ac_rfl
  obtain ⟨d, e, hm⟩ := atI_of x0 x1
  refine wO_of e ?_
  ac_rfl
  exact ⟨_, rfl, rfl, hm, hB⟩
theorem rangeD_length : ∀ (n : Nat) (a c : Int), (rangeD a c n).length = n
  | 0, _, _ => rfl
  | n + 1, a, c => by rw [rangeD, List.length_cons, rangeD_length n]
theorem pick_perm {α : Type} : ∀ (l : List α) (i : Nat) (h : i < l.length), (([l[i]] : List α) ++ l.eraseIdx i).Perm l
  | x :: r, 0, _ => List.Perm.refl _
  | x :: r, i + 1, h => by
    rw [List.eraseIdx_cons_succ]
    exact (List.Perm.swap x _ _).trans (List.Perm.cons x (pick_perm r i (by simpa using h)))
/-- some of a pool's things, each once -/
def PickS (tbl : List Fn) (i N : Nat) : Prop := ∀ n, N ≤ n → ∀ (k : Int) (box : D) (xs : List D) (m : Int), Bx k box → k < 1000000000000 → xs.length < 1000000 → 0 ≤ m →
  wT (evCall tbl n i [box, .list xs, .int m]) fun d fl outs => ∃ (box' : D) (ys zs : List D), d = .list ys ∧ fl = .ow ∧ outs = [box'] ∧ (ys ++ zs).Perm xs ∧ ys.length = min m.toNat xs.length ∧ Bx (k + ys.length) box'
theorem pickS {tbl : List Fn} {i j N : Nat} (h : tbl[i]? = some (F_law_pick j)) (hj : TakeS tbl j N) (hio : ioOf tbl j = [true, false]) : PickS tbl i (N + 1) := fun n hn k box P m hb hk h0 h1 => by
  obtain ⟨n, rfl⟩ : ∃ n', n = n' + 1 := ⟨n - 1, by omega⟩
  rw [evCall_succ h]
  refine wO_fn rfl ?_
  ac_rfl
  refine wS_for ?_
  ac_rfl
  have hc : ∃ c : Nat, (if (P.length : Int) < m then (P.length : Int) else m) = c ∧ c = min m.toNat P.length := ⟨min m.toNat P.length, by split <;> omega, rfl⟩
  obtain ⟨c, hc, hc'⟩ := hc
  rw [hc]
  refine ⟨fun rest en => ∃ (bx : D) (xs ys : List D) (t : Slot), en = [some (bx, .io), some (.list P, .sh), some (.int m, .sh), t, some (.list xs, .ow), some (.list ys, .ow)] ∧ (ys ++ xs).Perm P ∧ Bx (k + ys.length) bx ∧ rest.length + ys.length = c ∧ rest.length ≤ xs.length ∧ (t = none ∨ ∃ d, t = some (d, .sh)),
    ⟨box, P, [], none, rfl, List.Perm.refl _, by simpa using hb, by rw [rangeD_length]; simp, by rw [rangeD_length]; omega, .inl rfl⟩, ?_, ?_⟩
  · rintro x r en ⟨bx, xs, ys, t, rfl, hp, hB, hl, hx, ht⟩
    have hpl := hp.length_eq
    rw [List.length_append] at hpl
    rw [List.length_cons] at hl hx
    have go : wO (bindT (.name 3) x [some (bx, .io), some (.list P, .sh), some (.int m, .sh), t, some (.list xs, .ow), some (.list ys, .ow)]) fun e1 => e1 = [some (bx, .io), some (.list P, .sh), some (.int m, .sh), some (x, .sh), some (.list xs, .ow), some (.list ys, .ow)] := by
      rcases ht with rfl | ⟨d, rfl⟩ <;> exact wO_some rfl
    refine go.imp ?_
    rintro _ rfl
    ac_rfl
    refine (hj n (by omega) _ _ _ hB (by omega) (by omega) (by omega)).imp ?_
    rintro d fl outs ⟨y, box', rfl, rfl, rfl, y0, y1, hB'⟩
    ac_rfl
    have hy : y.toNat < xs.length := by omega
    refine wO_of (ixN_nat y0 (by omega)) ?_
    refine wO_of (List.getElem?_eq_getElem hy) ?_
    ac_rfl
    refine ⟨_, _, _, _, rfl, ?_, ?_, ?_, ?_, .inr ⟨_, rfl⟩⟩
    · rw [List.append_assoc]
      refine List.Perm.trans (List.Perm.append_left _ ?_) hp
      exact pick_perm xs _ hy
    · rw [List.length_append]
      refine hB'.le ?_
      simp
      omega
    · rw [List.length_append]
      simp
      omega
    · rw [List.length_eraseIdx]
      split <;> omega
  · rintro en ⟨bx, xs, ys, t, rfl, hp, hB, hl, hx, ht⟩
    ac_rfl
    exact ⟨_, _, _, rfl, rfl, rfl, hp, by simp at hl; omega, hB⟩
/-- a thing without dicts, nested at most so deep -/
inductive Pln : Nat → D → Prop
  | non {n : Nat} : Pln n .none
  | bool {n : Nat} (b : Bool) : Pln n (.bool b)
  | int {n : Nat} (b : Int) : Pln n (.int b)
  | str {n : Nat} (b : Str) : Pln n (.str b)
  | list {n : Nat} {xs : List D} : (∀ x ∈ xs, Pln n x) → xs.length ≤ LINE → Pln (n + 1) (.list xs)
  | tuple {n : Nat} {xs : List D} : (∀ x ∈ xs, Pln n x) → xs.length ≤ LINE → Pln (n + 1) (.tuple xs)
def SameS (tbl : List Fn) (i : Nat) : Prop := ∀ (k : Nat) (d : D), Pln k d → ∀ n, k < n → evCall tbl n i [d, d] = some (.bool true, .sh, [])
theorem zipD_self : ∀ xs : List D, zipD xs xs = xs.map fun x => .tuple [x, x]
  | [] => rfl
  | x :: r => by rw [zipD, zipD_self r]; rfl
theorem sameS {tbl : List Fn} {i : Nat} (h : tbl[i]? = some (F_law_same i)) : SameS tbl i := fun k d hd => by
  have hio := ioOf_at h
  induction hd with
  | @list k xs hx hl ih =>
    intro n hn
    obtain ⟨n, rfl⟩ : ∃ n', n = n' + 1 := ⟨n - 1, by omega⟩
    rw [evCall_succ h]
    refine wT_eq (wO_fn rfl ?_)
    ac_rfl
    refine ⟨fun _ => ?_, fun h => absurd h (by simp)⟩
    ac_rfl
    refine wE_compM xs (fun x => .tuple [x, x]) (fun _ => .bool true) ?_
    ac_rfl
    refine ⟨zipD_self xs, hl, fun x hx' => ?_, ?_⟩
    · ac_rfl
      refine wT_of (ih x hx' n (by omega)) ?_
      ac_rfl
      exact ⟨rfl, rfl⟩
    · ac_rfl
      refine wP_of (all_map (fun _ => true) xs) ?_
      ac_rfl
      exact ⟨by simp, rfl, rfl⟩
  | @tuple k xs hx hl ih =>
    intro n hn
    obtain ⟨n, rfl⟩ : ∃ n', n = n' + 1 := ⟨n - 1, by omega⟩
    rw [evCall_succ h]
    refine wT_eq (wO_fn rfl ?_)
    ac_rfl
    refine ⟨fun _ => ?_, fun h => absurd h (by simp)⟩
    ac_rfl
    refine wE_compM xs (fun x => .tuple [x, x]) (fun _ => .bool true) ?_
    ac_rfl
    refine ⟨zipD_self xs, hl, fun x hx' => ?_, ?_⟩
    · ac_rfl
      refine wT_of (ih x hx' n (by omega)) ?_
      ac_rfl
      exact ⟨rfl, rfl⟩
    · ac_rfl
      refine wP_of (all_map (fun _ => true) xs) ?_
      ac_rfl
      exact ⟨by simp, rfl, rfl⟩
  | non =>
    intro n hn
    obtain ⟨n, rfl⟩ : ∃ n', n = n' + 1 := ⟨n - 1, by omega⟩
    rw [evCall_succ h]
    refine wT_eq (wO_fn rfl ?_)
    ac_rfl
    exact ⟨rfl, rfl, rfl⟩
  | bool b =>
    intro n hn
    obtain ⟨n, rfl⟩ : ∃ n', n = n' + 1 := ⟨n - 1, by omega⟩
    rw [evCall_succ h]
    refine wT_eq (wO_fn rfl ?_)
    cases b <;> ac_rfl <;> exact ⟨rfl, rfl, rfl⟩
  | int b =>
    intro n hn
    obtain ⟨n, rfl⟩ : ∃ n', n = n' + 1 := ⟨n - 1, by omega⟩
    rw [evCall_succ h]
    refine wT_eq (wO_fn rfl ?_)
    ac_rfl
    exact ⟨by simp, rfl, rfl⟩
  | str b =>
    intro n hn
    obtain ⟨n, rfl⟩ : ∃ n', n = n' + 1 := ⟨n - 1, by omega⟩
    rw [evCall_succ h]
    refine wT_eq (wO_fn rfl ?_)
    ac_rfl
    refine ⟨fun _ => ?_, fun h => absurd h (by simp)⟩
    ac_rfl
    exact ⟨rfl, rfl, rfl⟩
theorem cutD_to (xs : List D) (n : Nat) : cutD xs none (some (n : Int)) = xs.take n := by
  unfold cutD
  rw [HT.sIx_none, HT.sIx_nat, List.drop_zero, Nat.sub_zero, List.take_eq_take_iff]
  omega
theorem cutD_from (xs : List D) (n : Nat) : cutD xs (some (n : Int)) none = xs.drop n := by
  unfold cutD
  rw [HT.sIx_none, HT.sIx_nat]
  by_cases h : n ≤ xs.length
  · rw [Nat.min_eq_left h, List.take_of_length_le (by simp)]
  · rw [Nat.min_eq_right (by omega), Nat.sub_self, List.take_zero, List.drop_eq_nil_of_le (by omega)]
theorem cutD_both (xs : List D) (n m : Nat) : cutD xs (some (n : Int)) (some (m : Int)) = (xs.drop n).take (m - n) := by
  unfold cutD
  rw [HT.sIx_nat, HT.sIx_nat]
  by_cases h : n ≤ xs.length
  · rw [Nat.min_eq_left h, List.take_eq_take_iff, List.length_drop]
    omega
  · rw [Nat.min_eq_right (a := n) (by omega), List.drop_eq_nil_of_le (Nat.le_refl _), List.drop_eq_nil_of_le (by omega)]
    simp
/-! ### the law's head: cells, boxes -/
def CellsS (tbl : List Fn) (i : Nat) : Prop := ∀ n, 1 ≤ n → ∀ (ns : List Int) (m : Nat), 1 ≤ m → m ≤ 63 → ns.length ≤ 63 →
  wT (evCall tbl n i [.list (ns.map .int), .int m]) fun d fl outs => ∃ ms : List Int, d = .list (ms.map .int) ∧ fl = .ow ∧ outs = [] ∧ 1 ≤ ms.length ∧ ms.length ≤ m
theorem enumD_cons {n : Int} {x : D} {r : List D} : enumD n (x :: r) = .tuple [.int n, x] :: enumD (n + 1) r := rfl
theorem cellsS {tbl : List Fn} {i : Nat} (h : tbl[i]? = some F_law_cells) : CellsS tbl i := fun n hn ns m h1 h2 h3 => by
  obtain ⟨n, rfl⟩ : ∃ n', n = n' + 1 := ⟨n - 1, by omega⟩
  rw [evCall_succ h]
  refine wO_fn rfl ?_
  ac_rfl
  rw [cutD_to]
  have key : ∀ (ms : List Int), 1 ≤ ms.length → ms.length ≤ m → (ms.length < m → ns.drop m = []) → wO (evS (evCall tbl n) (ioOf tbl) (.for_ (.pair (.name 3) (.name 4)) (.enum (.slc (.var 0) (.yes (.var 1)) (.yes (.cst (.int 63)))))
      (.seq (.set 5 (.bin .mod (.blt .int (.cons (.var 3) .nil)) (.var 1)))
      (.put 2 (.var 5) (.bin .add (.ix (.var 2) (.var 5)) (.bin .mul (.var 4) (.bin .add (.var 3) (.cst (.int 2))))))))
      [some (.list (ns.map .int), .sh), some (.int m, .sh), some (.list (ms.map .int), .ow), none, none, none]) (sq (fnQ [false, false] fun d fl outs => ∃ ms : List Int, d = .list (ms.map .int) ∧ fl = .ow ∧ outs = [] ∧ 1 ≤ ms.length ∧ ms.length ≤ m) fun e1 => wO (evS (evCall tbl n) (ioOf tbl) (.ret (.var 2)) e1) (fnQ [false, false] fun d fl outs => ∃ ms : List Int, d = .list (ms.map .int) ∧ fl = .ow ∧ outs = [] ∧ 1 ≤ ms.length ∧ ms.length ≤ m)) := by
    intro ms l1 l2 l3
    refine wS_for ?_
    ac_rfl
    rw [show (63 : Int) = ((63 : Nat) : Int) from rfl, cutD_both]
    refine ⟨fun rest en => ∃ (ms rs : List Int) (j : Nat) (t3 t4 t5 : Slot), en = [some (.list (ns.map .int), .sh), some (.int m, .sh), some (.list (ms.map .int), .ow), t3, t4, t5] ∧ rest = enumD j (rs.map .int) ∧ j + rs.length ≤ 63 ∧ 1 ≤ ms.length ∧ ms.length ≤ m ∧ (rs ≠ [] → ms.length = m) ∧ (∀ t ∈ [t3, t4, t5], t = none ∨ ∃ d, t = some (d, .sh)),
      ⟨ms, (ns.drop m).take (63 - m), 0, none, none, none, rfl, ?_, ?_, l1, l2, fun h => ?_, by simp⟩, ?_, ?_⟩
    · rw [List.map_take, List.map_drop]
      rfl
    · rw [List.length_take]
      omega
    · rcases Nat.lt_or_ge ms.length m with z | z
      · rw [l3 z] at h
        simp at h
      · omega
    · rintro x r en ⟨ms, rs, j, t3, t4, t5, rfl, hr, hj, l1, l2, l3, ht⟩
      cases rs with
      | nil => simp [enumD] at hr
      | cons y rs =>
        rw [List.map_cons, enumD_cons] at hr
        obtain ⟨rfl, rfl⟩ := List.cons.inj hr
        have hm := l3 (by simp)
        rw [List.length_cons] at hj
        have go : wO (bindT (.pair (.name 3) (.name 4)) (.tuple [.int j, .int y]) [some (.list (ns.map .int), .sh), some (.int m, .sh), some (.list (ms.map .int), .ow), t3, t4, t5]) fun e1 => e1 = [some (.list (ns.map .int), .sh), some (.int m, .sh), some (.list (ms.map .int), .ow), some (.int j, .sh), some (.int y, .sh), t5] := by
          rcases ht t3 (by simp) with rfl | ⟨d, rfl⟩ <;> rcases ht t4 (by simp) with rfl | ⟨d', rfl⟩ <;> exact wO_some rfl
        refine go.imp ?_
        rintro _ rfl
        have h0 : 0 ≤ (j : Int) % m := Int.emod_nonneg _ (by omega)
        have h1 : (j : Int) % m < m := Int.emod_lt_of_pos _ (by omega)
        have hp : ((j : Int) % m).toNat < ms.length := by omega
        have e5 : ∀ d : D, storeR (.v d .sh) [some (.list (ns.map .int), .sh), some (.int m, .sh), some (.list (ms.map .int), .ow), some (.int j, .sh), some (.int y, .sh), t5] 5 = some [some (.list (ns.map .int), .sh), some (.int m, .sh), some (.list (ms.map .int), .ow), some (.int j, .sh), some (.int y, .sh), some (d, .sh)] := fun d => by
          rcases ht t5 (by simp) with rfl | ⟨d', rfl⟩ <;> rfl
        ac_rfl
        refine wO_of (e5 _) ?_
        ac_rfl
        refine wO_of (a := .int (ms[((j : Int) % m).toNat])) ?_ ?_
        · rw [ixD, atI, ixN_nat h0 (by rw [List.length_map]; omega), Option.bind_some, List.getElem?_map, List.getElem?_eq_getElem hp]
          rfl
        ac_rfl
        refine wU_l rfl (ixN_nat h0 (by rw [List.length_map]; omega)) ?_
        ac_rfl
        refine ⟨ms.set ((j : Int) % m).toNat (ms[((j : Int) % m).toNat] + y * (j + 2)), rs, j + 1, some (.int j, .sh), some (.int y, .sh), some (.int ((j : Int) % m), .sh), ?_, by push_cast; rfl, by omega, ?_, ?_, fun _ => ?_, ?_⟩
        · rw [List.map_set]
          rfl
        · rw [List.length_set]; omega
        · rw [List.length_set]; omega
        · rw [List.length_set]; omega
        · intro t ht
          simp at ht
          rcases ht with rfl | rfl | rfl <;> exact .inr ⟨_, rfl⟩
    · rintro en ⟨ms, rs, j, t3, t4, t5, rfl, hr, hj, l1, l2, l3, ht⟩
      ac_rfl
      exact ⟨ms, rfl, rfl, rfl, l1, l2⟩
  refine ⟨fun q => ?_, fun q => ?_⟩
  · ac_rfl
    have k := key (ns.take m) ?_ ?_ ?_
    · rw [List.map_take] at k
      exact k
    · cases ns with
      | nil => simp at q
      | cons x r => rw [List.length_take, List.length_cons]; omega
    · rw [List.length_take]; omega
    · intro h
      rw [List.length_take] at h
      exact List.drop_eq_nil_of_le (by omega)
  · ac_rfl
    refine key [0] (by simp) (by simpa using h1) fun _ => ?_
    cases ns with
    | nil => simp
    | cons x r =>
      obtain ⟨m, rfl⟩ : ∃ m', m = m' + 1 := ⟨m - 1, by omega⟩
      simp at q
end Ev.Pl


set_option Elab.async false
set_option linter.all false
set_option maxRecDepth 100000
set_option maxHeartbeats 40000000
namespace Ev.Pl
open PySem PySem.Spec PyProof.Rows L2
local macro_rules
  | `(tactic| ac_rfl) => `(tactic| repeat (first
    | with_reducible refine WPc.step ?_
    | with_reducible first | refine wE_call (by assumption) ?_ | refine wT_call (by assumption) ?_ | refine wE_callK (by assumption) ?_ | refine wT_callK (by assumption) ?_ | refine wE_dctK1 rfl rfl ?_ | refine wP_ite' rfl ?_ | refine wG.mk (by first | assumption | (show _ ≤ 16777216; omega) | (show _ < 16777216; omega) | omega | exact fit_of (by omega) (by omega) | (show _ ≤ 16777216; simp only [List.length_append, List.length_cons, List.length_nil, List.length_map]; omega) | (show _ < 16777216; simp only [List.length_append, List.length_cons, List.length_nil, List.length_map]; omega)) ?_
    | (fail_if_success with_reducible refine WSt.step ?_)
      first | refine wO_some ?_ | refine wP_some ?_ | refine wT_some ?_ | refine wI_tt ?_ | refine wI_ff ?_ | refine wA_mk rfl ?_ | refine wU_l rfl rfl ?_ | refine wG.mk (by first | exact Nat.le_of_ble_eq_true rfl | ((with_reducible refine kG ?_); rfl)) ?_))
/-! ### boxes, the law's head -/
def BoxS (tbl : List Fn) (i : Nat) : Prop := ∀ n, 1 ≤ n → ∀ (ms : List Int) (k : Nat), k < ms.length → ms.length ≤ 63 →
  wT (evCall tbl n i [.list (ms.map .int), .int k]) fun d fl outs => Bx 0 d ∧ fl = .ow ∧ outs = []
theorem boxS {tbl : List Fn} {i : Nat} {k0 : Int} (h : tbl[i]? = some (F_law_box k0)) (hk : 0 ≤ k0) (hk' : k0 < 1000000) : BoxS tbl i := fun n hn ms k h1 h2 => by
  obtain ⟨n, rfl⟩ : ∃ n', n = n' + 1 := ⟨n - 1, by omega⟩
  rw [evCall_succ h]
  refine wO_fn rfl ?_
  ac_rfl
  refine ⟨fun _ => ?_, fun q => absurd q (by simp; omega)⟩
  ac_rfl
  refine wO_of (a := .int (ms[k])) ?_ ?_
  · rw [ixD, atI, ixN_nat (by omega) (by rw [List.length_map]; omega), Option.bind_some, List.getElem?_map]
    rw [Int.toNat_natCast, List.getElem?_eq_getElem h1]
    rfl
  generalize ms[k] = c
  ac_rfl
  have q1 : 0 ≤ c % 2305843009213693951 := Int.emod_nonneg _ (by decide)
  have q2 : c % 2305843009213693951 < 2305843009213693951 := Int.emod_lt_of_pos _ (by decide)
  refine ⟨⟨_, _, _, rfl, ?_, by omega, by omega, by omega, by omega⟩, rfl, rfl⟩
  refine Int.mul_nonneg ?_ ?_
  · split <;> omega
  · split <;> omega
/-- the law's head: all boxes -/
def F_lawH (most : Int) (i_law_box i_law_cells i_law_right : Nat) : Fn := ⟨3, [false], (.seq (.set 1 (.call i_law_cells (.cons (.var 0) (.cons (.cst (.int most)) .nil))))
 (.ret (.blt .all (.cons (.comp [2] (.name 2) (.range1 (.blt .len (.cons (.var 1) .nil))) .no (.call i_law_right (.cons (.call i_law_box (.cons (.var 1) (.cons (.var 2) .nil))) .nil))) .nil))))⟩
theorem rangeD_up : ∀ (n : Nat) (a : Nat), rangeD a 1 n = (List.range' a n).map fun i : Nat => .int i
  | 0, _ => rfl
  | n + 1, a => by
    have := rangeD_up n (a + 1)
    rw [rangeD, List.range'_succ, List.map_cons, ← this]
    rfl
theorem rangeD_zero (n : Nat) : rangeD 0 1 n = (List.range n).map fun i : Nat => .int i := by
  have := rangeD_up n 0
  rw [List.range_eq_range']
  exact this
def RightS (tbl : List Fn) (i N : Nat) : Prop := ∀ n, N ≤ n → ∀ box : D, Bx 0 box → wT (evCall tbl n i [box]) fun d _ outs => d = .bool true ∧ ∃ b, outs = [b]
theorem lawS {tbl : List Fn} {i b c r N : Nat} {most : Nat} (h : tbl[i]? = some (F_lawH most b c r)) (h1 : 1 ≤ most) (h2 : most ≤ 63) (hB : BoxS tbl b) (hC : CellsS tbl c) (hR : RightS tbl r N) (hN : 1 ≤ N)
    (hb : ioOf tbl b = [false, false]) (hc : ioOf tbl c = [false, false]) (hr : ioOf tbl r = [true]) {n : Nat} (hn : N < n) (ns : List Int) (hl : ns.length ≤ 63) : ∃ fl outs, evCall tbl n i [.list (ns.map .int)] = some (.bool true, fl, outs) := by
  obtain ⟨n, rfl⟩ : ∃ n', n = n' + 1 := ⟨n - 1, by omega⟩
  have key : wT (evCall tbl (n + 1) i [.list (ns.map .int)]) fun d fl outs => d = .bool true := by
    rw [evCall_succ h]
    refine wO_fn rfl ?_
    ac_rfl
    refine (hC n (by omega) ns most h1 h2 hl).imp ?_
    rintro d fl outs ⟨ms, rfl, rfl, rfl, l1, l2⟩
    have hlm : (ms.map PyData.int).length ≤ 63 := by rw [List.length_map]; omega
    ac_rfl
    refine wE_comp ?_
    ac_rfl
    refine ⟨fun rest out en => ∃ (f : Fl) (t : Slot) (k m : Nat), en = [some (.list (ns.map .int), .sh), some (.list (ms.map .int), f), t] ∧ f ≠ .io ∧ rest = (List.range' k m).map (fun i : Nat => .int i) ∧ k + m = ms.length ∧ out = List.replicate k (.bool true),
      ⟨.ow, none, 0, ms.length, rfl, by decide, ?_, by omega, rfl⟩, ?_, ?_⟩
    · rw [rangeD_zero, List.range_eq_range', Int.toNat_natCast, List.length_map]
    · rintro x r o en ⟨f, t, k, m, rfl, hf, hr, hm, rfl⟩
      cases m with
      | zero => cases hr
      | succ m =>
        rw [List.range'_succ, List.map_cons] at hr
        obtain ⟨rfl, rfl⟩ := List.cons.inj hr
        have go : ∀ f' : Fl, f' ≠ .io → wP (evE (evCall tbl n) (ioOf tbl) (.call r (.cons (.call b (.cons (.var 1) (.cons (.var 2) .nil))) .nil)) [some (.list (ns.map .int), .sh), some (.list (ms.map .int), f'), some (.int k, .sh)]) fun q e4 => ∃ f2, q = .v (.bool true) f2 ∧ e4 = [some (.list (ns.map .int), .sh), some (.list (ms.map .int), .sh), some (.int k, .sh)] := fun f' hf' => by
          cases f' with
          | io => exact (hf' rfl).elim
          | ow =>
            ac_rfl
            refine (hB n (by omega) ms k (by omega) (by omega)).imp ?_
            rintro d fl outs ⟨hx, rfl, rfl⟩
            ac_rfl
            refine (hR n (by omega) d hx).imp ?_
            rintro d fl outs ⟨rfl, b', rfl⟩
            ac_rfl
            exact ⟨_, rfl, rfl⟩
          | sh =>
            ac_rfl
            refine (hB n (by omega) ms k (by omega) (by omega)).imp ?_
            rintro d fl outs ⟨hx, rfl, rfl⟩
            ac_rfl
            refine (hR n (by omega) d hx).imp ?_
            rintro d fl outs ⟨rfl, b', rfl⟩
            ac_rfl
            exact ⟨_, rfl, rfl⟩
        refine wO_of (a := [some (.list (ns.map .int), .sh), some (.list (ms.map .int), f), some (.int k, .sh)]) rfl ?_
        refine wC_no (wI_tt ?_)
        refine (go f hf).imp ?_
        rintro q e4 ⟨f2, rfl, rfl⟩
        ac_rfl
        refine ⟨.sh, _, k + 1, m, rfl, by decide, rfl, by omega, ?_⟩
        rw [List.replicate_succ']
    · rintro ys en ⟨f, t, k, m, rfl, hf, hr, hm, rfl⟩
      have hm0 : m = 0 := by
        cases m with
        | zero => rfl
        | succ m => cases hr
      subst hm0
      refine ⟨by rw [List.length_replicate]; show _ ≤ 16777216; omega, ?_⟩
      ac_rfl
      refine wP_of (a := .bool true) (b := .sh) ?_ ?_
      · have := all_map (fun _ : Nat => true) (List.replicate k 0)
        rw [List.map_replicate] at this
        rw [this]
        simp
      ac_rfl
      exact rfl
  obtain ⟨d, fl, outs, e, rfl⟩ := key.ex
  exact ⟨fl, outs, e⟩
end Ev.Pl


set_option Elab.async false
set_option linter.all false
set_option maxRecDepth 100000
set_option maxHeartbeats 1000000
namespace Ev.Pl
open PySem PySem.Spec PyProof.Rows L2
/-! ### more levels, the same answers -/
def Le {α : Type} (x y : Option α) : Prop := ∀ r, x = some r → y = some r
theorem Le.refl {α : Type} (x : Option α) : Le x x := fun _ h => h
theorem Le.none {α : Type} (y : Option α) : Le none y := fun _ h => (by cases h)
theorem Le.bind {α β : Type} {x y : Option α} {f g : α → Option β} (h : Le x y) (k : ∀ a, Le (f a) (g a)) : Le (x.bind f) (y.bind g) := fun r e => by
  cases x with
  | none => cases e
  | some a =>
    rw [h a rfl]
    exact k a r e
theorem Le.map {α β : Type} {x y : Option α} {f : α → β} (h : Le x y) : Le (x.map f) (y.map f) := fun r e => by
  cases x with
  | none => cases e
  | some a =>
    rw [h a rfl]
    exact e
theorem Le.if {α : Type} {c : Prop} [Decidable c] {x y x' y' : Option α} (h : Le x x') (k : Le y y') : Le (if c then x else y) (if c then x' else y') := by
  by_cases q : c
  · rw [if_pos q, if_pos q]
    exact h
  · rw [if_neg q, if_neg q]
    exact k
theorem Le.ite' {α : Type} {c : Bool} {x x' : Option α} (h : Le x x') : Le (ite' c x) (ite' c x') := Le.if h (Le.refl _)
theorem Le.callV {ms : List Bool} {ds : List D} {x x' : Option (D × Fl × List D)} (h : Le x x') : Le (callV ms ds x) (callV ms ds x') := Le.ite' (Le.map h)
theorem Le.loopC {f g : D → Env → Option (List D × Env)} (h : ∀ x en, Le (f x en) (g x en)) : ∀ (xs : List D) (env : Env), Le (loopC f xs env) (loopC g xs env)
  | [], _ => Le.refl _
  | x :: r, env => by
    rw [Ev.loopC, Ev.loopC]
    exact Le.bind (h x env) fun p => Le.map (Le.loopC h r p.2)
theorem Le.forF {tg : Tg} {f g : Env → Option Out} (h : ∀ en, Le (f en) (g en)) : ∀ (xs : List D) (env : Env), Le (forF tg f xs env) (forF tg g xs env)
  | [], _ => Le.refl _
  | x :: r, env => by
    rw [Ev.forF, Ev.forF]
    refine Le.bind (Le.refl _) fun e1 => Le.bind (h e1) fun o => ?_
    cases o with
    | nx e2 => exact Le.forF h r e2
    | ct e2 => exact Le.forF h r e2
    | bk e2 => exact Le.refl _
    | rt v e2 => exact Le.refl _
theorem Le.whileF {c c' : Env → Option (Bool × Env)} {f g : Env → Option Out} (hc : ∀ en, Le (c en) (c' en)) (h : ∀ en, Le (f en) (g en)) : ∀ (n : Nat) (env : Env), Le (whileF c f n env) (whileF c' g n env)
  | 0, _ => Le.refl _
  | n + 1, env => by
    rw [Ev.whileF, Ev.whileF]
    refine Le.bind (hc env) fun p => Le.if (Le.bind (h p.2) fun o => ?_) (Le.refl _)
    cases o with
    | nx e2 => exact Le.whileF hc h n e2
    | ct e2 => exact Le.whileF hc h n e2
    | bk e2 => exact Le.refl _
    | rt v e2 => exact Le.refl _
section
variable {cf cf' : CallF} {io : Nat → List Bool} (hf : ∀ i ds, Le (cf i ds) (cf' i ds))
local macro_rules
  | `(tactic| ac_rfl) => `(tactic| repeat (first | assumption | exact Le.refl _ | exact Le.none _ | refine Le.bind ?_ fun _ => ?_ | refine Le.map ?_ | refine Le.if ?_ ?_ | refine Le.ite' ?_ | refine Le.callV ?_ | refine Le.loopC (fun _ _ => ?_) _ _ | (split)))
include hf
mutual
theorem mE : ∀ (e : E) (env : Env), Le (evE cf io e env) (evE cf' io e env)
  | .bad, env => Le.refl _
  | .cst _, env => Le.refl _
  | .var _, env => Le.refl _
  | .bin op a b, env => by
    have h1 := mE a; have h2 := mE b
    simp only [evE]
    exact Le.bind (h1 _) fun p => Le.bind (h2 _) fun q => Le.refl _
  | .neg a, env => by
    have h1 := mE a
    simp only [evE]
    exact Le.bind (h1 _) fun p => Le.refl _
  | .not a, env => by
    have h1 := mE a
    simp only [evE]
    exact Le.bind (h1 _) fun p => Le.refl _
  | .and a b, env => by
    have h1 := mE a; have h2 := mE b
    simp only [evE]
    refine Le.bind (h1 _) fun p => ?_
    obtain ⟨r, e⟩ := p
    cases r with
    | v d f => exact Le.bind (Le.refl _) fun c => Le.if (h2 _) (Le.refl _)
    | s i => exact Le.refl _
  | .or a b, env => by
    have h1 := mE a; have h2 := mE b
    simp only [evE]
    refine Le.bind (h1 _) fun p => ?_
    obtain ⟨r, e⟩ := p
    cases r with
    | v d f => exact Le.bind (Le.refl _) fun c => Le.if (Le.refl _) (h2 _)
    | s i => exact Le.refl _
  | .cmp op a b, env => by
    have h1 := mE a; have h2 := mE b
    simp only [evE]
    exact Le.bind (h1 _) fun p => Le.bind (h2 _) fun q => Le.refl _
  | .cmp2 op op' a b c, env => by
    have h1 := mE a; have h2 := mE b; have h3 := mE c
    simp only [evE]
    refine Le.bind (h1 _) fun p => Le.bind (h2 _) fun q => ?_
    obtain ⟨r1, e1⟩ := p
    obtain ⟨r2, e2⟩ := q
    dsimp only
    split
    · exact Le.bind (Le.refl _) fun k => Le.if (Le.bind (h3 _) fun z => Le.refl _) (Le.refl _)
    · exact Le.refl _
  | .ife c a b, env => by
    have h1 := mT c; have h2 := mE a; have h3 := mE b
    simp only [evE]
    exact Le.bind (h1 _) fun p => Le.if (h2 _) (h3 _)
  | .call f args, env => by
    have h1 := mEs args
    simp only [evE]
    exact Le.bind (h1 _) fun p => Le.bind (Le.refl _) fun q => Le.bind (hf _ _) fun t => Le.refl _
  | .callK f args kws perm, env => by
    have h1 := mEs args; have h2 := mEs kws
    simp only [evE]
    exact Le.bind (h1 _) fun p => Le.bind (Le.refl _) fun q => Le.bind (h2 _) fun p => Le.bind (Le.refl _) fun t => Le.bind (Le.callV (hf _ _)) fun _ => Le.refl _
  | .blt b args, env => by
    have h1 := mEs args
    simp only [evE]
    exact Le.bind (h1 _) fun p => Le.refl _
  | .mth m o args, env => by
    have h1 := mE o; have h2 := mEs args
    simp only [evE]
    refine Le.bind (h1 _) fun p => ?_
    split
    · exact Le.bind (h2 _) fun p => Le.refl _
    · exact Le.refl _
  | .pop i, env => Le.refl _
  | .popAt i k, env => by
    have h1 := mE k
    simp only [evE]
    exact Le.bind (Le.refl _) fun p => Le.bind (h1 _) fun q => Le.refl _
  | .isi a ts, env => by
    have h1 := mE a
    simp only [evE]
    exact Le.bind (h1 _) fun p => Le.refl _
  | .ix a i, env => by
    have h1 := mE a; have h2 := mE i
    simp only [evE]
    exact Le.bind (h1 _) fun p => Le.bind (h2 _) fun q => Le.refl _
  | .slc a lo hi, env => by
    have h1 := mE a; have h2 := mEo lo; have h3 := mEo hi
    simp only [evE]
    exact Le.bind (h1 _) fun p => Le.bind (h2 _) fun q => Le.bind (h3 _) fun t => Le.refl _
  | .lst es, env => by
    have h1 := mEd es
    simp only [evE]
    exact Le.bind (h1 _) fun p => Le.refl _
  | .tup es, env => by
    have h1 := mEd es
    simp only [evE]
    exact Le.bind (h1 _) fun p => Le.refl _
  | .dct, env => Le.refl _
  | .dctK, env => Le.refl _
  | .dctK1 _ _, env => Le.refl _
  | .rev a, env => by
    have h1 := mE a
    simp only [evE]
    exact Le.bind (h1 _) fun p => Le.refl _
  | .setOf _, env => Le.refl _
  | .srt a, env => by
    have h1 := mE a
    simp only [evE]
    exact Le.bind (h1 _) fun p => Le.refl _
  | .sset a, env => by
    have h1 := mE a
    simp only [evE]
    exact Le.bind (h1 _) fun p => Le.refl _
  | .lset a, env => by
    have h1 := mE a
    simp only [evE]
    exact Le.bind (h1 _) fun p => Le.refl _
  | .comp own tg it c e, env => by
    have h1 := mI it; have h2 := mC c; have h3 := mE e
    simp only [evE]
    exact Le.bind (h1 _) fun p => Le.bind (Le.loopC (fun x en => Le.bind (Le.refl _) fun e2 => Le.bind (h2 _) fun k => Le.if (Le.bind (h3 _) fun r => Le.refl _) (Le.refl _)) _ _) fun _ => Le.refl _
  | .comp2 own own1 tg it c tg1 it1 c1 e, env => by
    have h1 := mI it; have h2 := mC c; have h3 := mE e; have h4 := mI it1; have h5 := mC c1
    simp only [evE]
    exact Le.bind (h1 _) fun p => Le.bind (Le.loopC (fun x en => Le.bind (Le.refl _) fun e2 => Le.bind (h2 _) fun k => Le.if (Le.bind (h4 _) fun q => Le.loopC (fun x1 en1 => Le.bind (Le.refl _) fun e5 => Le.bind (h5 _) fun k1 => Le.if (Le.bind (h3 _) fun r => Le.refl _) (Le.refl _)) _ _) (Le.refl _)) _ _) fun _ => Le.refl _
theorem mT : ∀ (e : E) (env : Env), Le (evT cf io e env) (evT cf' io e env)
  | .not a, env => by
    have h1 := mT a
    simp only [evT]
    exact Le.map (h1 _)
  | .and a b, env => by
    have h1 := mT a; have h2 := mT b
    simp only [evT]
    exact Le.bind (h1 _) fun p => Le.if (h2 _) (Le.refl _)
  | .or a b, env => by
    have h1 := mT a; have h2 := mT b
    simp only [evT]
    exact Le.bind (h1 _) fun p => Le.if (Le.refl _) (h2 _)
  | .bad, env => Le.refl _
  | .cst _, env => Le.refl _
  | .var _, env => Le.refl _
  | .cmp op a b, env => by
    have h1 := mE a; have h2 := mE b
    simp only [evT]
    exact Le.bind (h1 _) fun p => Le.bind (h2 _) fun q => Le.refl _
  | .cmp2 op op' a b c, env => by
    have h1 := mE a; have h2 := mE b; have h3 := mE c
    simp only [evT]
    refine Le.bind (h1 _) fun p => Le.bind (h2 _) fun q => ?_
    obtain ⟨r1, e1⟩ := p
    obtain ⟨r2, e2⟩ := q
    dsimp only
    split
    · exact Le.bind (Le.refl _) fun k => Le.if (Le.bind (h3 _) fun z => Le.refl _) (Le.refl _)
    · exact Le.refl _
  | .isi a ts, env => by
    have h1 := mE a
    simp only [evT]
    exact Le.bind (h1 _) fun p => Le.refl _
  | .call f args, env => by
    have h1 := mEs args
    simp only [evT]
    exact Le.bind (h1 _) fun p => Le.bind (Le.refl _) fun q => Le.bind (hf _ _) fun t => Le.refl _
  | .callK f args kws perm, env => by
    have h1 := mEs args; have h2 := mEs kws
    simp only [evT]
    exact Le.bind (h1 _) fun p => Le.bind (Le.refl _) fun q => Le.bind (h2 _) fun p => Le.bind (Le.refl _) fun t => Le.bind (Le.callV (hf _ _)) fun _ => Le.refl _
  | .blt b args, env => by
    have h1 := mEs args
    simp only [evT]
    exact Le.bind (h1 _) fun p => Le.refl _
  | .mth m o args, env => by
    have h1 := mE o; have h2 := mEs args
    simp only [evT]
    refine Le.bind (h1 _) fun p => ?_
    split
    · exact Le.bind (h2 _) fun p => Le.refl _
    · exact Le.refl _
  | .ix a i, env => by
    have h1 := mE a; have h2 := mE i
    simp only [evT]
    exact Le.bind (h1 _) fun p => Le.bind (h2 _) fun q => Le.refl _
  | .neg a, env => Le.refl _
  | .ife c a b, env => Le.refl _
  | .pop i, env => Le.refl _
  | .popAt i k, env => Le.refl _
  | .slc a lo hi, env => Le.refl _
  | .lst es, env => Le.refl _
  | .tup es, env => Le.refl _
  | .dct, env => Le.refl _
  | .dctK, env => Le.refl _
  | .dctK1 _ _, env => Le.refl _
  | .rev _, env => Le.refl _
  | .setOf _, env => Le.refl _
  | .srt _, env => Le.refl _
  | .sset _, env => Le.refl _
  | .lset _, env => Le.refl _
  | .bin op a b, env => Le.refl _
  | .comp own tg it c e, env => Le.refl _
  | .comp2 own own1 tg it c tg1 it1 c1 e, env => Le.refl _
theorem mEs : ∀ (e : Es) (env : Env), Le (evEs cf io e env) (evEs cf' io e env)
  | .nil, env => Le.refl _
  | .cons e es, env => by
    have h1 := mE e; have h2 := mEs es
    simp only [evEs]
    exact Le.bind (h1 _) fun p => Le.map (h2 _)
  | .star _ _, env => Le.refl _
theorem mEd : ∀ (e : Es) (env : Env), Le (evEd cf io e env) (evEd cf' io e env)
  | .nil, env => Le.refl _
  | .cons e es, env => by
    have h1 := mE e; have h2 := mEd es
    simp only [evEd]
    exact Le.bind (h1 _) fun p => Le.map (h2 _)
  | .star e es, env => by
    have h1 := mE e; have h2 := mEd es
    simp only [evEd]
    exact Le.bind (h1 _) fun p => Le.bind (Le.refl _) fun x => Le.bind (Le.refl _) fun xs => Le.map (h2 _)
theorem mEo : ∀ (e : Eo) (env : Env), Le (evEo cf io e env) (evEo cf' io e env)
  | .no, env => Le.refl _
  | .yes e, env => by
    have h1 := mE e
    simp only [evEo]
    exact Le.bind (h1 _) fun p => Le.refl _
theorem mC : ∀ (e : Eo) (env : Env), Le (evC cf io e env) (evC cf' io e env)
  | .no, env => Le.refl _
  | .yes e, env => by
    have h1 := mT e
    simp only [evC]
    exact h1 _
theorem mI : ∀ (e : It) (env : Env), Le (evI cf io e env) (evI cf' io e env)
  | .seq e, env => by
    have h1 := mE e
    simp only [evI]
    exact Le.bind (h1 _) fun p => Le.refl _
  | .range1 a, env => by
    have h1 := mE a
    simp only [evI]
    exact Le.bind (h1 _) fun p => Le.refl _
  | .range2 a b, env => by
    have h1 := mE a; have h2 := mE b
    simp only [evI]
    exact Le.bind (h1 _) fun p => Le.bind (h2 _) fun q => Le.refl _
  | .range3 a b c, env => by
    have h1 := mE a; have h2 := mE b; have h3 := mE c
    simp only [evI]
    exact Le.bind (h1 _) fun p => Le.bind (h2 _) fun q => Le.bind (h3 _) fun t => Le.refl _
  | .enum e, env => by
    have h1 := mE e
    simp only [evI]
    exact Le.bind (h1 _) fun p => Le.refl _
  | .zip a b, env => by
    have h1 := mE a; have h2 := mE b
    simp only [evI]
    exact Le.bind (h1 _) fun p => Le.bind (h2 _) fun q => Le.refl _
end
theorem mS : ∀ (s : S) (env : Env), Le (evS cf io s env) (evS cf' io s env)
  | .bad, env => Le.refl _
  | .pass, env => Le.refl _
  | .brk, env => Le.refl _
  | .cnt, env => Le.refl _
  | .expr e, env => by
    simp only [evS]
    exact Le.map (mE hf e _)
  | .app i e, env => by
    simp only [evS]
    exact Le.bind (Le.refl _) fun _ => Le.bind (mE hf e _) fun _ => Le.refl _
  | .ext i e, env => by
    simp only [evS]
    exact Le.bind (Le.refl _) fun _ => Le.bind (mE hf e _) fun _ => Le.refl _
  | .set i e, env => by
    simp only [evS]
    exact Le.bind (mE hf e _) fun _ => Le.refl _
  | .asg tg e, env => by
    simp only [evS]
    exact Le.bind (mE hf e _) fun _ => Le.refl _
  | .par2 i j a b, env => by
    simp only [evS]
    exact Le.bind (mE hf a _) fun _ => Le.bind (mE hf b _) fun _ => Le.refl _
  | .par3 i j k a b c, env => by
    simp only [evS]
    exact Le.bind (mE hf a _) fun _ => Le.bind (mE hf b _) fun _ => Le.bind (mE hf c _) fun _ => Le.refl _
  | .put i k v, env => by
    simp only [evS]
    exact Le.bind (mE hf v _) fun _ => Le.bind (Le.refl _) fun _ => Le.bind (mE hf k _) fun _ => Le.refl _
  | .aug op i e, env => by
    simp only [evS]
    exact Le.bind (Le.refl _) fun _ => Le.bind (mE hf e _) fun _ => Le.refl _
  | .ret e, env => by
    simp only [evS]
    exact Le.map (mE hf e _)
  | .retN, env => Le.refl _
  | .ite c a b, env => by
    simp only [evS]
    exact Le.bind (mT hf c _) fun p => Le.if (mS a _) (mS b _)
  | .for_ tg it b, env => by
    simp only [evS]
    exact Le.bind (mI hf it _) fun p => Le.forF (fun en => mS b en) _ _
  | .while_ c b, env => by
    simp only [evS]
    exact Le.whileF (fun en => mT hf c en) (fun en => mS b en) _ _
  | .seq a b, env => by
    simp only [evS]
    refine Le.bind (mS a _) fun o => ?_
    cases o with
    | nx e1 => exact mS b _
    | bk e1 => exact Le.refl _
    | ct e1 => exact Le.refl _
    | rt r e1 => exact Le.refl _
theorem mFn (fn : Fn) (ds : List D) : Le (runFn cf io fn ds) (runFn cf' io fn ds) := fun r h => by
  unfold runFn at h ⊢
  split at h
  · rename_i q
    rw [if_pos q]
    cases k : evS cf io fn.body (startE fn.size fn.io ds) with
    | none => rw [k] at h; cases h
    | some o =>
      rw [mS hf _ _ _ k]
      rw [k] at h
      exact h
  · cases h
end
theorem mCall1 (tbl : List Fn) : ∀ (n i : Nat) (ds : List D), Le (evCall tbl n i ds) (evCall tbl (n + 1) i ds)
  | 0, i, ds => fun r h => by cases h
  | n + 1, i, ds => fun r h => by
    rw [evCall] at h ⊢
    cases k : tbl[i]? with
    | none => rw [k] at h; cases h
    | some fn =>
      rw [k] at h
      exact mFn (fun i ds => mCall1 tbl n i ds) fn ds r h
/-- what is answered at a level is answered at all above it -/
theorem evCall_le {tbl : List Fn} {n m i : Nat} {ds : List D} {r : D × Fl × List D} (h : evCall tbl n i ds = some r) (hm : n ≤ m) : evCall tbl m i ds = some r := by
  induction hm with
  | refl => exact h
  | step _ ih => exact mCall1 tbl _ i ds r ih
end Ev.Pl


set_option Elab.async false
set_option linter.all false
set_option maxRecDepth 100000
set_option maxHeartbeats 40000000
namespace Ev.Pl
open PySem PySem.Spec PyProof.Rows L2
local macro_rules
  | `(tactic| ac_rfl) => `(tactic| repeat (first
    | with_reducible refine WPc.step ?_
    | with_reducible first | refine wE_call (by assumption) ?_ | refine wT_call (by assumption) ?_ | refine wE_callK (by assumption) ?_ | refine wT_callK (by assumption) ?_ | refine wE_dctK1 rfl rfl ?_ | refine wP_ite' rfl ?_ | refine wG.mk (by first | assumption | (show _ ≤ 16777216; omega) | (show _ < 16777216; omega) | omega | exact fit_of (by omega) (by omega) | (show _ ≤ 16777216; simp only [List.length_append, List.length_cons, List.length_nil, List.length_map]; omega) | (show _ < 16777216; simp only [List.length_append, List.length_cons, List.length_nil, List.length_map]; omega)) ?_
    | (fail_if_success with_reducible refine WSt.step ?_)
      first | refine wO_some ?_ | refine wP_some ?_ | refine wT_some ?_ | refine wI_tt ?_ | refine wI_ff ?_ | refine wA_mk rfl ?_ | refine wU_l rfl rfl ?_ | refine wG.mk (by first | exact Nat.le_of_ble_eq_true rfl | ((with_reducible refine kG ?_); rfl)) ?_))
/-! ### trees of texts -/
inductive Tx : Nat → D → Prop
  | non {n : Nat} : Tx n .none
  | str {n : Nat} {b : Str} : PyData.strOk b = true → Tx n (.str b)
  | list {n : Nat} {xs : List D} : (∀ x ∈ xs, Tx n x) → Tx (n + 1) (.list xs)
  | tuple {n : Nat} {xs : List D} : (∀ x ∈ xs, Tx n x) → Tx (n + 1) (.tuple xs)
theorem Tx.lay {k : Nat} {d : D} (h : Tx k d) : d.canLay0 = true ∧ d.depth ≤ k := by
  induction h with
  | non => exact ⟨rfl, by simp [PyData.depth]⟩
  | str h => exact ⟨by rw [PyData.canLay0]; exact h, by simp [PyData.depth]⟩
  | @list n xs hx ih =>
    have : PyData.canLayAll0 xs = true ∧ PyData.depthAll xs ≤ n := by
      clear hx
      induction xs with
      | nil => exact ⟨rfl, by simp [PyData.depthAll]⟩
      | cons x r ih2 =>
        have a := ih x (by simp)
        have b := ih2 fun y hy => ih y (by simp [hy])
        exact ⟨by rw [PyData.canLayAll0, a.1, b.1]; rfl, by rw [PyData.depthAll]; omega⟩
    exact ⟨by rw [PyData.canLay0]; exact this.1, by rw [PyData.depth]; omega⟩
  | @tuple n xs hx ih =>
    have : PyData.canLayAll0 xs = true ∧ PyData.depthAll xs ≤ n := by
      clear hx
      induction xs with
      | nil => exact ⟨rfl, by simp [PyData.depthAll]⟩
      | cons x r ih2 =>
        have a := ih x (by simp)
        have b := ih2 fun y hy => ih y (by simp [hy])
        exact ⟨by rw [PyData.canLayAll0, a.1, b.1]; rfl, by rw [PyData.depthAll]; omega⟩
    exact ⟨by rw [PyData.canLay0]; exact this.1, by rw [PyData.depth]; omega⟩
theorem Tx.shaped {k : Nat} {d : D} (h : Tx k d) (hk : k ≤ 64) : shapedD d = true := by
  obtain ⟨a, b⟩ := h.lay
  unfold shapedD SeqAt.shaped
  rw [a, decide_eq_true (Nat.le_trans b hk)]
  rfl
theorem Tx.eqv {k : Nat} {d : D} (h : Tx k d) : ∀ e : D, PyData.eqv d e = true ↔ d = e := by
  induction h with
  | non => intro e; cases e <;> simp [PyData.eqv]
  | str h => intro e; cases e <;> simp [PyData.eqv]
  | @list n xs hx ih =>
    intro e
    cases e with
    | list ys =>
      rw [PyData.eqv]
      have : PyData.eqvAll xs ys = true ↔ xs = ys := by
        clear hx
        induction xs generalizing ys with
        | nil => cases ys <;> simp [PyData.eqvAll]
        | cons x r ih2 =>
          cases ys with
          | nil => simp [PyData.eqvAll]
          | cons y t =>
            rw [PyData.eqvAll, Bool.and_eq_true, ih x (by simp), ih2 (fun z hz => ih z (by simp [hz]))]
            simp
      rw [this]
      simp
    | _ => simp [PyData.eqv]
  | @tuple n xs hx ih =>
    intro e
    cases e with
    | tuple ys =>
      rw [PyData.eqv]
      have : PyData.eqvAll xs ys = true ↔ xs = ys := by
        clear hx
        induction xs generalizing ys with
        | nil => cases ys <;> simp [PyData.eqvAll]
        | cons x r ih2 =>
          cases ys with
          | nil => simp [PyData.eqvAll]
          | cons y t =>
            rw [PyData.eqvAll, Bool.and_eq_true, ih x (by simp), ih2 (fun z hz => ih z (by simp [hz]))]
            simp
      rw [this]
      simp
    | _ => simp [PyData.eqv]
theorem Tx.eqD {k : Nat} {d e : D} (h : Tx k d) (h' : Tx k e) (hk : k ≤ 64) (hn : (∃ xs, d = .list xs) ∨ (∃ xs, d = .tuple xs) ∨ (∃ xs, e = .list xs) ∨ ∃ xs, e = .tuple xs) : Ev.eqD d e = some (PyData.eqv d e) := by
  have a := h.shaped hk
  have b := h'.shaped hk
  rcases hn with ⟨xs, rfl⟩ | ⟨xs, rfl⟩ | ⟨xs, rfl⟩ | ⟨xs, rfl⟩
  · cases e <;> simp [Ev.eqD, a, b]
  · cases e <;> simp [Ev.eqD, a, b]
  · cases d <;> simp [Ev.eqD, a, b]
  · cases d <;> simp [Ev.eqD, a, b]
theorem eq_nil {xs : List D} {k : Nat} (h : Tx k (.list xs)) (hk : k ≤ 64) : cmpD .eq (.list xs) (.list []) = some xs.isEmpty := by
  cases k with
  | zero => cases h
  | succ k =>
    rw [cmpD, h.eqD (.list (by simp)) hk (.inl ⟨_, rfl⟩)]
    cases xs <;> simp [PyData.eqv, PyData.eqvAll]
theorem ne_nilT {xs : List D} {k : Nat} (h : Tx k (.tuple xs)) (hk : k ≤ 64) : cmpD .ne (.tuple xs) (.tuple []) = some (!xs.isEmpty) := by
  cases k with
  | zero => cases h
  | succ k =>
    rw [cmpD, h.eqD (.tuple (by simp)) hk (.inr (.inl ⟨_, rfl⟩))]
    cases xs <;> simp [PyData.eqv, PyData.eqvAll]
end Ev.Pl


set_option Elab.async false
set_option linter.all false
set_option maxRecDepth 100000
set_option maxHeartbeats 40000000
namespace Ev.Pl
open PySem PySem.Spec PyProof.Rows L2
local macro_rules
  | `(tactic| ac_rfl) => `(tactic| repeat (first
    | with_reducible refine WPc.step ?_
    | with_reducible first | refine wE_call (by assumption) ?_ | refine wT_call (by assumption) ?_ | refine wE_callK (by assumption) ?_ | refine wT_callK (by assumption) ?_ | refine wE_dctK1 rfl rfl ?_ | refine wP_ite' rfl ?_ | refine wG.mk (by first | assumption | (show _ ≤ 16777216; omega) | (show _ < 16777216; omega) | omega | exact fit_of (by omega) (by omega) | (show _ ≤ 16777216; simp only [List.length_append, List.length_cons, List.length_nil, List.length_map]; omega) | (show _ < 16777216; simp only [List.length_append, List.length_cons, List.length_nil, List.length_map]; omega)) ?_
    | (fail_if_success with_reducible refine WSt.step ?_)
      first | refine wO_some ?_ | refine wP_some ?_ | refine wT_some ?_ | refine wI_tt ?_ | refine wI_ff ?_ | refine wA_mk rfl ?_ | refine wU_l rfl rfl ?_ | refine wG.mk (by first | exact Nat.le_of_ble_eq_true rfl | ((with_reducible refine kG ?_); rfl)) ?_))
/-- _law_tags -/
def F_law_tags (i_law_pick : Nat) : Fn := ⟨3, [true, false], (.seq (.set 2 (.lst (.cons (.cst (.str "a")) (.cons (.cst (.str "b")) (.cons (.cst (.str "c1")) (.cons (.cst (.str "a.c")) (.cons (.cst (.str "b.c")) (.cons (.cst (.str "a.d")) (.cons (.cst (.str "x")) (.cons (.cst (.str "x.c")) (.cons (.cst (.str "aa")) (.cons (.cst (.str "aa.d")) (.cons (.cst (.str "0")) (.cons (.cst (.str "b.d")) (.cons (.cst (.str "b.cc")) (.cons (.cst (.str "x.c1")) .nil))))))))))))))))
 (.ret (.call i_law_pick (.cons (.var 0) (.cons (.var 2) (.cons (.var 1) .nil))))))⟩
/-- _law_mesh -/
def F_law_mesh (i_law_take i_law_of : Nat) : Fn := ⟨6, [true, false, false], (.seq (.set 3 (.lst .nil))
 (.seq (.for_ (.name 4) (.range1 (.bin .add (.cst (.int 1)) (.call i_law_take (.cons (.var 0) (.cons (.var 2) .nil)))))
 (.seq (.set 5 (.call i_law_take (.cons (.var 0) (.cons (.cst (.int 6)) .nil))))
 (.app 3 (.ife (.cmp .lt (.var 5) (.cst (.int 3))) (.call i_law_of (.cons (.var 0) (.cons (.var 1) .nil))) (.ife (.cmp .lt (.var 5) (.cst (.int 5))) (.cst (.str "**")) (.call i_law_of (.cons (.var 0) (.cons (.lst (.cons (.cst (.str "*.c")) (.cons (.cst (.str "*.d")) (.cons (.cst (.str "*.cc")) .nil)))) .nil))))))))
 (.ret (.blt .tuple (.cons (.var 3) .nil)))))⟩
/-- _law_trail -/
def F_law_trail (i_law_take i_law_of : Nat) : Fn := ⟨5, [true, false, false], (.seq (.set 3 (.bin .add (.var 1) (.lst (.cons (.cst (.str "new")) (.cons (.cst (.str "new.c")) (.cons (.cst (.str "new.d")) (.cons (.cst (.str "new.cc")) .nil)))))))
 (.ret (.blt .tuple (.cons (.comp [4] (.name 4) (.range1 (.bin .add (.cst (.int 1)) (.call i_law_take (.cons (.var 0) (.cons (.var 2) .nil))))) .no (.call i_law_of (.cons (.var 0) (.cons (.var 3) .nil)))) .nil))))⟩
theorem strs_of {L : List Str} : ∀ {ys : List D}, (∀ y ∈ ys, y ∈ L.map PyData.str) → ∃ ss : List Str, ys = ss.map .str ∧ ∀ s ∈ ss, s ∈ L
  | [], _ => ⟨[], rfl, by simp⟩
  | y :: ys, h => by
    obtain ⟨ss, rfl, h2⟩ := strs_of (ys := ys) (fun z hz => h z (List.mem_cons_of_mem _ hz))
    obtain ⟨s, hs, rfl⟩ := List.mem_map.mp (h y (List.mem_cons_self ..))
    exact ⟨s :: ss, rfl, fun t ht => by
      rcases List.mem_cons.mp ht with rfl | ht
      · exact hs
      · exact h2 t ht⟩
/-- PickS, of texts -/
theorem PickS.strs {tbl : List Fn} {i N : Nat} (h : PickS tbl i N) {n : Nat} (hn : N ≤ n) {k m : Int} {box : D} {L : List Str} (hb : Bx k box) (hk : k < 1000000000000) (hl : L.length < 1000000) (hm : 0 ≤ m) (hL : L.Nodup) :
    wT (evCall tbl n i [box, .list (L.map .str), .int m]) fun d fl outs => ∃ (box' : D) (ss : List Str), d = .list (ss.map .str) ∧ fl = .ow ∧ outs = [box'] ∧ (∀ s ∈ ss, s ∈ L) ∧ ss.length = min m.toNat L.length ∧ ss.Nodup ∧ Bx (k + ss.length) box' := by
  refine (h n hn k box _ m hb hk (by simpa using hl) hm).imp ?_
  rintro d fl outs ⟨box', ys, zs, rfl, rfl, rfl, hp, hl', hB⟩
  obtain ⟨ss, rfl, h2⟩ := strs_of (L := L) (ys := ys) fun y hy => hp.mem_iff.mp (List.mem_append_left _ hy)
  rw [List.length_map] at hl' hB
  rw [List.length_map] at hl'
  refine ⟨box', ss, rfl, rfl, rfl, h2, hl', ?_, hB⟩
  have q : (L.map PyData.str).Nodup := List.Pairwise.map _ (fun a b hab e => hab (by cases e; rfl)) hL
  have q2 := (hp.nodup_iff.mpr q)
  have q3 := (List.nodup_append.mp q2).1
  exact List.Pairwise.of_map PyData.str (fun a b hab e => hab (by rw [e])) q3
def TAGS : List Str := ["a", "b", "c1", "a.c", "b.c", "a.d", "x", "x.c", "aa", "aa.d", "0", "b.d", "b.cc", "x.c1"]
theorem tags_nodup : TAGS.Nodup := by decide +kernel
def TagsS (tbl : List Fn) (i N : Nat) : Prop := ∀ n, N ≤ n → ∀ (k : Int) (box : D) (m : Int), Bx k box → k < 1000000000000 → 0 ≤ m → m ≤ 14 →
  wT (evCall tbl n i [box, .int m]) fun d fl outs => ∃ (box' : D) (ss : List Str), d = .list (ss.map .str) ∧ fl = .ow ∧ outs = [box'] ∧ (∀ s ∈ ss, s ∈ TAGS) ∧ ss.length = m.toNat ∧ ss.Nodup ∧ Bx (k + m) box'
theorem tagsS {tbl : List Fn} {i j N : Nat} (h : tbl[i]? = some (F_law_tags j)) (hj : PickS tbl j N) (hio : ioOf tbl j = [true, false, false]) : TagsS tbl i (N + 1) := fun n hn k box m hb hk h0 h1 => by
  obtain ⟨n, rfl⟩ : ∃ n', n = n' + 1 := ⟨n - 1, by omega⟩
  have hb' := hb
  obtain ⟨a, b, c, rfl, ha, hb, hb2, hc, hc'⟩ := hb
  rw [evCall_succ h]
  refine wO_fn rfl ?_
  ac_rfl
  refine (PickS.strs hj (n := n) (by omega) (L := TAGS) hb' hk (by decide) h0 tags_nodup).imp ?_
  rintro d fl outs ⟨box', ss, rfl, rfl, rfl, h2, h3, h4, hB⟩
  ac_rfl
  have e : TAGS.length = 14 := rfl
  rw [e] at h3
  exact ⟨_, ss, rfl, rfl, rfl, h2, by omega, h4, hB.le (by omega)⟩
def STARS : List Str := ["*.c", "*.d", "*.cc"]
theorem OfS.strs {tbl : List Fn} {i N : Nat} (h : OfS tbl i N) {n : Nat} (hn : N ≤ n) {k : Int} {box : D} {L : List Str} (hb : Bx k box) (hk : k < 1000000000000) (hl : L.length < 1000000) (h0 : L ≠ []) :
    wT (evCall tbl n i [box, .list (L.map .str)]) fun d fl outs => ∃ (box' : D) (s : Str), d = .str s ∧ fl = .sh ∧ outs = [box'] ∧ s ∈ L ∧ Bx (k + 1) box' := by
  refine (h n hn k box _ hb (by omega) (by simpa using h0) (by rw [List.length_map]; omega)).imp ?_
  rintro d fl outs ⟨box', rfl, rfl, hm, hB⟩
  obtain ⟨s, hs, rfl⟩ := List.mem_map.mp hm
  exact ⟨box', s, rfl, rfl, rfl, hs, hB⟩
/-- a drawn PATTERN -/
def MeshS (tbl : List Fn) (i N : Nat) : Prop := ∀ n, N ≤ n → ∀ (k : Int) (box : D) (ts : List Str) (m : Nat), Bx k box → k < 100000000000 → ts ≠ [] → ts.length < 1000 → 1 ≤ m → m ≤ 100 →
  wT (evCall tbl n i [box, .list (ts.map .str), .int m]) fun d fl outs => ∃ (box' : D) (ps : List Str), d = .tuple (ps.map .str) ∧ fl = .sh ∧ outs = [box'] ∧ (∀ p ∈ ps, p ∈ ts ∨ p = "**" ∨ p ∈ STARS) ∧ 1 ≤ ps.length ∧ ps.length ≤ m ∧ Bx (k + 2 * m + 1) box'
theorem bind1 {i : Nat} {d : D} {env env' : Env} (h : store env i d .sh = some env') : bindT (.name i) d env = some env' := h
theorem meshS {tbl : List Fn} {i j o N : Nat} (h : tbl[i]? = some (F_law_mesh j o)) (hj : TakeS tbl j N) (ho : OfS tbl o N) (hio : ioOf tbl j = [true, false]) (hio2 : ioOf tbl o = [true, false]) : MeshS tbl i (N + 1) := fun n hn k box ts m hb hk h0 hl h1 h2 => by
  obtain ⟨n, rfl⟩ : ∃ n', n = n' + 1 := ⟨n - 1, by omega⟩
  have hb' := hb
  obtain ⟨a, b, c, rfl, ha, hb, hb2, hc, hc'⟩ := hb
  rw [evCall_succ h]
  refine wO_fn rfl ?_
  ac_rfl
  refine wS_for ?_
  ac_rfl
  refine (hj n (by omega) k _ _ hb' (by omega) (by omega) (by omega)).imp ?_
  rintro d fl outs ⟨x, box', rfl, rfl, rfl, x0, x1, hB⟩
  ac_rfl
  refine ⟨fun rest en => ∃ (bx : D) (ps : List Str) (t4 t5 : Slot), en = [some (bx, .io), some (.list (ts.map .str), .sh), some (.int m, .sh), some (.list (ps.map .str), .ow), t4, t5] ∧ (∀ p ∈ ps, p ∈ ts ∨ p = "**" ∨ p ∈ STARS) ∧ rest.length + ps.length = (1 + x).toNat ∧ Bx (k + 1 + 2 * ps.length) bx ∧ (∀ t ∈ [t4, t5], t = none ∨ ∃ d, t = some (d, .sh)),
    ⟨box', [], none, none, rfl, by simp, by rw [rangeD_length]; rfl, by simpa using hB, by simp⟩, ?_, ?_⟩
  · rintro y r en ⟨bx, ps, t4, t5, rfl, hp, hr, hB, ht⟩
    rw [List.length_cons] at hr
    refine wO_of (a := [some (bx, .io), some (.list (ts.map .str), .sh), some (.int m, .sh), some (.list (ps.map .str), .ow), some (y, .sh), t5]) ?_ ?_
    · rcases ht t4 (by simp) with rfl | ⟨d, rfl⟩ <;> rfl
    ac_rfl
    refine (hj n (by omega) _ _ _ hB (by omega) (by omega) (by omega)).imp ?_
    rintro d fl outs ⟨w, box2, rfl, rfl, rfl, w0, w1, hB2⟩
    ac_rfl
    refine wO_of (a := [some (box2, .io), some (.list (ts.map .str), .sh), some (.int m, .sh), some (.list (ps.map .str), .ow), some (y, .sh), some (.int w, .sh)]) ?_ ?_
    · rcases ht t5 (by simp) with rfl | ⟨d, rfl⟩ <;> rfl
    have fin : ∀ (box3 : D) (s : Str), (s ∈ ts ∨ s = "**" ∨ s ∈ STARS) → Bx (k + 1 + 2 * ps.length + 2) box3 → ∃ (bx : D) (ps' : List Str) (t4 t5 : Slot), [some (box3, Fl.io), some (.list (ts.map .str), .sh), some (.int m, .sh), some (.list (ps.map .str ++ [.str s]), .ow), some (y, .sh), some (.int w, .sh)] = [some (bx, .io), some (.list (ts.map .str), .sh), some (.int m, .sh), some (.list (ps'.map .str), .ow), t4, t5] ∧ (∀ p ∈ ps', p ∈ ts ∨ p = "**" ∨ p ∈ STARS) ∧ r.length + ps'.length = (1 + x).toNat ∧ Bx (k + 1 + 2 * ps'.length) bx ∧ (∀ t ∈ [t4, t5], t = none ∨ ∃ d, t = some (d, .sh)) := fun box3 s hs hB3 =>
      ⟨box3, ps ++ [s], _, _, by rw [List.map_append]; rfl, fun p hp' => by
        rcases List.mem_append.mp hp' with z | z
        · exact hp p z
        · rw [List.mem_singleton.mp z]; exact hs, by rw [List.length_append]; simp; omega, by rw [List.length_append]; exact hB3.le (by simp; omega), by simp⟩
    have hlen : (ps.map PyData.str).length < LINE := by rw [List.length_map]; show _ < 16777216; omega
    ac_rfl
    refine ⟨fun q => ?_, fun q => ?_⟩
    · ac_rfl
      refine (OfS.strs ho (n := n) (by omega) hB2 (by omega) (by omega) h0).imp ?_
      rintro d fl outs ⟨box3, s, rfl, rfl, rfl, hs, hB3⟩
      ac_rfl
      exact fin _ _ (.inl hs) (hB3.le (by omega))
    · ac_rfl
      refine ⟨fun q => ?_, fun q => ?_⟩
      · ac_rfl
        exact fin _ _ (.inr (.inl rfl)) (hB2.le (by omega))
      · ac_rfl
        refine (OfS.strs ho (n := n) (by omega) (L := STARS) hB2 (by omega) (by decide) (by decide)).imp ?_
        rintro d fl outs ⟨box3, s, rfl, rfl, rfl, hs, hB3⟩
        ac_rfl
        exact fin _ _ (.inr (.inr hs)) (hB3.le (by omega))
  · rintro en ⟨bx, ps, t4, t5, rfl, hp, hr, hB, ht⟩
    ac_rfl
    simp at hr
    exact ⟨_, ps, rfl, rfl, rfl, hp, by omega, by omega, hB.le (by omega)⟩
def NEWS : List Str := ["new", "new.c", "new.d", "new.cc"]
/-- a drawn PATH -/
def TrailS (tbl : List Fn) (i N : Nat) : Prop := ∀ n, N ≤ n → ∀ (k : Int) (box : D) (ts : List Str) (m : Nat), Bx k box → k < 100000000000 → ts.length < 1000 → 1 ≤ m → m ≤ 1000 →
  wT (evCall tbl n i [box, .list (ts.map .str), .int m]) fun d fl outs => ∃ (box' : D) (ps : List Str), d = .tuple (ps.map .str) ∧ fl = .sh ∧ outs = [box'] ∧ (∀ p ∈ ps, p ∈ ts ++ NEWS) ∧ 1 ≤ ps.length ∧ ps.length ≤ m ∧ Bx (k + m + 1) box'
theorem trailS {tbl : List Fn} {i j o N : Nat} (h : tbl[i]? = some (F_law_trail j o)) (hj : TakeS tbl j N) (ho : OfS tbl o N) (hio : ioOf tbl j = [true, false]) (hio2 : ioOf tbl o = [true, false]) : TrailS tbl i (N + 1) := fun n hn k box ts m hb hk hl h1 h2 => by
  obtain ⟨n, rfl⟩ : ∃ n', n = n' + 1 := ⟨n - 1, by omega⟩
  have hb' := hb
  obtain ⟨a, b, c, rfl, ha, hb, hb2, hc, hc'⟩ := hb
  have hlen : (ts.map PyData.str).length < 1000 := by rw [List.length_map]; omega
  have hcat : ts.map PyData.str ++ [.str "new", .str "new.c", .str "new.d", .str "new.cc"] = (ts ++ NEWS).map PyData.str := by rw [List.map_append]; rfl
  rw [evCall_succ h]
  refine wO_fn rfl ?_
  ac_rfl
  rw [hcat]
  refine wE_comp ?_
  ac_rfl
  refine (hj n (by omega) k _ _ hb' (by omega) (by omega) (by omega)).imp ?_
  rintro d fl outs ⟨x, box', rfl, rfl, rfl, x0, x1, hB⟩
  ac_rfl
  refine ⟨fun rest out en => ∃ (bx : D) (ps : List Str) (t4 : Slot) (f3 : Fl), en = [some (bx, .io), some (.list (ts.map .str), .sh), some (.int m, .sh), some (.list ((ts ++ NEWS).map .str), f3), t4] ∧ f3 ≠ .io ∧ out = ps.map .str ∧ (∀ p ∈ ps, p ∈ ts ++ NEWS) ∧ rest.length + ps.length = (1 + x).toNat ∧ Bx (k + 1 + ps.length) bx,
    ⟨box', [], none, .ow, rfl, by decide, rfl, by simp, by rw [rangeD_length]; rfl, by simpa using hB⟩, ?_, ?_⟩
  · rintro y r out en ⟨bx, ps, t4, f3, rfl, hf, rfl, hp, hr, hB⟩
    rw [List.length_cons] at hr
    refine wO_of (a := [some (bx, .io), some (.list (ts.map .str), .sh), some (.int m, .sh), some (.list ((ts ++ NEWS).map .str), f3), some (y, .sh)]) rfl ?_
    refine wC_no (wI_tt ?_)
    have go : wP (evE (evCall tbl n) (ioOf tbl) (.call o (.cons (.var 0) (.cons (.var 3) .nil))) [some (bx, .io), some (.list (ts.map .str), .sh), some (.int m, .sh), some (.list ((ts ++ NEWS).map .str), f3), some (y, .sh)]) fun q e4 =>
        ∃ (box3 : D) (s : Str), q = .v (.str s) .sh ∧ s ∈ ts ++ NEWS ∧ Bx (k + 1 + ps.length + 1) box3 ∧ e4 = [some (box3, .io), some (.list (ts.map .str), .sh), some (.int m, .sh), some (.list ((ts ++ NEWS).map .str), .sh), some (y, .sh)] := by
      have hq : (ts ++ NEWS).length < 1000000 := by rw [List.length_append]; show _ + 4 < _; omega
      cases f3 with
      | io => exact (hf rfl).elim
      | ow =>
        ac_rfl
        refine (OfS.strs ho (n := n) (by omega) hB (by omega) hq (by simp [NEWS])).imp ?_
        rintro d fl outs ⟨box3, s, rfl, rfl, rfl, hs, hB3⟩
        ac_rfl
        exact ⟨_, _, rfl, hs, hB3, rfl⟩
      | sh =>
        ac_rfl
        refine (OfS.strs ho (n := n) (by omega) hB (by omega) hq (by simp [NEWS])).imp ?_
        rintro d fl outs ⟨box3, s, rfl, rfl, rfl, hs, hB3⟩
        ac_rfl
        exact ⟨_, _, rfl, hs, hB3, rfl⟩
    refine go.imp ?_
    rintro q e4 ⟨box3, s, rfl, hs, hB3, rfl⟩
    ac_rfl
    refine ⟨box3, ps ++ [s], some (y, .sh), .sh, rfl, by decide, by rw [List.map_append]; rfl, fun p hp' => by
        rcases List.mem_append.mp hp' with z | z
        · exact hp p z
        · rw [List.mem_singleton.mp z]; exact hs, by rw [List.length_append]; simp; omega, by rw [List.length_append]; exact hB3.le (by simp; omega)⟩
  · rintro ys en ⟨bx, ps, t4, f3, rfl, hf, rfl, hp, hr, hB⟩
    simp at hr
    refine ⟨by rw [List.length_map]; show _ ≤ 16777216; omega, ?_⟩
    cases f3 with
    | io => exact (hf rfl).elim
    | ow =>
      ac_rfl
      exact ⟨_, ps, rfl, rfl, rfl, hp, by omega, by omega, hB.le (by omega)⟩
    | sh =>
      ac_rfl
      exact ⟨_, ps, rfl, rfl, rfl, hp, by omega, by omega, hB.le (by omega)⟩
end Ev.Pl


set_option Elab.async false
set_option linter.all false
set_option maxRecDepth 100000
set_option maxHeartbeats 40000000
namespace Ev.Pl
open PySem PySem.Spec PyProof.Rows L2
local macro_rules
  | `(tactic| ac_rfl) => `(tactic| repeat (first
    | with_reducible refine WPc.step ?_
    | with_reducible first | refine wE_call (by assumption) ?_ | refine wT_call (by assumption) ?_ | refine wE_callK (by assumption) ?_ | refine wT_callK (by assumption) ?_ | refine wE_dctK1 rfl rfl ?_ | refine wP_ite' rfl ?_ | refine wG.mk (by first | assumption | (show _ ≤ 16777216; omega) | (show _ < 16777216; omega) | omega | exact fit_of (by omega) (by omega) | (show _ ≤ 16777216; simp only [List.length_append, List.length_cons, List.length_nil, List.length_map]; omega) | (show _ < 16777216; simp only [List.length_append, List.length_cons, List.length_nil, List.length_map]; omega)) ?_
    | (fail_if_success with_reducible refine WSt.step ?_)
      first | refine wO_some ?_ | refine wP_some ?_ | refine wT_some ?_ | refine wI_tt ?_ | refine wI_ff ?_ | refine wA_mk rfl ?_ | refine wU_l rfl rfl ?_ | refine wG.mk (by first | exact Nat.le_of_ble_eq_true rfl | ((with_reducible refine kG ?_); rfl)) ?_))
/-- _law_rows -/
def F_law_rows (i_law_take i_law_of i_law_mesh : Nat) : Fn := ⟨7, [true, false, false, false], (.seq (.par2 5 6 (.lst .nil) (.call i_law_of (.cons (.var 0) (.cons (.lst (.cons (.cst (.str "out")) (.cons (.cst (.str "out")) (.cons (.cst (.str "keep")) .nil)))) .nil))))
 (.seq (.for_ (.name 4) (.range1 (.var 2))
 (.seq (.app 5 (.tup (.cons (.var 6) (.cons (.call i_law_mesh (.cons (.var 0) (.cons (.var 1) (.cons (.var 3) .nil)))) .nil))))
 (.set 6 (.ife (.cmp .eq (.call i_law_take (.cons (.var 0) (.cons (.cst (.int 4)) .nil))) (.cst (.int 0))) (.var 6) (.ife (.cmp .eq (.var 6) (.cst (.str "out"))) (.cst (.str "keep")) (.cst (.str "out")))))))
 (.ret (.blt .tuple (.cons (.var 5) .nil)))))⟩
/-! ### slots -/
/-- a slot that no caller shares -/
theorem st_ok {env : Env} {i : Nat} {t : Slot} {d : D} {f : Fl} (h : env[i]? = some t) (hn : Nio t) : store env i d f = some (env.set i (some (d, f))) := by
  unfold store
  rw [h]
  rcases t with _ | ⟨d', f'⟩
  · rfl
  · cases f' with
    | io => exact (hn _ rfl).elim
    | sh => rfl
    | ow => rfl
theorem stR_ok {env : Env} {i : Nat} {t : Slot} {d : D} {f : Fl} (h : env[i]? = some t) (hn : Nio t) : storeR (.v d f) env i = some (env.set i (some (d, f))) := st_ok h hn
theorem at0 {x : D} {r : List D} : atI (x :: r) 0 = some x := by
  rw [atI, ixN_nat (by decide) (by simp only [List.length_cons]; omega)]
  rfl
/-! ### LINEs -/
abbrev Ln := Str × List Str
def lineD (l : Ln) : D := .tuple [.str l.1, .tuple (l.2.map .str)]
/-- a PATTERN of some names -/
def PatOf (ts : List Str) (m : Nat) (p : List Str) : Prop := (∀ x ∈ p, x ∈ ts ∨ x = "**" ∨ x ∈ STARS) ∧ 1 ≤ p.length ∧ p.length ≤ m
def LnOf (ts : List Str) (m : Nat) (l : Ln) : Prop := (l.1 = "out" ∨ l.1 = "keep") ∧ PatOf ts m l.2
def RowsS (tbl : List Fn) (i N : Nat) : Prop := ∀ n, N ≤ n → ∀ (k : Int) (box : D) (ts : List Str) (many m : Nat), Bx k box → k < 10000000000 → ts ≠ [] → ts.length < 1000 → many ≤ 1000 → 1 ≤ m → m ≤ 100 →
  wT (evCall tbl n i [box, .list (ts.map .str), .int many, .int m]) fun d fl outs => ∃ (box' : D) (ls : List Ln), d = .tuple (ls.map lineD) ∧ fl = .sh ∧ outs = [box'] ∧ (∀ l ∈ ls, LnOf ts m l) ∧ ls.length = many ∧ Bx (k + 1 + 300 * many) box'
theorem rowsS {tbl : List Fn} {i j o e N : Nat} (h : tbl[i]? = some (F_law_rows j o e)) (hj : TakeS tbl j N) (ho : OfS tbl o N) (he : MeshS tbl e N) (hio : ioOf tbl j = [true, false]) (hio2 : ioOf tbl o = [true, false]) (hio3 : ioOf tbl e = [true, false, false]) : RowsS tbl i (N + 1) := fun n hn k box ts many m hb hk h0 hl hm h1 h2 => by
  obtain ⟨n, rfl⟩ : ∃ n', n = n' + 1 := ⟨n - 1, by omega⟩
  have hb' := hb
  obtain ⟨a, b, c, rfl, ha, hb, hb2, hc, hc'⟩ := hb
  rw [evCall_succ h]
  refine wO_fn rfl ?_
  ac_rfl
  refine (OfS.strs ho (n := n) (by omega) (L := ["out", "out", "keep"]) hb' (by omega) (by decide) (by decide)).imp ?_
  rintro d fl outs ⟨box', w, rfl, rfl, rfl, hw, hB⟩
  have hw' : w = "out" ∨ w = "keep" := by simpa using hw
  ac_rfl
  refine wS_for ?_
  ac_rfl
  refine ⟨fun rest en => ∃ (bx : D) (ls : List Ln) (w : Str) (t4 : Slot), en = [some (bx, .io), some (.list (ts.map .str), .sh), some (.int many, .sh), some (.int m, .sh), t4, some (.list (ls.map lineD), .ow), some (.str w, .sh)] ∧ (w = "out" ∨ w = "keep") ∧ (∀ l ∈ ls, LnOf ts m l) ∧ rest.length + ls.length = many ∧ Bx (k + 1 + 300 * ls.length) bx ∧ Nio t4,
    ⟨box', [], w, none, rfl, hw', by simp, by rw [rangeD_length]; simp, by simpa using hB, nio_none⟩, ?_, ?_⟩
  · rintro y r en ⟨bx, ls, w, t4, rfl, hw, hls, hr, hB, n4⟩
    rw [List.length_cons] at hr
    have hlen : (ls.map lineD).length < LINE := by rw [List.length_map]; show _ < 16777216; omega
    refine wO_of (st_ok (i := 4) rfl n4) ?_
    ac_rfl
    refine (he n (by omega) _ _ ts m hB (by omega) h0 hl h1 h2).imp ?_
    rintro d fl outs ⟨bx2, p, rfl, rfl, rfl, hp, p1, p2, hB2⟩
    ac_rfl
    refine (hj n (by omega) _ _ _ hB2 (by omega) (by omega) (by omega)).imp ?_
    rintro d fl outs ⟨x, bx3, rfl, rfl, rfl, x0, x1, hB3⟩
    have fin : ∀ w' : Str, (w' = "out" ∨ w' = "keep") → ∃ (bx : D) (ls' : List Ln) (w'' : Str) (t4 : Slot), ([some (bx3, Fl.io), some (.list (ts.map .str), .sh), some (.int many, .sh), some (.int m, .sh), some (y, .sh), some (.list (ls.map lineD ++ [.tuple [.str w, .tuple (p.map .str)]]), .ow), some (.str w', .sh)] : Env) = [some (bx, .io), some (.list (ts.map .str), .sh), some (.int many, .sh), some (.int m, .sh), t4, some (.list (ls'.map lineD), .ow), some (.str w'', .sh)] ∧ (w'' = "out" ∨ w'' = "keep") ∧ (∀ l ∈ ls', LnOf ts m l) ∧ r.length + ls'.length = many ∧ Bx (k + 1 + 300 * ls'.length) bx ∧ Nio t4 := fun w' hw' =>
      ⟨bx3, ls ++ [(w, p)], w', _, by rw [List.map_append]; rfl, hw', fun l hl => by
        rcases List.mem_append.mp hl with z | z
        · exact hls l z
        · rw [List.mem_singleton.mp z]; exact ⟨hw, hp, p1, p2⟩, by rw [List.length_append]; simp; omega, by rw [List.length_append]; exact hB3.le (by simp; omega), nio_sh⟩
    ac_rfl
    refine ⟨fun q => ?_, fun q => ?_⟩
    · ac_rfl
      exact fin w hw
    · ac_rfl
      refine ⟨fun q => ?_, fun q => ?_⟩
      · ac_rfl
        exact fin _ (.inr rfl)
      · ac_rfl
        exact fin _ (.inl rfl)
  · rintro en ⟨bx, ls, w, t4, rfl, hw, hls, hr, hB, n4⟩
    ac_rfl
    simp at hr
    exact ⟨_, ls, rfl, rfl, rfl, hls, hr, hB.le (by omega)⟩
end Ev.Pl


set_option Elab.async false
set_option linter.all false
set_option maxRecDepth 100000
set_option maxHeartbeats 40000000
namespace Ev.Pl
open PySem PySem.Spec PyProof.Rows L2
local macro_rules
  | `(tactic| ac_rfl) => `(tactic| repeat (first
    | with_reducible refine WPc.step ?_
    | with_reducible first | refine wE_call (by assumption) ?_ | refine wT_call (by assumption) ?_ | refine wE_callK (by assumption) ?_ | refine wT_callK (by assumption) ?_ | refine wE_dctK1 rfl rfl ?_ | refine wP_ite' rfl ?_ | refine wG.mk (by first | assumption | (show _ ≤ 16777216; omega) | (show _ < 16777216; omega) | omega | exact fit_of (by omega) (by omega) | (show _ ≤ 16777216; simp only [List.length_append, List.length_cons, List.length_nil, List.length_map]; omega) | (show _ < 16777216; simp only [List.length_append, List.length_cons, List.length_nil, List.length_map]; omega)) ?_
    | (fail_if_success with_reducible refine WSt.step ?_)
      first | refine wO_some ?_ | refine wP_some ?_ | refine wT_some ?_ | refine wI_tt ?_ | refine wI_ff ?_ | refine wA_mk rfl ?_ | refine wU_l rfl rfl ?_ | refine wG.mk (by first | exact Nat.le_of_ble_eq_true rfl | ((with_reducible refine kG ?_); rfl)) ?_))
/-- ending_of -/
def F_ending_of : Fn := ⟨1, [false], (.ret (.ife (.cmp .isin (.cst (.str ".")) (.var 0)) (.slc (.var 0) (.yes (.mth .index (.var 0) (.cons (.cst (.str ".")) .nil))) .no) (.cst (.str ""))))⟩
/-- fits -/
def F_fits (i_ending_of : Nat) : Fn := ⟨2, [false, false], (.ret (.or (.cmp .eq (.var 0) (.var 1)) (.and (.cmp .eq (.ix (.var 0) (.cst (.int 0))) (.cst (.str "*"))) (.and (.cmp .ne (.var 1) (.cst (.str "**"))) (.cmp .eq (.call i_ending_of (.cons (.var 1) .nil)) (.slc (.var 0) (.yes (.cst (.int 1))) .no))))))⟩
/-- table_of -/
def F_table_of (i_fits : Nat) : Fn := ⟨5, [false, false], (.seq (.set 2 .dct)
 (.seq (.for_ (.name 3) (.range3 (.blt .len (.cons (.var 0) .nil)) (.neg (.cst (.int 1))) (.neg (.cst (.int 1))))
 (.for_ (.name 4) (.range3 (.blt .len (.cons (.var 1) .nil)) (.neg (.cst (.int 1))) (.neg (.cst (.int 1))))
 (.ite (.cmp .eq (.var 3) (.blt .len (.cons (.var 0) .nil)))
 (.put 2 (.tup (.cons (.var 3) (.cons (.var 4) .nil))) (.cmp .eq (.var 4) (.blt .len (.cons (.var 1) .nil))))
 (.ite (.cmp .eq (.ix (.var 0) (.var 3)) (.cst (.str "**")))
 (.put 2 (.tup (.cons (.var 3) (.cons (.var 4) .nil))) (.or (.ix (.var 2) (.tup (.cons (.bin .add (.var 3) (.cst (.int 1))) (.cons (.var 4) .nil)))) (.and (.cmp .lt (.var 4) (.blt .len (.cons (.var 1) .nil))) (.ix (.var 2) (.tup (.cons (.var 3) (.cons (.bin .add (.var 4) (.cst (.int 1))) .nil)))))))
 (.put 2 (.tup (.cons (.var 3) (.cons (.var 4) .nil))) (.and (.cmp .lt (.var 4) (.blt .len (.cons (.var 1) .nil))) (.and (.call i_fits (.cons (.ix (.var 0) (.var 3)) (.cons (.ix (.var 1) (.var 4)) .nil))) (.ix (.var 2) (.tup (.cons (.bin .add (.var 3) (.cst (.int 1))) (.cons (.bin .add (.var 4) (.cst (.int 1))) .nil)))))))))))
 (.ret (.var 2))))⟩
/-- matches -/
def F_matches (i_table_of : Nat) : Fn := ⟨2, [false, false], (.ret (.ix (.call i_table_of (.cons (.var 0) (.cons (.var 1) .nil))) (.tup (.cons (.cst (.int 0)) (.cons (.cst (.int 0)) .nil)))))⟩
/-- _law_ending -/
def F_law_ending : Fn := ⟨1, [false], (.ret (.ife (.cmp .isin (.cst (.str ".")) (.var 0)) (.bin .add (.cst (.str ".")) (.ix (.mth .split (.var 0) (.cons (.cst (.str ".")) .nil)) (.cst (.int 1)))) (.cst (.str ""))))⟩
/-- _law_fits -/
def F_law_fits (i_law_ending : Nat) : Fn := ⟨2, [false, false], (.ret (.or (.cmp .eq (.var 0) (.var 1)) (.and (.cmp .eq (.slc (.var 0) .no (.yes (.cst (.int 2)))) (.cst (.str "*."))) (.and (.cmp .ne (.var 1) (.cst (.str "**"))) (.cmp .eq (.call i_law_ending (.cons (.var 1) .nil)) (.slc (.var 0) (.yes (.cst (.int 1))) .no))))))⟩
/-- _law_takes -/
def F_law_takes (i_law_fits : Nat) : Fn := ⟨7, [false, false], (.seq (.set 2 (.dctK1 (.int 0) (.bool true)))
 (.seq (.for_ (.name 3) (.seq (.var 0))
 (.for_ (.name 5) (.range1 (.blt .len (.cons (.var 0) .nil)))
 (.ite (.and (.cmp .isin (.var 5) (.var 2)) (.cmp .eq (.ix (.var 0) (.var 5)) (.cst (.str "**"))))
 (.put 2 (.bin .add (.var 5) (.cst (.int 1))) (.cst (.bool true)))
 .pass)))
 (.seq (.for_ (.name 4) (.seq (.var 1))
 (.seq (.set 6 .dctK)
 (.seq (.for_ (.name 5) (.range1 (.blt .len (.cons (.var 0) .nil)))
 (.seq (.ite (.and (.cmp .isin (.var 5) (.var 2)) (.cmp .eq (.ix (.var 0) (.var 5)) (.cst (.str "**"))))
 (.put 6 (.var 5) (.cst (.bool true)))
 .pass)
 (.ite (.and (.cmp .isin (.var 5) (.var 2)) (.and (.cmp .ne (.ix (.var 0) (.var 5)) (.cst (.str "**"))) (.call i_law_fits (.cons (.ix (.var 0) (.var 5)) (.cons (.var 4) .nil)))))
 (.put 6 (.bin .add (.var 5) (.cst (.int 1))) (.cst (.bool true)))
 .pass)))
 (.seq (.for_ (.name 3) (.seq (.var 0))
 (.for_ (.name 5) (.range1 (.blt .len (.cons (.var 0) .nil)))
 (.ite (.and (.cmp .isin (.var 5) (.var 6)) (.cmp .eq (.ix (.var 0) (.var 5)) (.cst (.str "**"))))
 (.put 6 (.bin .add (.var 5) (.cst (.int 1))) (.cst (.bool true)))
 .pass)))
 (.set 2 (.var 6))))))
 (.ret (.cmp .isin (.blt .len (.cons (.var 0) .nil)) (.var 2))))))⟩
/-! ### names and pieces: what is reckoned of their texts -/
def endOf (s : Str) : Str := if inStr "." s = true then (match Txt.index0 s "." with
  | some k => cutS s (some (k : Nat)) none
  | none => "") else ""
/-- the first sign -/
def headS (s : Str) : Str := match s.cps.toList with
  | c :: _ => ⟨#[c]⟩
  | [] => ""
def fitB (p s : Str) : Bool := decide (p = s) || (decide (headS p = "*") && (!decide (s = "**") && decide (endOf s = cutS p (some 1) none)))
def lendOf (s : Str) : Str := if inStr "." s = true then (match (Txt.split s ".")[1]? with
  | some t => "." ++ t
  | none => "") else ""
def lfitB (p s : Str) : Bool := decide (p = s) || (decide (cutS p none (some 2) = "*.") && (!decide (s = "**") && decide (lendOf s = cutS p (some 1) none)))
/-- a text as the laws draw them -/
def okS (s : Str) : Bool := decide (s.length ≤ 1000) && decide (s.cps.toList ≠ []) && (!inStr "." s || ((Txt.index0 s ".").isSome && decide (2 ≤ (Txt.split s ".").length) && (match (Txt.split s ".")[1]? with
  | some t => decide (t.length ≤ 1000)
  | none => false))) && PyData.strOk s
def EndS (tbl : List Fn) (i : Nat) : Prop := ∀ n, 1 ≤ n → ∀ s : Str, okS s = true → evCall tbl n i [.str s] = some (.str (endOf s), .sh, [])
theorem okS_len {s : Str} (h : okS s = true) : s.length ≤ 1000 := by
  unfold okS at h
  simp only [Bool.and_eq_true, decide_eq_true_eq] at h
  exact h.1.1.1
theorem endS {tbl : List Fn} {i : Nat} (h : tbl[i]? = some F_ending_of) : EndS tbl i := fun n hn s hs => by
  obtain ⟨n, rfl⟩ : ∃ n', n = n' + 1 := ⟨n - 1, by omega⟩
  have hl := okS_len hs
  rw [evCall_succ h]
  refine wT_eq (wO_fn rfl ?_)
  ac_rfl
  refine ⟨fun q => ?_, fun q => ?_⟩
  · have hi : (Txt.index0 s ".").isSome = true := by
      unfold okS at hs
      simp only [Bool.and_eq_true, Bool.or_eq_true, Bool.not_eq_true'] at hs
      rcases hs.1.2 with z | z
      · rw [q] at z; cases z
      · exact z.1.1
    obtain ⟨k, hk⟩ := Option.isSome_iff_exists.mp hi
    ac_rfl
    refine wP_of (a := .int (k : Nat)) (b := .sh) (by rw [mthD, hk]; rfl) ?_
    ac_rfl
    refine wP_of (a := .str (cutS s (some (k : Nat)) none)) (b := .sh) (by rw [slcD, if_pos (by show _ ≤ 16777216; omega)]) ?_
    ac_rfl
    refine ⟨?_, rfl, rfl⟩
    rw [endOf, if_pos q, hk]
  · ac_rfl
    refine ⟨?_, rfl, rfl⟩
    rw [endOf, if_neg (by rw [q]; decide)]
def FitS (tbl : List Fn) (i : Nat) : Prop := ∀ n, 2 ≤ n → ∀ p s : Str, okS p = true → okS s = true → evCall tbl n i [.str p, .str s] = some (.bool (fitB p s), .sh, [])
theorem okS_head {s : Str} (h : okS s = true) : ixD (.str s) (.int 0) = some (.str (headS s)) := by
  have hl := okS_len h
  unfold okS at h
  simp only [Bool.and_eq_true, decide_eq_true_eq] at h
  have h2 := h.1.1.2
  rw [ixD, if_pos (by show _ ≤ 16777216; omega)]
  unfold headS
  cases e : s.cps.toList with
  | nil => exact absurd e h2
  | cons c r =>
    rw [atI, ixN_nat (by decide) (by simp only [List.length_cons]; omega)]
    rfl
theorem fitS {tbl : List Fn} {i j : Nat} (h : tbl[i]? = some (F_fits j)) (hj : EndS tbl j) (hio : ioOf tbl j = [false]) : FitS tbl i := fun n hn p s hp hs => by
  obtain ⟨n, rfl⟩ : ∃ n', n = n' + 1 := ⟨n - 1, by omega⟩
  have hl := okS_len hp
  rw [evCall_succ h]
  refine wT_eq (wO_fn rfl ?_)
  ac_rfl
  refine ⟨fun q => ?_, fun q => ?_⟩
  · ac_rfl
    refine ⟨?_, rfl, rfl⟩
    rw [fitB, q]
    rfl
  · ac_rfl
    refine wO_of (okS_head hp) ?_
    ac_rfl
    refine ⟨fun q2 => ?_, fun q2 => ?_⟩
    · ac_rfl
      refine ⟨fun q3 => ?_, fun q3 => ?_⟩
      · ac_rfl
        refine wT_of (hj n (by omega) s hs) ?_
        ac_rfl
        refine wP_of (a := .str (cutS p (some 1) none)) (b := .sh) (by rw [slcD, if_pos (by show _ ≤ 16777216; omega)]) ?_
        ac_rfl
        refine ⟨?_, rfl, rfl⟩
        rw [fitB, q, q2, q3]
        rfl
      · ac_rfl
        refine ⟨?_, rfl, rfl⟩
        rw [fitB, q, q2, q3]
        rfl
    · ac_rfl
      refine ⟨?_, rfl, rfl⟩
      rw [fitB, q, q2]
      rfl
end Ev.Pl


set_option Elab.async false
set_option linter.all false
set_option maxRecDepth 100000
set_option maxHeartbeats 40000000
namespace Ev.Pl
open PySem PySem.Spec PyProof.Rows L2
local macro_rules
  | `(tactic| ac_rfl) => `(tactic| repeat (first
    | with_reducible refine WPc.step ?_
    | with_reducible first | refine wE_call (by assumption) ?_ | refine wT_call (by assumption) ?_ | refine wE_callK (by assumption) ?_ | refine wT_callK (by assumption) ?_ | refine wE_dctK1 rfl rfl ?_ | refine wP_ite' rfl ?_ | refine wG.mk (by first | assumption | (show _ ≤ 16777216; omega) | (show _ < 16777216; omega) | omega | exact fit_of (by omega) (by omega) | (show _ ≤ 16777216; simp only [List.length_append, List.length_cons, List.length_nil, List.length_map]; omega) | (show _ < 16777216; simp only [List.length_append, List.length_cons, List.length_nil, List.length_map]; omega)) ?_
    | (fail_if_success with_reducible refine WSt.step ?_)
      first | refine wO_some ?_ | refine wP_some ?_ | refine wT_some ?_ | refine wI_tt ?_ | refine wI_ff ?_ | refine wA_mk rfl ?_ | refine wU_l rfl rfl ?_ | refine wG.mk (by first | exact Nat.le_of_ble_eq_true rfl | ((with_reducible refine kG ?_); rfl)) ?_))
/-! ### what a PATTERN matches -/
def starB (f : List Str → Bool) : List Str → Bool
  | [] => f []
  | s :: r => f (s :: r) || starB f r
def mtB : List Str → List Str → Bool
  | [], r => r.isEmpty
  | p :: ps, r => if p = "**" then starB (mtB ps) r else (match r with
    | [] => false
    | s :: r' => fitB p s && mtB ps r')
theorem mtB_many {p : Str} {ps r : List Str} (h : p = "**") : mtB (p :: ps) r = starB (mtB ps) r := by
  rw [mtB.eq_def]
  exact if_pos h
theorem mtB_one {p : Str} {ps r : List Str} (h : ¬ p = "**") : mtB (p :: ps) r = (match r with
    | [] => false
    | s :: r' => fitB p s && mtB ps r') := by
  rw [mtB.eq_def]
  exact if_neg h
theorem starB_eq (f : List Str → Bool) (r : List Str) : starB f r = (f r || (match r with
    | [] => false
    | _ :: t => starB f t)) := by
  cases r <;> simp [starB]
/-! ### dicts -/
theorem isTup (k : D) : (∃ l, k = .tuple l) ∨ ∀ l, k ≠ .tuple l := by
  cases k <;> first | exact .inl ⟨_, rfl⟩ | exact .inr fun l e => by cases e
section
variable {k v : D} {l : List D} {r : List (D × D)} {ks : List Key}
theorem dGet_t : dGet ((.tuple l, v) :: r) ks = if keysD l = some ks then some v else dGet r ks := rfl
theorem dGet_o (h : ∀ l, k ≠ .tuple l) : dGet ((k, v) :: r) ks = dGet r ks := by
  cases k <;> first | rfl | exact (h _ rfl).elim
theorem dHas_t : dHas ((.tuple l, v) :: r) ks = (decide (keysD l = some ks) || dHas r ks) := rfl
theorem dHas_o (h : ∀ l, k ≠ .tuple l) : dHas ((k, v) :: r) ks = dHas r ks := by
  cases k <;> first | rfl | exact (h _ rfl).elim
theorem dSet_t {w : D} : dSet ((.tuple l, v) :: r) ks w = (if keysD l = some ks then (.tuple l, w) else (.tuple l, v)) :: dSet r ks w := rfl
theorem dSet_o {w : D} (h : ∀ l, k ≠ .tuple l) : dSet ((k, v) :: r) ks w = (k, v) :: dSet r ks w := by
  cases k <;> first | rfl | exact (h _ rfl).elim
end
theorem dHas_get (ks : List Key) : ∀ kvs : List (D × D), dHas kvs ks = (dGet kvs ks).isSome
  | [] => rfl
  | (k, v) :: r => by
    have ih := dHas_get ks r
    rcases isTup k with ⟨l, rfl⟩ | h
    · rw [dHas_t, dGet_t, ih]
      by_cases h : keysD l = some ks
      · rw [if_pos h, decide_eq_true h]; rfl
      · rw [if_neg h, decide_eq_false h]; rfl
    · rw [dHas_o h, dGet_o h, ih]
theorem dGet_app (ks : List Key) (x : D × D) : ∀ kvs : List (D × D), dGet kvs ks = none → dGet (kvs ++ [x]) ks = dGet [x] ks
  | [], _ => rfl
  | (k, v) :: r, h => by
    rw [List.cons_append]
    rcases isTup k with ⟨l, rfl⟩ | q
    · rw [dGet_t] at h ⊢
      by_cases q : keysD l = some ks
      · rw [if_pos q] at h; cases h
      · rw [if_neg q] at h ⊢
        exact dGet_app ks x r h
    · rw [dGet_o q] at h ⊢
      exact dGet_app ks x r h
theorem dGet_app' (ks : List Key) (x : D × D) {v : D} : ∀ kvs : List (D × D), dGet kvs ks = some v → dGet (kvs ++ [x]) ks = some v
  | [], h => by cases h
  | (k, w) :: r, h => by
    rw [List.cons_append]
    rcases isTup k with ⟨l, rfl⟩ | q
    · rw [dGet_t] at h ⊢
      by_cases q : keysD l = some ks
      · rw [if_pos q] at h ⊢; exact h
      · rw [if_neg q] at h ⊢
        exact dGet_app' ks x r h
    · rw [dGet_o q] at h ⊢
      exact dGet_app' ks x r h
theorem dGet_set (ks ks' : List Key) (v : D) : ∀ kvs : List (D × D), dGet (dSet kvs ks v) ks' = if ks = ks' then (if dHas kvs ks = true then some v else none) else dGet kvs ks'
  | [] => by simp [dSet, dGet, dHas]
  | (k, w) :: r => by
    have ih := dGet_set ks ks' v r
    rcases isTup k with ⟨l, rfl⟩ | q
    · rw [dSet_t, dHas_t, dGet_t (v := w)]
      by_cases q : keysD l = some ks
      · rw [if_pos q, dGet_t, q, decide_eq_true rfl, ih]
        by_cases h : ks = ks'
        · subst h
          simp
        · have h' : ¬ (some ks : Option (List Key)) = some ks' := fun e => h (Option.some.inj e)
          rw [if_neg h', if_neg h, if_neg h, if_neg h']
      · rw [if_neg q, dGet_t, decide_eq_false q, ih, Bool.false_or]
        by_cases h : ks = ks'
        · subst h
          rw [if_neg q, if_pos rfl, if_pos rfl]
        · rw [if_neg h, if_neg h]
    · rw [dSet_o q, dHas_o q, dGet_o q, dGet_o q, ih]
theorem dGet_put (l : List D) (ks ks' : List Key) (v : D) (kvs : List (D × D)) (hl : keysD l = some ks) : dGet (dPut kvs l ks v) ks' = if ks = ks' then some v else dGet kvs ks' := by
  unfold dPut
  by_cases h : dHas kvs ks = true
  · rw [if_pos h, dGet_set]
    by_cases e : ks = ks'
    · rw [if_pos e, if_pos e, if_pos h]
    · rw [if_neg e, if_neg e]
  · rw [if_neg h]
    have hn : dGet kvs ks = none := by
      rw [dHas_get] at h
      simpa using h
    by_cases e : ks = ks'
    · subst e
      rw [if_pos rfl, dGet_app ks _ kvs hn, dGet_t, if_pos hl]
    · rw [if_neg e]
      have hne : ¬ keysD l = some ks' := fun z => e (by rw [hl] at z; exact Option.some.inj z)
      cases q : dGet kvs ks' with
      | none =>
        rw [dGet_app ks' _ kvs q, dGet_t, if_neg hne]
        rfl
      | some w => exact dGet_app' ks' _ kvs q
theorem dPut_len (l : List D) (ks : List Key) (v : D) (kvs : List (D × D)) : (dPut kvs l ks v).length ≤ kvs.length + 1 := by
  unfold dPut dSet
  split
  · rw [List.length_map]; omega
  · rw [List.length_append]; simp
theorem unMk_head {x : D × D} {r r' : List (D × D)} (h : unMk (x :: r) = none) : unMk (x :: r') = none := by
  obtain ⟨k, w⟩ := x
  cases k <;> first | rfl | (cases w <;> first | rfl | cases h)
theorem unMk_put {l : List D} {ks : List Key} {v : D} {kvs : List (D × D)} (h : unMk kvs = none) : unMk (dPut kvs l ks v) = none := by
  unfold dPut
  cases kvs with
  | nil => split <;> rfl
  | cons kv r =>
    obtain ⟨k, w⟩ := kv
    split
    · rcases isTup k with ⟨l', rfl⟩ | q
      · rw [dSet_t]
        split <;> rfl
      · rw [dSet_o q]
        exact unMk_head h
    · rw [List.cons_append]
      exact unMk_head h
/-! ### the table -/
theorem keysD_int2 (a b : Int) : keysD [.int a, .int b] = some [.inl a, .inl b] := rfl
theorem keyT_int2 (a b : Int) : keyT [.int a, .int b] = some [.inl a, .inl b] := rfl
/-- a row: a tuple or a list -/
def SqD (d : D) (xs : List D) : Prop := d = .tuple xs ∨ d = .list xs
theorem SqD.len {d : D} {xs : List D} (h : SqD d xs) : bltD .len [d] = some (.int xs.length, .sh) := by
  rcases h with rfl | rfl <;> rfl
theorem SqD.ix {d : D} {xs : List D} (h : SqD d xs) (i : Int) : ixD d (.int i) = atI xs i := by
  rcases h with rfl | rfl <;> rfl
theorem SqD.items {d : D} {xs : List D} (h : SqD d xs) : seqItems d = some xs := by
  rcases h with rfl | rfl <;> rfl
theorem rangeD_cons {a c : Int} {n : Nat} : rangeD a c (n + 1) = .int a :: rangeD (a + c) c n := rfl
/-- what a table says of a pair of places -/
def Tab (p r : List Str) (m k : Nat) (kvs : List (D × D)) : Prop := ∀ a s : Nat, a ≤ p.length → s ≤ r.length → (m < a ∨ (a = m ∧ k ≤ s)) → dGet kvs [.inl a, .inl s] = some (.bool (mtB (p.drop a) (r.drop s)))
theorem Tab.put {p r : List Str} {m k : Nat} {kvs : List (D × D)} (h : Tab p r m (k + 1) kvs) : Tab p r m k (dPut kvs [.int m, .int k] [.inl m, .inl k] (.bool (mtB (p.drop m) (r.drop k)))) := fun a s ha hs hc => by
  rw [dGet_put _ _ _ _ _ (keysD_int2 _ _)]
  by_cases e : (a = m ∧ s = k)
  · obtain ⟨rfl, rfl⟩ := e
    rw [if_pos rfl]
  · rw [if_neg (fun z => e (by
      have h1 := (List.cons.inj z).1
      have h2 := (List.cons.inj (List.cons.inj z).2).1
      simp at h1 h2
      omega))]
    exact h a s ha hs (by omega)
theorem at_drop {xs : List Str} {i : Nat} (h : i < xs.length) : atI (xs.map PyData.str) i = some (.str xs[i]) ∧ xs.drop i = xs[i] :: xs.drop (i + 1) := by
  refine ⟨?_, List.drop_eq_getElem_cons h⟩
  rw [atI, ixN_nat (by omega) (by rw [List.length_map]; omega), Option.bind_some, Int.toNat_natCast, List.getElem?_map, List.getElem?_eq_getElem h]
  rfl
/-- the table of a PATTERN and a row -/
def TableS (tbl : List Fn) (i : Nat) : Prop := ∀ n, 3 ≤ n → ∀ (dp dr : D) (p r : List Str), SqD dp (p.map .str) → SqD dr (r.map .str) → (∀ x ∈ p, okS x = true) → (∀ x ∈ r, okS x = true) → p.length ≤ 1000 → r.length ≤ 1000 →
  wT (evCall tbl n i [dp, dr]) fun d fl outs => ∃ kvs, d = .dict kvs ∧ fl = .ow ∧ outs = [] ∧ unMk kvs = none ∧ dGet kvs [.inl 0, .inl 0] = some (.bool (mtB p r)) ∧ ∀ a s : Nat, a ≤ p.length → s ≤ r.length → dGet kvs [.inl a, .inl s] = some (.bool (mtB (p.drop a) (r.drop s)))
theorem tableS {tbl : List Fn} {i j : Nat} (h : tbl[i]? = some (F_table_of j)) (hj : FitS tbl j) (hio : ioOf tbl j = [false, false]) : TableS tbl i := fun n hn dp dr p r hp hr okp okr lp lr => by
  obtain ⟨n, rfl⟩ : ∃ n', n = n' + 1 := ⟨n - 1, by omega⟩
  have ep : (p.map PyData.str).length = p.length := List.length_map _
  have er : (r.map PyData.str).length = r.length := List.length_map _
  rw [evCall_succ h]
  refine wO_fn rfl ?_
  ac_rfl
  refine wS_for ?_
  ac_rfl
  refine wP_of hp.len ?_
  ac_rfl
  refine ⟨fun rest en => ∃ (m : Nat) (kvs : List (D × D)) (t3 t4 : Slot), en = [some (dp, .sh), some (dr, .sh), some (.dict kvs, .ow), t3, t4] ∧ rest = rangeD ((m : Int) - 1) (-1) m ∧ m ≤ p.length + 1 ∧ unMk kvs = none ∧ kvs.length ≤ 1001 * (p.length + 1 - m) ∧ Nio t3 ∧ Nio t4 ∧ Tab p r m 0 kvs,
    ⟨p.length + 1, [], none, none, rfl, ?_, Nat.le_refl _, rfl, by simp, nio_none, nio_none, fun a s ha hs hc => by omega⟩, ?_, ?_⟩
  · rw [ep]
    have e1 : ((p.length : Int) - -1).toNat = p.length + 1 := by omega
    have e2 : ((p.length + 1 : Nat) : Int) - 1 = p.length := by omega
    rw [e1, e2]
  · rintro x rr en ⟨m, kvs, t3, t4, rfl, hrest, hm, hu, hkl, n3, n4, hT⟩
    cases m with
    | zero => cases hrest
    | succ m =>
      rw [rangeD_cons] at hrest
      obtain ⟨rfl, rfl⟩ := List.cons.inj hrest
      have em : ((m + 1 : Nat) : Int) - 1 = m := by omega
      rw [em]
      refine wO_of (st_ok (i := 3) rfl n3) ?_
      refine wS_for ?_
      ac_rfl
      refine wP_of hr.len ?_
      ac_rfl
      refine ⟨fun rest en => ∃ (k : Nat) (kvs : List (D × D)) (t4 : Slot), en = [some (dp, .sh), some (dr, .sh), some (.dict kvs, .ow), some (.int m, .sh), t4] ∧ rest = rangeD ((k : Int) - 1) (-1) k ∧ k ≤ r.length + 1 ∧ unMk kvs = none ∧ kvs.length ≤ 1001 * (p.length - m) + (r.length + 1 - k) ∧ Nio t4 ∧ Tab p r m k kvs,
        ⟨r.length + 1, kvs, t4, rfl, ?_, Nat.le_refl _, hu, by omega, n4, fun a s ha hs hc => hT a s ha hs (by omega)⟩, ?_, ?_⟩
      · rw [er]
        have e1 : ((r.length : Int) - -1).toNat = r.length + 1 := by omega
        have e2 : ((r.length + 1 : Nat) : Int) - 1 = r.length := by omega
        rw [e1, e2]
      · rintro x rr2 en ⟨k, kvs, t4, rfl, hrest, hk, hu, hkl, n4, hT⟩
        cases k with
        | zero => cases hrest
        | succ k =>
          rw [rangeD_cons] at hrest
          obtain ⟨rfl, rfl⟩ := List.cons.inj hrest
          have ek : ((k + 1 : Nat) : Int) - 1 = k := by omega
          rw [ek]
          have hlen : kvs.length < LINE := by show _ < 16777216; omega
          have fin : ∀ b : Bool, b = mtB (p.drop m) (r.drop k) → wU [some (dp, .sh), some (dr, .sh), some (.dict kvs, .ow), some (.int m, .sh), some (.int k, .sh)] 2 (.tuple [.int m, .int k]) (.bool b) fun en => ∃ (k' : Nat) (kvs : List (D × D)) (t4 : Slot), en = [some (dp, .sh), some (dr, .sh), some (.dict kvs, .ow), some (.int m, .sh), t4] ∧ rangeD ((k : Int) + -1) (-1) k = rangeD ((k' : Int) - 1) (-1) k' ∧ k' ≤ r.length + 1 ∧ unMk kvs = none ∧ kvs.length ≤ 1001 * (p.length - m) + (r.length + 1 - k') ∧ Nio t4 ∧ Tab p r m k' kvs := fun b hb =>
            wU_d (kvs' := dPut kvs [.int m, .int k] [.inl m, .inl k] (.bool b)) rfl rfl (by rw [putKD, hu]; rfl) hlen
              ⟨k, _, _, rfl, by rw [Int.sub_eq_add_neg], by omega, unMk_put hu, by have := dPut_len [.int m, .int k] [.inl m, .inl k] (.bool b) kvs; omega, nio_sh, by rw [hb]; exact hT.put⟩
          refine wO_of (st_ok (i := 4) rfl n4) ?_
          ac_rfl
          refine wP_of hp.len ?_
          ac_rfl
          rw [ep]
          refine ⟨fun q => ?_, fun q => ?_⟩
          · have q : m = p.length := by have := of_decide_eq_true q; omega
            ac_rfl
            refine wP_of hr.len ?_
            ac_rfl
            rw [er]
            refine fin _ ?_
            rw [q, List.drop_length, mtB]
            by_cases z : k = r.length
            · rw [z, List.drop_length]; simp
            · have : (r.drop k) ≠ [] := fun e => by
                have := congrArg List.length e
                rw [List.length_drop] at this
                simp at this
                omega
              rw [decide_eq_false (by omega)]
              cases e : r.drop k with
              | nil => exact absurd e this
              | cons a b => rfl
          · have q : m < p.length := by have := of_decide_eq_false q; omega
            obtain ⟨p1, p2⟩ := at_drop q
            have hpm := okp _ (List.getElem_mem q)
            have g1 : ixK kvs (.tuple [.int ((m : Int) + 1), .int k]) = some (.bool (mtB (p.drop (m + 1)) (r.drop k))) := by
              rw [ixK, hu]
              exact hT (m + 1) k (by omega) (by omega) (by omega)
            ac_rfl
            refine wO_of ((hp.ix _).trans p1) ?_
            ac_rfl
            refine ⟨fun q2 => ?_, fun q2 => ?_⟩
            · have q2 : p[m] = "**" := of_decide_eq_true q2
              have eM : mtB (p.drop m) (r.drop k) = starB (mtB (p.drop (m + 1))) (r.drop k) := by rw [p2, mtB_many q2]
              ac_rfl
              refine wO_of g1 ?_
              ac_rfl
              refine ⟨fun q3 => ?_, fun q3 => ?_⟩
              · ac_rfl
                refine fin _ ?_
                rw [eM, starB_eq, q3]
                rfl
              · ac_rfl
                refine wP_of hr.len ?_
                ac_rfl
                rw [er]
                refine ⟨fun q4 => ?_, fun q4 => ?_⟩
                · have q4 : k < r.length := by have := of_decide_eq_true q4; omega
                  have g2 : ixK kvs (.tuple [.int m, .int ((k : Int) + 1)]) = some (.bool (mtB (p.drop m) (r.drop (k + 1)))) := by
                    rw [ixK, hu]
                    exact hT m (k + 1) (by omega) (by omega) (by omega)
                  ac_rfl
                  refine wO_of g2 ?_
                  ac_rfl
                  refine fin _ ?_
                  rw [eM, starB_eq, q3, (at_drop q4).2, p2, mtB_many q2]
                  rfl
                · have q4 : r.length ≤ k := by have := of_decide_eq_false q4; omega
                  ac_rfl
                  refine fin _ ?_
                  rw [eM, starB_eq, q3, List.drop_eq_nil_of_le q4, decide_eq_false (by omega)]
                  rfl
            · have q2 : ¬ p[m] = "**" := of_decide_eq_false q2
              ac_rfl
              refine wP_of hr.len ?_
              ac_rfl
              rw [er]
              refine ⟨fun q4 => ?_, fun q4 => ?_⟩
              · have q4 : k < r.length := by have := of_decide_eq_true q4; omega
                obtain ⟨r1, r2⟩ := at_drop q4
                have eM : mtB (p.drop m) (r.drop k) = (fitB p[m] r[k] && mtB (p.drop (m + 1)) (r.drop (k + 1))) := by rw [p2, r2, mtB_one q2]
                have g2 : ixK kvs (.tuple [.int ((m : Int) + 1), .int ((k : Int) + 1)]) = some (.bool (mtB (p.drop (m + 1)) (r.drop (k + 1)))) := by
                  rw [ixK, hu]
                  exact hT (m + 1) (k + 1) (by omega) (by omega) (by omega)
                ac_rfl
                refine wO_of ((hp.ix _).trans p1) ?_
                ac_rfl
                refine wO_of ((hr.ix _).trans r1) ?_
                ac_rfl
                refine wT_of (hj n (by omega) _ _ hpm (okr _ (List.getElem_mem q4))) ?_
                ac_rfl
                refine ⟨fun q5 => ?_, fun q5 => ?_⟩
                · ac_rfl
                  refine wO_of g2 ?_
                  ac_rfl
                  refine fin _ ?_
                  rw [eM, q5]
                  rfl
                · ac_rfl
                  refine fin _ ?_
                  rw [eM, q5]
                  rfl
              · have q4 : r.length ≤ k := by have := of_decide_eq_false q4; omega
                ac_rfl
                refine fin _ ?_
                rw [p2, List.drop_eq_nil_of_le q4, mtB_one q2, decide_eq_false (by omega)]
      · rintro en ⟨k, kvs, t4, rfl, hrest, hk, hu, hkl, n4, hT⟩
        cases k with
        | succ k => cases hrest
        | zero => exact ⟨m, kvs, _, t4, rfl, by rw [Int.sub_eq_add_neg], by omega, hu, by omega, nio_sh, n4, hT⟩
  · rintro en ⟨m, kvs, t3, t4, rfl, hrest, hm, hu, hkl, n3, n4, hT⟩
    cases m with
    | succ m => cases hrest
    | zero =>
      ac_rfl
      exact ⟨kvs, rfl, rfl, rfl, hu, hT 0 0 (by omega) (by omega) (by omega), fun a s ha hs => hT a s ha hs (by omega)⟩
def MatchS (tbl : List Fn) (i : Nat) : Prop := ∀ n, 4 ≤ n → ∀ (dp dr : D) (p r : List Str), SqD dp (p.map .str) → SqD dr (r.map .str) → (∀ x ∈ p, okS x = true) → (∀ x ∈ r, okS x = true) → p.length ≤ 1000 → r.length ≤ 1000 →
  evCall tbl n i [dp, dr] = some (.bool (mtB p r), .sh, [])
theorem matchS {tbl : List Fn} {i j : Nat} (h : tbl[i]? = some (F_matches j)) (hj : TableS tbl j) (hio : ioOf tbl j = [false, false]) : MatchS tbl i := fun n hn dp dr p r hp hr okp okr lp lr => by
  obtain ⟨n, rfl⟩ : ∃ n', n = n' + 1 := ⟨n - 1, by omega⟩
  rw [evCall_succ h]
  refine wT_eq (wO_fn rfl ?_)
  ac_rfl
  refine (hj n (by omega) dp dr p r hp hr okp okr lp lr).imp ?_
  rintro d fl outs ⟨kvs, rfl, rfl, rfl, hu, h0, _⟩
  ac_rfl
  refine wO_of (a := .bool (mtB p r)) ?_ ?_
  · rw [ixD, ixK, hu]
    exact h0
  ac_rfl
  exact ⟨rfl, rfl, rfl⟩
end Ev.Pl


set_option Elab.async false
set_option linter.all false
set_option maxRecDepth 100000
set_option maxHeartbeats 40000000
namespace Ev.Pl
open PySem PySem.Spec PyProof.Rows L2
local macro_rules
  | `(tactic| ac_rfl) => `(tactic| repeat (first
    | with_reducible refine WPc.step ?_
    | with_reducible first | refine wE_call (by assumption) ?_ | refine wT_call (by assumption) ?_ | refine wE_callK (by assumption) ?_ | refine wT_callK (by assumption) ?_ | refine wE_dctK1 rfl rfl ?_ | refine wP_ite' rfl ?_ | refine wG.mk (by first | assumption | (show _ ≤ 16777216; omega) | (show _ < 16777216; omega) | omega | exact fit_of (by omega) (by omega) | (show _ ≤ 16777216; simp only [List.length_append, List.length_cons, List.length_nil, List.length_map]; omega) | (show _ < 16777216; simp only [List.length_append, List.length_cons, List.length_nil, List.length_map]; omega)) ?_
    | (fail_if_success with_reducible refine WSt.step ?_)
      first | refine wO_some ?_ | refine wP_some ?_ | refine wT_some ?_ | refine wI_tt ?_ | refine wI_ff ?_ | refine wA_mk rfl ?_ | refine wU_l rfl rfl ?_ | refine wG.mk (by first | exact Nat.le_of_ble_eq_true rfl | ((with_reducible refine kG ?_); rfl)) ?_))
/-! ### going along with all places at once: the plain part -/
def memK (kvs : List (D × D)) (k : Nat) : Prop := dHas kvs [.inl (k : Int)] = true
theorem memK_put {kvs : List (D × D)} {j k : Nat} {v : D} : memK (dPut kvs [.int j] [.inl (j : Int)] v) k ↔ k = j ∨ memK kvs k := by
  unfold memK
  rw [dHas_get, dGet_put _ _ _ _ _ rfl, dHas_get]
  by_cases e : k = j
  · subst e
    simp
  · rw [if_neg (fun z => e (by have := (List.cons.inj z).1; simp at this; omega))]
    simp [e]
section
variable {p : List Str} {r r' : List Str} {s : Str}
/-- what a set of places tells of what is to come -/
structure Plc (p : List Str) (kvs : List (D × D)) (r : List Str) (b : Bool) : Prop where
  snd : ∀ k, memK kvs k → k ≤ p.length ∧ (mtB (p.drop k) r = true → b = true)
  cmp : b = true → ∃ k, memK kvs k ∧ mtB (p.drop k) r = true
  cls : ∀ k (h : k < p.length), memK kvs k → p[k] = "**" → memK kvs (k + 1)
theorem drop_at {k : Nat} (h : k < p.length) : p.drop k = p[k] :: p.drop (k + 1) := List.drop_eq_getElem_cons h
theorem Plc.step {kvs aft : List (D × D)} {b : Bool} (h : Plc p kvs (s :: r) b) (h1 : ∀ k, memK aft k ↔ ((∃ h : k < p.length, memK kvs k ∧ p[k] = "**") ∨ ∃ j, ∃ h : j < p.length, k = j + 1 ∧ memK kvs j ∧ ¬ p[j] = "**" ∧ fitB p[j] s = true)) :
    (∀ k, memK aft k → k ≤ p.length ∧ (mtB (p.drop k) r = true → b = true)) ∧ (b = true → ∃ k, memK aft k ∧ mtB (p.drop k) r = true) := by
  constructor
  · intro k hk
    rcases (h1 k).mp hk with ⟨hl, m, e⟩ | ⟨j, hl, rfl, m, e, f⟩
    · refine ⟨Nat.le_of_lt hl, fun q => (h.snd k m).2 ?_⟩
      rw [drop_at hl, mtB_many e] at q ⊢
      rw [starB, q, Bool.or_true]
    · refine ⟨hl, fun q => (h.snd j m).2 ?_⟩
      rw [drop_at hl, mtB_one e]
      show (fitB p[j] s && mtB (p.drop (j + 1)) r) = true
      rw [f, q]
      rfl
  · intro hb
    obtain ⟨k, m, q⟩ := h.cmp hb
    have go : ∀ d k, p.length - k = d → memK kvs k → mtB (p.drop k) (s :: r) = true → ∃ k, memK aft k ∧ mtB (p.drop k) r = true := by
      intro d
      induction d with
      | zero =>
        intro k hd m q
        have := (h.snd k m).1
        rw [List.drop_eq_nil_of_le (by omega), mtB] at q
        cases q
      | succ d ih =>
        intro k hd m q
        have hl : k < p.length := by omega
        by_cases e : p[k] = "**"
        · rw [drop_at hl, mtB_many e, starB, Bool.or_eq_true] at q
          rcases q with q | q
          · exact ih (k + 1) (by omega) (h.cls k hl m e) q
          · exact ⟨k, (h1 k).mpr (.inl ⟨hl, m, e⟩), by rw [drop_at hl, mtB_many e]; exact q⟩
        · rw [drop_at hl, mtB_one e, Bool.and_eq_true] at q
          exact ⟨k + 1, (h1 _).mpr (.inr ⟨k, hl, rfl, m, e, q.1⟩), q.2⟩
    exact go _ k rfl m q
theorem Plc.done {kvs : List (D × D)} {b : Bool} (h : Plc p kvs [] b) : dHas kvs [.inl (p.length : Int)] = b := by
  have go : ∀ d k, p.length - k = d → memK kvs k → mtB (p.drop k) [] = true → memK kvs p.length := by
    intro d
    induction d with
    | zero =>
      intro k hd m q
      have := (h.snd k m).1
      have e : k = p.length := by omega
      exact e ▸ m
    | succ d ih =>
      intro k hd m q
      have hl : k < p.length := by omega
      by_cases e : p[k] = "**"
      · rw [drop_at hl, mtB_many e, starB] at q
        exact ih (k + 1) (by omega) (h.cls k hl m e) q
      · rw [drop_at hl, mtB_one e] at q
        cases q
  cases hb : b with
  | true =>
    obtain ⟨k, m, q⟩ := h.cmp hb
    exact go _ k rfl m q
  | false =>
    cases e : dHas kvs [.inl (p.length : Int)] with
    | false => rfl
    | true =>
      have := (h.snd p.length e).2 (by rw [List.drop_length, mtB]; rfl)
      rw [hb] at this
      cases this
/-- one place put in, and passed on where its PIECE may take nothing -/
structure Cls (p : List Str) (Gd : Nat → Prop) (k0 kvs : List (D × D)) (j : Nat) (dn : Prop) : Prop where
  inc : ∀ k, memK k0 k → memK kvs k
  gd : ∀ k, memK kvs k → Gd k
  cl : ∀ k (h : k < p.length), (k < j ∨ dn) → memK kvs k → p[k] = "**" → memK kvs (k + 1)
theorem Cls.put {Gd : Nat → Prop} {k0 kvs : List (D × D)} {j : Nat} {dn : Prop} (h : Cls p Gd k0 kvs j dn) (hj : j < p.length) (m : memK kvs j) (e : p[j] = "**") (hg : Gd j → Gd (j + 1)) {v : D} :
    Cls p Gd k0 (dPut kvs [.int ((j + 1 : Nat) : Int)] [.inl ((j + 1 : Nat) : Int)] v) (j + 1) dn where
  inc := fun k hk => memK_put.mpr (.inr (h.inc k hk))
  gd := fun k hk => by
    rcases memK_put.mp hk with rfl | hk
    · exact hg (h.gd j m)
    · exact h.gd k hk
  cl := fun k hl hc hk ek => by
    rcases memK_put.mp hk with rfl | hk
    · rcases hc with hc | hc
      · omega
      · exact memK_put.mpr (.inr (h.cl _ hl (.inr hc) (h.cl j hj (.inr hc) m e) ek))
    · by_cases z : k = j
      · subst z
        exact memK_put.mpr (.inl rfl)
      · exact memK_put.mpr (.inr (h.cl k hl (hc.imp (fun _ => by omega) id) hk ek))
theorem Cls.skip {Gd : Nat → Prop} {k0 kvs : List (D × D)} {j : Nat} {dn : Prop} (h : Cls p Gd k0 kvs j dn) (hj : j < p.length) (m : ¬ (memK kvs j ∧ p[j] = "**")) : Cls p Gd k0 kvs (j + 1) dn where
  inc := h.inc
  gd := h.gd
  cl := fun k hl hc hk ek => by
    by_cases z : k = j
    · subst z
      exact (m ⟨hk, ek⟩).elim
    · exact h.cl k hl (hc.imp (fun _ => by omega) id) hk ek
end
end Ev.Pl


set_option Elab.async false
set_option linter.all false
set_option maxRecDepth 100000
set_option maxHeartbeats 40000000
namespace Ev.Pl
open PySem PySem.Spec PyProof.Rows L2
local macro_rules
  | `(tactic| ac_rfl) => `(tactic| repeat (first
    | with_reducible refine WPc.step ?_
    | with_reducible first | refine wE_call (by assumption) ?_ | refine wT_call (by assumption) ?_ | refine wE_callK (by assumption) ?_ | refine wT_callK (by assumption) ?_ | refine wE_dctK1 rfl rfl ?_ | refine wP_ite' rfl ?_ | refine wG.mk (by first | assumption | (show _ ≤ 16777216; omega) | (show _ < 16777216; omega) | omega | exact fit_of (by omega) (by omega) | (show _ ≤ 16777216; simp only [List.length_append, List.length_cons, List.length_nil, List.length_map]; omega) | (show _ < 16777216; simp only [List.length_append, List.length_cons, List.length_nil, List.length_map]; omega)) ?_
    | (fail_if_success with_reducible refine WSt.step ?_)
      first | refine wO_some ?_ | refine wP_some ?_ | refine wT_some ?_ | refine wI_tt ?_ | refine wI_ff ?_ | refine wA_mk rfl ?_ | refine wU_l rfl rfl ?_ | refine wG.mk (by first | exact Nat.le_of_ble_eq_true rfl | ((with_reducible refine kG ?_); rfl)) ?_))
def LendS (tbl : List Fn) (i : Nat) : Prop := ∀ n, 1 ≤ n → ∀ s : Str, okS s = true → evCall tbl n i [.str s] = some (.str (lendOf s), .sh, [])
theorem lendS {tbl : List Fn} {i : Nat} (h : tbl[i]? = some F_law_ending) : LendS tbl i := fun n hn s hs => by
  obtain ⟨n, rfl⟩ : ∃ n', n = n' + 1 := ⟨n - 1, by omega⟩
  have hl := okS_len hs
  rw [evCall_succ h]
  refine wT_eq (wO_fn rfl ?_)
  ac_rfl
  refine ⟨fun q => ?_, fun q => ?_⟩
  · have hi : 2 ≤ (Txt.split s ".").length ∧ ∃ t, (Txt.split s ".")[1]? = some t ∧ t.length ≤ 1000 := by
      unfold okS at hs
      simp only [Bool.and_eq_true, Bool.or_eq_true, Bool.not_eq_true'] at hs
      rcases hs.1.2 with z | z
      · rw [q] at z; cases z
      · refine ⟨of_decide_eq_true z.1.2, ?_⟩
        have z2 := z.2
        split at z2
        · rename_i t ht
          exact ⟨t, ht, of_decide_eq_true z2⟩
        · cases z2
    obtain ⟨h2, t, ht, htl⟩ := hi
    ac_rfl
    refine wP_of (a := .list ((Txt.split s ".").map .str)) (b := .ow) ?_ ?_
    · rw [mthD, ite', if_pos]
      exact decide_eq_true ⟨by decide, by show _ ≤ 16777216; omega⟩
    ac_rfl
    refine wO_of (a := .str t) ?_ ?_
    · rw [ixD, atI, ixN_nat (by decide) (by rw [List.length_map]; omega), Option.bind_some, List.getElem?_map]
      show Option.map _ ((Txt.split s ".")[1]?) = _
      rw [ht]
      rfl
    ac_rfl
    have e1 : ((".": Str)).length = 1 := by decide +kernel
    refine wG.mk (by rw [e1]; show _ ≤ 16777216; omega) ?_
    ac_rfl
    refine ⟨?_, rfl, rfl⟩
    rw [lendOf, if_pos q, ht]
  · ac_rfl
    refine ⟨?_, rfl, rfl⟩
    rw [lendOf, if_neg (by rw [q]; decide)]
def LfitS (tbl : List Fn) (i : Nat) : Prop := ∀ n, 2 ≤ n → ∀ p s : Str, okS p = true → okS s = true → evCall tbl n i [.str p, .str s] = some (.bool (lfitB p s), .sh, [])
theorem lfitS {tbl : List Fn} {i j : Nat} (h : tbl[i]? = some (F_law_fits j)) (hj : LendS tbl j) (hio : ioOf tbl j = [false]) : LfitS tbl i := fun n hn p s hp hs => by
  obtain ⟨n, rfl⟩ : ∃ n', n = n' + 1 := ⟨n - 1, by omega⟩
  have hl := okS_len hp
  have hl' : p.length ≤ LINE := by show _ ≤ 16777216; omega
  rw [evCall_succ h]
  refine wT_eq (wO_fn rfl ?_)
  ac_rfl
  refine ⟨fun q => ?_, fun q => ?_⟩
  · ac_rfl
    refine ⟨?_, rfl, rfl⟩
    rw [lfitB, q]
    rfl
  · ac_rfl
    refine wP_of (a := .str (cutS p none (some 2))) (b := .sh) (by rw [slcD, if_pos hl']) ?_
    ac_rfl
    refine ⟨fun q2 => ?_, fun q2 => ?_⟩
    · ac_rfl
      refine ⟨fun q3 => ?_, fun q3 => ?_⟩
      · ac_rfl
        refine wT_of (hj n (by omega) s hs) ?_
        ac_rfl
        refine wP_of (a := .str (cutS p (some 1) none)) (b := .sh) (by rw [slcD, if_pos hl']) ?_
        ac_rfl
        refine ⟨?_, rfl, rfl⟩
        rw [lfitB, q, q2, q3]
        rfl
      · ac_rfl
        refine ⟨?_, rfl, rfl⟩
        rw [lfitB, q, q2, q3]
        rfl
    · ac_rfl
      refine ⟨?_, rfl, rfl⟩
      rw [lfitB, q, q2]
      rfl
theorem slot_any {env : Env} {i : Nat} {d : D} {f : Fl} {Q : R → Prop} (h : env[i]? = some (some (d, f))) (q : ∀ r, rd r env = some d → Q r) : wO (slotR env i) Q := by
  cases f with
  | sh => exact ⟨.v d .sh, by rw [slotR, h], q _ rfl⟩
  | ow => exact ⟨.s i, by rw [slotR, h], q _ (by rw [rd, h])⟩
  | io => exact ⟨.s i, by rw [slotR, h], q _ (by rw [rd, h])⟩
theorem hasK_mk {kvs : List (D × D)} {k : Int} : hasK (mkD :: kvs) (.int k) = some (dHas kvs [.inl k]) := rfl
theorem putKD_mk {kvs : List (D × D)} {k : Int} {v : D} : putKD (mkD :: kvs) (.int k) v = some (mkD :: dPut kvs [.int k] [.inl k] v) := rfl
section
variable {tbl : List Fn} {n : Nat}


/-- the places passed on, as many times over as there are PIECEs -/
theorem clo2 {dp dr : D} {p : List Str} (hp : SqD dp (p.map .str)) (lp : p.length ≤ 100) (Gd : Nat → Prop) (hg : ∀ j (h : j < p.length), p[j] = "**" → Gd j → Gd (j + 1)) (t4 t6 : Slot) {k0 : List (D × D)} {t3 t5 : Slot} (n3 : Nio t3) (n5 : Nio t5) (hk0 : k0.length ≤ 1000) (h0 : ∀ k, memK k0 k → Gd k) (hpos : 0 < p.length)
    {Q : Out → Prop} (hQ : ∀ (kvs : List (D × D)) (t3 t5 : Slot), Nio t3 → Nio t5 → kvs.length ≤ 20000 → Cls p Gd k0 kvs 0 True → Q (.nx [some (dp, .sh), some (dr, .sh), some (.dict (mkD :: kvs), .ow), t3, t4, t5, t6])) :
    wO (evS (evCall tbl n) (ioOf tbl) (.for_ (.name 3) (.seq (.var 0)) (.for_ (.name 5) (.range1 (.blt .len (.cons (.var 0) .nil)))
      (.ite (.and (.cmp .isin (.var 5) (.var 2)) (.cmp .eq (.ix (.var 0) (.var 5)) (.cst (.str "**")))) (.put 2 (.bin .add (.var 5) (.cst (.int 1))) (.cst (.bool true))) .pass))) [some (dp, .sh), some (dr, .sh), some (.dict (mkD :: k0), .ow), t3, t4, t5, t6]) Q := by
  have ep : (p.map PyData.str).length = p.length := List.length_map _
  refine wS_for ?_
  ac_rfl
  refine wO_of hp.items ?_
  refine ⟨fun rest en => ∃ (kvs : List (D × D)) (t3 t5 : Slot) (m : Nat), en = [some (dp, .sh), some (dr, .sh), some (.dict (mkD :: kvs), .ow), t3, t4, t5, t6] ∧ Nio t3 ∧ Nio t5 ∧ rest.length = m ∧ m ≤ p.length ∧ kvs.length ≤ 1000 + 100 * (p.length - m) ∧ Cls p Gd k0 kvs 0 (m < p.length),
    ⟨k0, t3, t5, p.length, rfl, n3, n5, ep, Nat.le_refl _, by omega, ⟨fun _ h => h, h0, fun k _ hc => by omega⟩⟩, ?_, ?_⟩
  · rintro x rr en ⟨kvs, t3, t5, m, rfl, n3, n5, hm, hm2, hl, hC⟩
    rw [List.length_cons] at hm
    refine wO_of (st_ok (i := 3) rfl n3) ?_
    refine wS_for ?_
    ac_rfl
    refine wP_of hp.len ?_
    ac_rfl
    rw [ep, rangeD_zero, Int.toNat_natCast, List.range_eq_range']
    refine ⟨fun rest en => ∃ (kvs : List (D × D)) (t5 : Slot) (j c : Nat), en = [some (dp, .sh), some (dr, .sh), some (.dict (mkD :: kvs), .ow), some (x, .sh), t4, t5, t6] ∧ Nio t5 ∧ rest = (List.range' j c).map (fun i : Nat => .int i) ∧ j + c = p.length ∧ kvs.length ≤ 1000 + 100 * (p.length - m) + j ∧ Cls p Gd k0 kvs j (m < p.length),
      ⟨kvs, t5, 0, p.length, rfl, n5, rfl, by omega, by omega, hC⟩, ?_, ?_⟩
    · rintro y rr2 en ⟨kvs, t5, j, c, rfl, n5, hr, hjc, hl, hC⟩
      cases c with
      | zero => cases hr
      | succ c =>
        rw [List.range'_succ, List.map_cons] at hr
        obtain ⟨rfl, rfl⟩ := List.cons.inj hr
        have hj : j < p.length := by omega
        have hlen : (mkD :: kvs).length < LINE := by rw [List.length_cons]; show _ < 16777216; omega
        refine wO_of (st_ok (i := 5) rfl n5) ?_
        ac_rfl
        refine ⟨fun q => ?_, fun q => ?_⟩
        · ac_rfl
          refine wO_of ((hp.ix _).trans (at_drop hj).1) ?_
          ac_rfl
          refine ⟨fun q2 => ?_, fun q2 => ?_⟩
          · ac_rfl
            refine wU_d rfl rfl putKD_mk hlen ?_
            refine ⟨_, _, j + 1, c, rfl, nio_sh, rfl, by omega, ?_, hC.put (v := .bool true) hj q (of_decide_eq_true q2) (hg j hj (of_decide_eq_true q2))⟩
            have := dPut_len [.int ((j : Int) + 1)] [.inl ((j : Int) + 1)] (.bool true) kvs
            show (dPut kvs [.int ((j : Int) + 1)] [.inl ((j : Int) + 1)] (.bool true)).length ≤ _
            omega
          · ac_rfl
            exact ⟨_, _, j + 1, c, rfl, nio_sh, rfl, by omega, by omega, hC.skip hj fun z => (of_decide_eq_false q2) z.2⟩
        · ac_rfl
          refine ⟨_, _, j + 1, c, rfl, nio_sh, rfl, by omega, by omega, hC.skip hj fun z => ?_⟩
          rw [z.1] at q
          cases q
    · rintro en ⟨kvs, t5, j, c, rfl, n5, hr, hjc, hl, hC⟩
      cases c with
      | succ c => cases hr
      | zero => exact ⟨kvs, _, t5, m - 1, rfl, nio_sh, n5, by omega, by omega, by omega, ⟨hC.inc, hC.gd, fun k h _ => hC.cl k h (.inl (by omega))⟩⟩
  · rintro en ⟨kvs, t3, t5, m, rfl, n3, n5, hm, hm2, hl, hC⟩
    simp at hm
    subst hm
    exact hQ kvs t3 t5 n3 n5 (by omega) ⟨hC.inc, hC.gd, fun k h _ => hC.cl k h (.inr hpos)⟩


/-- the places passed on, as many times over as there are PIECEs -/
theorem clo6 {dp dr : D} {p : List Str} (hp : SqD dp (p.map .str)) (lp : p.length ≤ 100) (Gd : Nat → Prop) (hg : ∀ j (h : j < p.length), p[j] = "**" → Gd j → Gd (j + 1)) (t2 t4 : Slot) {k0 : List (D × D)} {t3 t5 : Slot} (n3 : Nio t3) (n5 : Nio t5) (hk0 : k0.length ≤ 1000) (h0 : ∀ k, memK k0 k → Gd k) (hpos : 0 < p.length)
    {Q : Out → Prop} (hQ : ∀ (kvs : List (D × D)) (t3 t5 : Slot), Nio t3 → Nio t5 → kvs.length ≤ 20000 → Cls p Gd k0 kvs 0 True → Q (.nx [some (dp, .sh), some (dr, .sh), t2, t3, t4, t5, some (.dict (mkD :: kvs), .ow)])) :
    wO (evS (evCall tbl n) (ioOf tbl) (.for_ (.name 3) (.seq (.var 0)) (.for_ (.name 5) (.range1 (.blt .len (.cons (.var 0) .nil)))
      (.ite (.and (.cmp .isin (.var 5) (.var 6)) (.cmp .eq (.ix (.var 0) (.var 5)) (.cst (.str "**")))) (.put 6 (.bin .add (.var 5) (.cst (.int 1))) (.cst (.bool true))) .pass))) [some (dp, .sh), some (dr, .sh), t2, t3, t4, t5, some (.dict (mkD :: k0), .ow)]) Q := by
  have ep : (p.map PyData.str).length = p.length := List.length_map _
  refine wS_for ?_
  ac_rfl
  refine wO_of hp.items ?_
  refine ⟨fun rest en => ∃ (kvs : List (D × D)) (t3 t5 : Slot) (m : Nat), en = [some (dp, .sh), some (dr, .sh), t2, t3, t4, t5, some (.dict (mkD :: kvs), .ow)] ∧ Nio t3 ∧ Nio t5 ∧ rest.length = m ∧ m ≤ p.length ∧ kvs.length ≤ 1000 + 100 * (p.length - m) ∧ Cls p Gd k0 kvs 0 (m < p.length),
    ⟨k0, t3, t5, p.length, rfl, n3, n5, ep, Nat.le_refl _, by omega, ⟨fun _ h => h, h0, fun k _ hc => by omega⟩⟩, ?_, ?_⟩
  · rintro x rr en ⟨kvs, t3, t5, m, rfl, n3, n5, hm, hm2, hl, hC⟩
    rw [List.length_cons] at hm
    refine wO_of (st_ok (i := 3) rfl n3) ?_
    refine wS_for ?_
    ac_rfl
    refine wP_of hp.len ?_
    ac_rfl
    rw [ep, rangeD_zero, Int.toNat_natCast, List.range_eq_range']
    refine ⟨fun rest en => ∃ (kvs : List (D × D)) (t5 : Slot) (j c : Nat), en = [some (dp, .sh), some (dr, .sh), t2, some (x, .sh), t4, t5, some (.dict (mkD :: kvs), .ow)] ∧ Nio t5 ∧ rest = (List.range' j c).map (fun i : Nat => .int i) ∧ j + c = p.length ∧ kvs.length ≤ 1000 + 100 * (p.length - m) + j ∧ Cls p Gd k0 kvs j (m < p.length),
      ⟨kvs, t5, 0, p.length, rfl, n5, rfl, by omega, by omega, hC⟩, ?_, ?_⟩
    · rintro y rr2 en ⟨kvs, t5, j, c, rfl, n5, hr, hjc, hl, hC⟩
      cases c with
      | zero => cases hr
      | succ c =>
        rw [List.range'_succ, List.map_cons] at hr
        obtain ⟨rfl, rfl⟩ := List.cons.inj hr
        have hj : j < p.length := by omega
        have hlen : (mkD :: kvs).length < LINE := by rw [List.length_cons]; show _ < 16777216; omega
        refine wO_of (st_ok (i := 5) rfl n5) ?_
        ac_rfl
        refine ⟨fun q => ?_, fun q => ?_⟩
        · ac_rfl
          refine wO_of ((hp.ix _).trans (at_drop hj).1) ?_
          ac_rfl
          refine ⟨fun q2 => ?_, fun q2 => ?_⟩
          · ac_rfl
            refine wU_d rfl rfl putKD_mk hlen ?_
            refine ⟨_, _, j + 1, c, rfl, nio_sh, rfl, by omega, ?_, hC.put (v := .bool true) hj q (of_decide_eq_true q2) (hg j hj (of_decide_eq_true q2))⟩
            have := dPut_len [.int ((j : Int) + 1)] [.inl ((j : Int) + 1)] (.bool true) kvs
            show (dPut kvs [.int ((j : Int) + 1)] [.inl ((j : Int) + 1)] (.bool true)).length ≤ _
            omega
          · ac_rfl
            exact ⟨_, _, j + 1, c, rfl, nio_sh, rfl, by omega, by omega, hC.skip hj fun z => (of_decide_eq_false q2) z.2⟩
        · ac_rfl
          refine ⟨_, _, j + 1, c, rfl, nio_sh, rfl, by omega, by omega, hC.skip hj fun z => ?_⟩
          rw [z.1] at q
          cases q
    · rintro en ⟨kvs, t5, j, c, rfl, n5, hr, hjc, hl, hC⟩
      cases c with
      | succ c => cases hr
      | zero => exact ⟨kvs, _, t5, m - 1, rfl, nio_sh, n5, by omega, by omega, by omega, ⟨hC.inc, hC.gd, fun k h _ => hC.cl k h (.inl (by omega))⟩⟩
  · rintro en ⟨kvs, t3, t5, m, rfl, n3, n5, hm, hm2, hl, hC⟩
    simp at hm
    subst hm
    exact hQ kvs t3 t5 n3 n5 (by omega) ⟨hC.inc, hC.gd, fun k h _ => hC.cl k h (.inr hpos)⟩

end
end Ev.Pl


set_option Elab.async false
set_option linter.all false
set_option maxRecDepth 100000
set_option maxHeartbeats 40000000
namespace Ev.Pl
open PySem PySem.Spec PyProof.Rows L2
local macro_rules
  | `(tactic| ac_rfl) => `(tactic| repeat (first
    | with_reducible refine WPc.step ?_
    | with_reducible first | refine wE_call (by assumption) ?_ | refine wT_call (by assumption) ?_ | refine wE_callK (by assumption) ?_ | refine wT_callK (by assumption) ?_ | refine wE_dctK1 rfl rfl ?_ | refine wP_ite' rfl ?_ | refine wG.mk (by first | assumption | (show _ ≤ 16777216; omega) | (show _ < 16777216; omega) | omega | exact fit_of (by omega) (by omega) | (show _ ≤ 16777216; simp only [List.length_append, List.length_cons, List.length_nil, List.length_map]; omega) | (show _ < 16777216; simp only [List.length_append, List.length_cons, List.length_nil, List.length_map]; omega)) ?_
    | (fail_if_success with_reducible refine WSt.step ?_)
      first | refine wO_some ?_ | refine wP_some ?_ | refine wT_some ?_ | refine wI_tt ?_ | refine wI_ff ?_ | refine wA_mk rfl ?_ | refine wU_l rfl rfl ?_ | refine wG.mk (by first | exact Nat.le_of_ble_eq_true rfl | ((with_reducible refine kG ?_); rfl)) ?_))
/-- what a place hands on to the next NAME -/
def Aft (p : List Str) (kvs : List (D × D)) (s : Str) (j : Nat) (aft : List (D × D)) : Prop := ∀ k, memK aft k ↔ ((∃ h : k < p.length, k < j ∧ memK kvs k ∧ p[k] = "**") ∨ ∃ i, ∃ h : i < p.length, i < j ∧ k = i + 1 ∧ memK kvs i ∧ ¬ p[i] = "**" ∧ fitB p[i] s = true)
theorem Aft.zero {p : List Str} {kvs : List (D × D)} {s : Str} : Aft p kvs s 0 [] := fun k => by
  constructor
  · intro h
    cases h
  · rintro (⟨_, h, _⟩ | ⟨_, _, h, _⟩) <;> omega
theorem Aft.none {p : List Str} {kvs aft : List (D × D)} {s : Str} {j : Nat} (h : Aft p kvs s j aft) (hj : j < p.length) (q : ¬ memK kvs j ∨ (¬ p[j] = "**" ∧ ¬ fitB p[j] s = true)) : Aft p kvs s (j + 1) aft := fun k => by
  rw [h k]
  constructor
  · rintro (⟨a, b, c⟩ | ⟨i, a, b, c⟩)
    · exact .inl ⟨a, by omega, c⟩
    · exact .inr ⟨i, a, by omega, c⟩
  · rintro (⟨a, b, c, d⟩ | ⟨i, a, b, c, d, e, f⟩)
    · by_cases z : k = j
      · subst z
        rcases q with q | q
        · exact (q c).elim
        · exact (q.1 d).elim
      · exact .inl ⟨a, by omega, c, d⟩
    · by_cases z : i = j
      · subst z
        rcases q with q | q
        · exact (q d).elim
        · exact (q.2 f).elim
      · exact .inr ⟨i, a, by omega, c, d, e, f⟩
theorem Aft.many {p : List Str} {kvs aft : List (D × D)} {s : Str} {j : Nat} {v : D} (h : Aft p kvs s j aft) (hj : j < p.length) (q : memK kvs j) (e : p[j] = "**") : Aft p kvs s (j + 1) (dPut aft [.int (j : Int)] [.inl (j : Int)] v) := fun k => by
  rw [memK_put, h k]
  constructor
  · rintro (rfl | ⟨a, b, c⟩ | ⟨i, a, b, c⟩)
    · exact .inl ⟨hj, by omega, q, e⟩
    · exact .inl ⟨a, by omega, c⟩
    · exact .inr ⟨i, a, by omega, c⟩
  · rintro (⟨a, b, c, d⟩ | ⟨i, a, b, c, d, e', f⟩)
    · by_cases z : k = j
      · exact .inl z
      · exact .inr (.inl ⟨a, by omega, c, d⟩)
    · by_cases z : i = j
      · subst z
        exact (e' e).elim
      · exact .inr (.inr ⟨i, a, by omega, c, d, e', f⟩)
theorem Aft.one {p : List Str} {kvs aft : List (D × D)} {s : Str} {j : Nat} {v : D} (h : Aft p kvs s j aft) (hj : j < p.length) (q : memK kvs j) (e : ¬ p[j] = "**") (f : fitB p[j] s = true) : Aft p kvs s (j + 1) (dPut aft [.int ((j + 1 : Nat) : Int)] [.inl ((j + 1 : Nat) : Int)] v) := fun k => by
  rw [memK_put, h k]
  constructor
  · rintro (rfl | ⟨a, b, c⟩ | ⟨i, a, b, c⟩)
    · exact .inr ⟨j, hj, by omega, rfl, q, e, f⟩
    · exact .inl ⟨a, by omega, c⟩
    · exact .inr ⟨i, a, by omega, c⟩
  · rintro (⟨a, b, c, d⟩ | ⟨i, a, b, c, d, e', f'⟩)
    · by_cases z : k = j
      · subst z
        exact (e d).elim
      · exact .inr (.inl ⟨a, by omega, c, d⟩)
    · by_cases z : i = j
      · exact .inl (by omega)
      · exact .inr (.inr ⟨i, a, by omega, c, d, e', f'⟩)
def TakesS (tbl : List Fn) (i : Nat) : Prop := ∀ n, 4 ≤ n → ∀ (dp dr : D) (p r : List Str), SqD dp (p.map .str) → SqD dr (r.map .str) → (∀ x ∈ p, okS x = true) → (∀ x ∈ r, okS x = true) → p ≠ [] → p.length ≤ 100 → r.length ≤ 1000 → (∀ x ∈ p, ∀ s ∈ r, lfitB x s = fitB x s) →
  evCall tbl n i [dp, dr] = some (.bool (mtB p r), .sh, [])
theorem takesS {tbl : List Fn} {i j0 : Nat} (h : tbl[i]? = some (F_law_takes j0)) (hj0 : LfitS tbl j0) (hio : ioOf tbl j0 = [false, false]) : TakesS tbl i := fun n hn dp dr p r hp hr okp okr hne lp lr hfit => by
  obtain ⟨n, rfl⟩ : ∃ n', n = n' + 1 := ⟨n - 1, by omega⟩
  have ep : (p.map PyData.str).length = p.length := List.length_map _
  have hpos : 0 < p.length := List.length_pos_iff.mpr hne
  rw [evCall_succ h]
  refine wT_eq (wO_fn rfl ?_)
  refine wS_seq (wS_set ?_)
  ac_rfl
  refine clo2 (p := p) hp lp (fun k => k ≤ p.length ∧ (mtB (p.drop k) r = true → mtB p r = true)) (fun j hj e g => ⟨hj, fun q => g.2 (by rw [drop_at hj, mtB_many e, starB_eq, q]; rfl)⟩) none none (k0 := [(.tuple [.int 0], .bool true)]) (t3 := none) (t5 := none) nio_none nio_none (by decide) (fun k hk => ?_) hpos fun kvs t3 t5 n3 n5 hl hC => ?_
  · have : k = 0 := by
      unfold memK dHas at hk
      simp [keysD, keyD] at hk
      omega
    subst this
    exact ⟨Nat.zero_le _, fun q => q⟩
  have h0 : memK kvs 0 := hC.inc 0 rfl
  have hP : Plc p kvs r (mtB p r) := ⟨hC.gd, fun b => ⟨0, h0, b⟩, fun k h m e => hC.cl k h (.inr trivial) m e⟩
  refine sq_nx ?_
  refine wS_seq (wS_for ?_)
  ac_rfl
  refine wO_of hr.items ?_
  refine ⟨fun rest en => ∃ (kvs : List (D × D)) (f2 : Fl) (t3 t4 t5 t6 : Slot) (rs : List Str), en = [some (dp, .sh), some (dr, .sh), some (.dict (mkD :: kvs), f2), t3, t4, t5, t6] ∧ f2 ≠ .io ∧ Nio t3 ∧ Nio t4 ∧ Nio t5 ∧ Nio t6 ∧ rest = rs.map .str ∧ (∀ s ∈ rs, s ∈ r) ∧ Plc p kvs rs (mtB p r) ∧ kvs.length ≤ 20000,
    ⟨kvs, .ow, t3, none, t5, none, r, rfl, by decide, n3, nio_none, n5, nio_none, rfl, fun s h => h, hP, hl⟩, ?_, ?_⟩
  · rintro x rr en ⟨kvs, f2, t3, t4, t5, t6, rs, rfl, hf2, n3, n4, n5, n6, hrs, hsub, hP, hl⟩
    cases rs with
    | nil => cases hrs
    | cons s rs =>
      rw [List.map_cons] at hrs
      obtain ⟨rfl, rfl⟩ := List.cons.inj hrs
      have hsr : s ∈ r := hsub s (by simp)
      refine wO_of (st_ok (i := 4) rfl n4) ?_
      refine wS_seq (wS_set ?_)
      ac_rfl
      refine wO_of (stR_ok (i := 6) rfl n6) ?_
      refine sq_nx ?_
      refine wS_seq (wS_for ?_)
      ac_rfl
      refine wP_of hp.len ?_
      ac_rfl
      rw [ep, rangeD_zero, Int.toNat_natCast, List.range_eq_range']
      refine ⟨fun rest en => ∃ (aft : List (D × D)) (t5 : Slot) (j c : Nat), en = [some (dp, .sh), some (dr, .sh), some (.dict (mkD :: kvs), f2), t3, some (.str s, .sh), t5, some (.dict (mkD :: aft), .ow)] ∧ Nio t5 ∧ rest = (List.range' j c).map (fun i : Nat => .int i) ∧ j + c = p.length ∧ aft.length ≤ j ∧ Aft p kvs s j aft,
        ⟨[], t5, 0, p.length, rfl, n5, rfl, by omega, by simp, Aft.zero⟩, ?_, ?_⟩
      · rintro y rr2 en ⟨aft, t5, j, c, rfl, n5, hrr, hjc, hal, hA⟩
        cases c with
        | zero => cases hrr
        | succ c =>
          rw [List.range'_succ, List.map_cons] at hrr
          obtain ⟨rfl, rfl⟩ := List.cons.inj hrr
          have hj : j < p.length := by omega
          have hlen : (mkD :: aft).length < LINE := by rw [List.length_cons]; show _ < 16777216; omega
          have hat := (hp.ix _).trans (at_drop hj).1
          refine wO_of (st_ok (i := 5) rfl n5) ?_
          ac_rfl
          refine slot_any rfl fun r1 hr1 => ?_
          ac_rfl
          refine wO_of hr1 ?_
          ac_rfl
          refine ⟨fun q => ?_, fun q => ?_⟩
          · ac_rfl
            refine wO_of hat ?_
            ac_rfl
            refine ⟨fun q2 => ?_, fun q2 => ?_⟩
            · have q2' := of_decide_eq_true q2
              ac_rfl
              refine wU_d rfl rfl putKD_mk hlen ?_
              ac_rfl
              refine slot_any rfl fun r2 hr2 => ?_
              ac_rfl
              refine wO_of hr2 ?_
              ac_rfl
              rw [q]
              ac_rfl
              refine wO_of hat ?_
              ac_rfl
              rw [q2]
              ac_rfl
              refine ⟨_, _, j + 1, c, rfl, nio_sh, rfl, by omega, ?_, hA.many (v := .bool true) hj q q2'⟩
              have := dPut_len [.int (j : Int)] [.inl (j : Int)] (.bool true) aft
              omega
            · have q2' := of_decide_eq_false q2
              ac_rfl
              refine slot_any rfl fun r2 hr2 => ?_
              ac_rfl
              refine wO_of hr2 ?_
              ac_rfl
              rw [q]
              ac_rfl
              refine wO_of hat ?_
              ac_rfl
              rw [q2]
              ac_rfl
              refine wO_of hat ?_
              ac_rfl
              refine wT_of (hj0 n (by omega) _ _ (okp _ (List.getElem_mem hj)) (okr s hsr)) ?_
              rw [hfit _ (List.getElem_mem hj) s hsr]
              ac_rfl
              refine ⟨fun q3 => ?_, fun q3 => ?_⟩
              · ac_rfl
                refine wU_d rfl rfl putKD_mk hlen ?_
                refine ⟨_, _, j + 1, c, rfl, nio_sh, rfl, by omega, ?_, hA.one (v := .bool true) hj q q2' q3⟩
                have := dPut_len [.int ((j : Int) + 1)] [.inl ((j : Int) + 1)] (.bool true) aft
                show (dPut aft [.int ((j : Int) + 1)] [.inl ((j : Int) + 1)] (.bool true)).length ≤ _
                omega
              · ac_rfl
                exact ⟨_, _, j + 1, c, rfl, nio_sh, rfl, by omega, by omega, hA.none hj (.inr ⟨q2', by rw [q3]; decide⟩)⟩
          · ac_rfl
            refine slot_any rfl fun r2 hr2 => ?_
            ac_rfl
            refine wO_of hr2 ?_
            ac_rfl
            rw [q]
            ac_rfl
            exact ⟨_, _, j + 1, c, rfl, nio_sh, rfl, by omega, by omega, hA.none hj (.inl fun z => by unfold memK at z; rw [q] at z; cases z)⟩
      · rintro en ⟨aft, t5, j, c, rfl, n5, hrr, hjc, hal, hA⟩
        cases c with
        | succ c => cases hrr
        | zero =>
          have hj : j = p.length := by omega
          subst hj
          obtain ⟨a1, a2⟩ := hP.step (aft := aft) fun k => by
            rw [hA k]
            constructor
            · rintro (⟨a, _, c⟩ | ⟨i, a, _, c⟩)
              · exact .inl ⟨a, c⟩
              · exact .inr ⟨i, a, c⟩
            · rintro (⟨a, c⟩ | ⟨i, a, c⟩)
              · exact .inl ⟨a, a, c⟩
              · exact .inr ⟨i, a, a, c⟩
          refine sq_nx ?_
          refine wS_seq ?_
          refine clo6 (p := p) hp lp (fun k => k ≤ p.length ∧ (mtB (p.drop k) rs = true → mtB p r = true)) (fun j hj e g => ⟨hj, fun q => g.2 (by rw [drop_at hj, mtB_many e, starB_eq, q]; rfl)⟩) _ _ (k0 := aft) n3 n5 (by omega) a1 hpos fun kvs' t3 t5 n3 n5 hl' hC => ?_
          ac_rfl
          refine wO_of (stR_ok (i := 2) rfl (t := some (.dict (mkD :: kvs), f2)) (fun d z => hf2 (by cases z; rfl))) ?_
          ac_rfl
          refine ⟨kvs', .sh, t3, _, t5, _, rs, rfl, by decide, n3, nio_sh, n5, nio_sh, rfl, fun s h => hsub s (by simp [h]), ⟨hC.gd, fun b => ?_, fun k h m e => hC.cl k h (.inr trivial) m e⟩, hl'⟩
          obtain ⟨k, m, q⟩ := a2 b
          exact ⟨k, hC.inc k m, q⟩
  · rintro en ⟨kvs, f2, t3, t4, t5, t6, rs, rfl, hf2, n3, n4, n5, n6, hrs, hsub, hP, hl⟩
    have hrs' : rs = [] := by
      cases rs with
      | nil => rfl
      | cons a b => cases hrs
    subst hrs'
    ac_rfl
    refine wP_of hp.len ?_
    ac_rfl
    refine slot_any rfl fun r2 hr2 => ?_
    ac_rfl
    refine wO_of hr2 ?_
    ac_rfl
    rw [ep]
    exact ⟨by rw [hP.done], rfl, rfl⟩
end Ev.Pl


set_option Elab.async false
set_option linter.all false
set_option maxRecDepth 100000
set_option maxHeartbeats 40000000
namespace Ev.Pl
open PySem PySem.Spec PyProof.Rows L2
local macro_rules
  | `(tactic| ac_rfl) => `(tactic| repeat (first
    | with_reducible refine WPc.step ?_
    | with_reducible first | refine wE_call (by assumption) ?_ | refine wT_call (by assumption) ?_ | refine wE_callK (by assumption) ?_ | refine wT_callK (by assumption) ?_ | refine wE_dctK1 rfl rfl ?_ | refine wP_ite' rfl ?_ | refine wG.mk (by first | assumption | (show _ ≤ 16777216; omega) | (show _ < 16777216; omega) | omega | exact fit_of (by omega) (by omega) | (show _ ≤ 16777216; simp only [List.length_append, List.length_cons, List.length_nil, List.length_map]; omega) | (show _ < 16777216; simp only [List.length_append, List.length_cons, List.length_nil, List.length_map]; omega)) ?_
    | (fail_if_success with_reducible refine WSt.step ?_)
      first | refine wO_some ?_ | refine wP_some ?_ | refine wT_some ?_ | refine wI_tt ?_ | refine wI_ff ?_ | refine wA_mk rfl ?_ | refine wU_l rfl rfl ?_ | refine wG.mk (by first | exact Nat.le_of_ble_eq_true rfl | ((with_reducible refine kG ?_); rfl)) ?_))
/-- plain -/
def F_plain (i_plain : Nat) : Fn := ⟨2, [false], (.ret (.ife (.isi (.var 0) [.list, .tuple]) (.blt .tuple (.cons (.comp [1] (.name 1) (.seq (.var 0)) .no (.call i_plain (.cons (.var 1) .nil))) .nil)) (.var 0)))⟩
/-- decides -/
def F_decides (i_matches : Nat) : Fn := ⟨6, [false, false], (.seq (.set 2 (.comp [3, 4, 5] (.pair (.name 3) (.pair (.name 4) (.name 5))) (.enum (.var 0)) (.yes (.call i_matches (.cons (.var 5) (.cons (.var 1) .nil)))) (.var 3)))
 (.ret (.ife (.cmp .gt (.blt .len (.cons (.var 2) .nil)) (.cst (.int 0))) (.ix (.var 2) (.neg (.cst (.int 1)))) (.cst .none))))⟩
/-- told -/
def F_told (i_decides : Nat) : Fn := ⟨3, [false, false], (.seq (.set 2 (.call i_decides (.cons (.var 0) (.cons (.var 1) .nil))))
 (.ret (.ife (.cmp .isn (.var 2) (.cst .none)) (.cst (.str "keep")) (.ix (.ix (.var 0) (.var 2)) (.cst (.int 0))))))⟩
/-- left -/
def F_left (i_plain i_told : Nat) : Fn := ⟨3, [false, false], (.ret (.comp [2] (.name 2) (.seq (.call i_plain (.cons (.var 1) .nil))) (.yes (.cmp .eq (.call i_told (.cons (.var 0) (.cons (.var 2) .nil))) (.cst (.str "out")))) (.var 2)))⟩
/-- _law_lists -/
def F_law_lists (i_law_lists : Nat) : Fn := ⟨2, [false], (.ret (.ife (.isi (.var 0) [.list, .tuple]) (.comp [1] (.name 1) (.seq (.var 0)) .no (.call i_law_lists (.cons (.var 1) .nil))) (.var 0)))⟩
/-- _law_word -/
def F_law_word (i_law_takes : Nat) : Fn := ⟨4, [false, false], (.seq (.set 2 (.cst (.str "keep")))
 (.seq (.for_ (.name 3) (.seq (.var 0))
 (.ite (.call i_law_takes (.cons (.ix (.var 3) (.cst (.int 1))) (.cons (.var 1) .nil)))
 (.set 2 (.ix (.var 3) (.cst (.int 0))))
 .pass))
 (.ret (.var 2))))⟩
/-- _law_last -/
def F_law_last (i_law_takes : Nat) : Fn := ⟨5, [false, false], (.seq (.set 2 (.comp [3, 4] (.pair (.name 3) (.name 4)) (.enum (.var 0)) (.yes (.call i_law_takes (.cons (.ix (.var 4) (.cst (.int 1))) (.cons (.var 1) .nil)))) (.var 3)))
 (.ret (.ife (.cmp .ne (.var 2) (.lst .nil)) (.ix (.var 2) (.neg (.cst (.int 1)))) (.cst .none))))⟩
/-! ### plain: tuples in the place of lists; and lists in the place of tuples -/
mutual
def plainD : D → D
  | .list xs => .tuple (plainAll xs)
  | .tuple xs => .tuple (plainAll xs)
  | d => d
def plainAll : List D → List D
  | [] => []
  | x :: r => plainD x :: plainAll r
end
theorem plainAll_map : ∀ xs : List D, plainAll xs = xs.map plainD
  | [] => rfl
  | x :: r => by rw [plainAll, plainAll_map r]; rfl
mutual
def listsD : D → D
  | .list xs => .list (listsAll xs)
  | .tuple xs => .list (listsAll xs)
  | d => d
def listsAll : List D → List D
  | [] => []
  | x :: r => listsD x :: listsAll r
end
theorem listsAll_map : ∀ xs : List D, listsAll xs = xs.map listsD
  | [] => rfl
  | x :: r => by rw [listsAll, listsAll_map r]; rfl
theorem plain_strs (l : List Str) : (l.map PyData.str).map plainD = l.map PyData.str := by
  rw [List.map_map]
  rfl
theorem lists_strs (l : List Str) : (l.map PyData.str).map listsD = l.map PyData.str := by
  rw [List.map_map]
  rfl
def PlainS (tbl : List Fn) (i : Nat) : Prop := ∀ (k : Nat) (d : D), Pln k d → ∀ n, k < n → evCall tbl n i [d] = some (plainD d, .sh, [])
theorem plainS {tbl : List Fn} {i : Nat} (h : tbl[i]? = some (F_plain i)) : PlainS tbl i := fun k d hd => by
  have hio := ioOf_at h
  induction hd with
  | @list k xs hx hl ih =>
    intro n hn
    obtain ⟨n, rfl⟩ : ∃ n', n = n' + 1 := ⟨n - 1, by omega⟩
    rw [evCall_succ h]
    refine wT_eq (wO_fn rfl ?_)
    ac_rfl
    refine wE_compM xs id plainD ?_
    ac_rfl
    refine ⟨(List.map_id _).symm, hl, fun x hx' => ?_, ?_⟩
    · ac_rfl
      refine wT_of (ih x hx' n (by omega)) ?_
      ac_rfl
      exact ⟨rfl, rfl⟩
    · ac_rfl
      exact ⟨by rw [plainD, plainAll_map], rfl, rfl⟩
  | @tuple k xs hx hl ih =>
    intro n hn
    obtain ⟨n, rfl⟩ : ∃ n', n = n' + 1 := ⟨n - 1, by omega⟩
    rw [evCall_succ h]
    refine wT_eq (wO_fn rfl ?_)
    ac_rfl
    refine wE_compM xs id plainD ?_
    ac_rfl
    refine ⟨(List.map_id _).symm, hl, fun x hx' => ?_, ?_⟩
    · ac_rfl
      refine wT_of (ih x hx' n (by omega)) ?_
      ac_rfl
      exact ⟨rfl, rfl⟩
    · ac_rfl
      exact ⟨by rw [plainD, plainAll_map], rfl, rfl⟩
  | _ =>
    intro n hn
    obtain ⟨n, rfl⟩ : ∃ n', n = n' + 1 := ⟨n - 1, by omega⟩
    rw [evCall_succ h]
    refine wT_eq (wO_fn rfl ?_)
    ac_rfl
    exact ⟨rfl, rfl, rfl⟩
def flL : D → Fl
  | .list _ => .ow
  | .tuple _ => .ow
  | _ => .sh
def ListsS (tbl : List Fn) (i : Nat) : Prop := ∀ (k : Nat) (d : D), Pln k d → ∀ n, k < n → wT (evCall tbl n i [d]) fun d' fl outs => d' = listsD d ∧ fl = flL d ∧ outs = []
theorem listsS {tbl : List Fn} {i : Nat} (h : tbl[i]? = some (F_law_lists i)) : ListsS tbl i := fun k d hd => by
  have hio := ioOf_at h
  induction hd with
  | @list k xs hx hl ih =>
    intro n hn
    obtain ⟨n, rfl⟩ : ∃ n', n = n' + 1 := ⟨n - 1, by omega⟩
    rw [evCall_succ h]
    refine wO_fn rfl ?_
    ac_rfl
    refine wE_compM xs id listsD ?_
    ac_rfl
    refine ⟨(List.map_id _).symm, hl, fun x hx' => ?_, ?_⟩
    · ac_rfl
      refine (ih x hx' n (by omega)).imp ?_
      rintro d' fl outs ⟨rfl, rfl, rfl⟩
      ac_rfl
      exact ⟨rfl, rfl⟩
    · ac_rfl
      exact ⟨by rw [listsD, listsAll_map], rfl, rfl⟩
  | @tuple k xs hx hl ih =>
    intro n hn
    obtain ⟨n, rfl⟩ : ∃ n', n = n' + 1 := ⟨n - 1, by omega⟩
    rw [evCall_succ h]
    refine wO_fn rfl ?_
    ac_rfl
    refine wE_compM xs id listsD ?_
    ac_rfl
    refine ⟨(List.map_id _).symm, hl, fun x hx' => ?_, ?_⟩
    · ac_rfl
      refine (ih x hx' n (by omega)).imp ?_
      rintro d' fl outs ⟨rfl, rfl, rfl⟩
      ac_rfl
      exact ⟨rfl, rfl⟩
    · ac_rfl
      exact ⟨by rw [listsD, listsAll_map], rfl, rfl⟩
  | _ =>
    intro n hn
    obtain ⟨n, rfl⟩ : ∃ n', n = n' + 1 := ⟨n - 1, by omega⟩
    rw [evCall_succ h]
    refine wO_fn rfl ?_
    ac_rfl
    exact ⟨rfl, rfl, rfl⟩
/-! ### LISTs -/
def lineL (l : Ln) : D := .list [.str l.1, .list (l.2.map .str)]
theorem lists_line (l : Ln) : listsD (lineD l) = lineL l := by
  rw [lineD, listsD, listsAll_map]
  show PyData.list [_, listsD (.tuple (l.2.map .str))] = _
  rw [listsD, listsAll_map, lists_strs]
  rfl
/-- the LINEs as they may be handed in -/
def LnsD (d : D) (ls : List Ln) : Prop := d = .tuple (ls.map lineD) ∨ d = .list (ls.map lineL)
def okLs (ls : List Ln) : Prop := ∀ l ∈ ls, (∀ x ∈ l.2, okS x = true) ∧ l.2.length ≤ 1000
def decL (ls : List Ln) (r : List Str) : List Nat := (ls.zipIdx.filter fun x => mtB x.1.2 r).map (·.2)
def wordF (ls : List Ln) (r : List Str) : Str := ls.foldl (fun w l => if mtB l.2 r = true then l.1 else w) "keep"
theorem decL_snoc (ls : List Ln) (l : Ln) (r : List Str) : decL (ls ++ [l]) r = decL ls r ++ (if mtB l.2 r = true then [ls.length] else []) := by
  unfold decL
  rw [List.zipIdx_append, List.filter_append, List.map_append]
  congr 1
  simp only [List.zipIdx_cons, List.zipIdx_nil, List.filter_cons, List.filter_nil]
  by_cases h : mtB l.2 r = true
  · simp [h]
  · simp [h]
theorem wordF_dec (ls : List Ln) (r : List Str) : (decL ls r = [] → wordF ls r = "keep") ∧ ∀ k, (decL ls r).getLast? = some k → ∃ l, ls[k]? = some l ∧ wordF ls r = l.1 := by
  have key : ∀ (n : Nat) (ls : List Ln), ls.length = n → (decL ls r = [] → wordF ls r = "keep") ∧ ∀ k, (decL ls r).getLast? = some k → ∃ l, ls[k]? = some l ∧ wordF ls r = l.1 := by
    intro n
    induction n with
    | zero =>
      intro ls hl
      have : ls = [] := List.eq_nil_of_length_eq_zero hl
      subst this
      exact ⟨fun _ => rfl, fun k h => by simp [decL] at h⟩
    | succ n ih =>
      intro ls hl
      have hne : ls ≠ [] := fun e => by rw [e] at hl; simp at hl
      obtain ⟨ls', l, rfl⟩ : ∃ a b, ls = a ++ [b] := ⟨ls.dropLast, ls.getLast hne, (List.dropLast_concat_getLast hne).symm⟩
      rw [List.length_append] at hl
      have hl' : ls'.length = n := by simpa using hl
      obtain ⟨h1, h2⟩ := ih ls' hl'
      have ew : wordF (ls' ++ [l]) r = if mtB l.2 r = true then l.1 else wordF ls' r := by
        unfold wordF
        rw [List.foldl_append]
        rfl
      rw [decL_snoc, ew]
      by_cases h : mtB l.2 r = true
      · rw [if_pos h, if_pos h]
        refine ⟨fun e => by simp at e, fun k hk => ?_⟩
        rw [List.getLast?_append] at hk
        simp at hk
        subst hk
        exact ⟨l, by simp, rfl⟩
      · rw [if_neg h, if_neg h, List.append_nil]
        refine ⟨h1, fun k hk => ?_⟩
        obtain ⟨l0, a, b⟩ := h2 k hk
        exact ⟨l0, by rw [List.getElem?_append_left (List.getElem?_eq_some_iff.mp a).1]; exact a, b⟩
  exact key _ ls rfl
theorem enumD_map (f : Ln → D) : ∀ (ls : List Ln) (j : Nat), enumD (j : Int) (ls.map f) = (ls.zipIdx j).map fun x => .tuple [.int (x.2 : Nat), f x.1]
  | [], _ => rfl
  | l :: ls, j => by
    have := enumD_map f ls (j + 1)
    rw [List.map_cons, enumD_cons, List.zipIdx_cons, List.map_cons, ← this]
    rfl
/-- the last number, None if there is none -/
def lastD (ks : List Nat) : D := match ks.getLast? with
  | some k => .int (k : Nat)
  | none => .none
theorem at_last {ks : List Nat} (h : ks ≠ []) : atI (ks.map fun k : Nat => PyData.int k) (-1) = some (lastD ks) := by
  have hl : 0 < ks.length := List.length_pos_iff.mpr h
  have e1 : ixN (ks.map fun k : Nat => PyData.int k).length (-1) = some (ks.length - 1) := by
    unfold ixN
    rw [List.length_map, if_neg (by decide), if_pos (by omega)]
    congr 1
    omega
  rw [atI, e1, Option.bind_some, List.getElem?_map, lastD, List.getLast?_eq_getElem?]
  rw [List.getElem?_eq_getElem (by omega)]
  rfl
end Ev.Pl


set_option Elab.async false
set_option linter.all false
set_option maxRecDepth 100000
set_option maxHeartbeats 40000000
namespace Ev.Pl
open PySem PySem.Spec PyProof.Rows L2
local macro_rules
  | `(tactic| ac_rfl) => `(tactic| repeat (first
    | with_reducible refine WPc.step ?_
    | with_reducible first | refine wE_call (by assumption) ?_ | refine wT_call (by assumption) ?_ | refine wE_callK (by assumption) ?_ | refine wT_callK (by assumption) ?_ | refine wE_dctK1 rfl rfl ?_ | refine wP_ite' rfl ?_ | refine wG.mk (by first | assumption | (show _ ≤ 16777216; omega) | (show _ < 16777216; omega) | omega | exact fit_of (by omega) (by omega) | (show _ ≤ 16777216; simp only [List.length_append, List.length_cons, List.length_nil, List.length_map]; omega) | (show _ < 16777216; simp only [List.length_append, List.length_cons, List.length_nil, List.length_map]; omega)) ?_
    | (fail_if_success with_reducible refine WSt.step ?_)
      first | refine wO_some ?_ | refine wP_some ?_ | refine wT_some ?_ | refine wI_tt ?_ | refine wI_ff ?_ | refine wA_mk rfl ?_ | refine wU_l rfl rfl ?_ | refine wG.mk (by first | exact Nat.le_of_ble_eq_true rfl | ((with_reducible refine kG ?_); rfl)) ?_))
def DecidesS (tbl : List Fn) (i : Nat) : Prop := ∀ n, 5 ≤ n → ∀ (dl dr : D) (ls : List Ln) (r : List Str), LnsD dl ls → SqD dr (r.map .str) → okLs ls → (∀ x ∈ r, okS x = true) → ls.length ≤ 1000 → r.length ≤ 1000 →
  evCall tbl n i [dl, dr] = some (lastD (decL ls r), .sh, [])
theorem decidesS {tbl : List Fn} {i j : Nat} (h : tbl[i]? = some (F_decides j)) (hj : MatchS tbl j) (hio : ioOf tbl j = [false, false]) : DecidesS tbl i := fun n hn dl dr ls r hl hr okl okr ll lr => by
  obtain ⟨n, rfl⟩ : ∃ n', n = n' + 1 := ⟨n - 1, by omega⟩
  rw [evCall_succ h]
  refine wT_eq (wO_fn rfl ?_)
  rcases hl with rfl | rfl
  · ac_rfl
    refine wE_compF ls.zipIdx (fun x => mtB x.1.2 r) (fun x => .tuple [.int (x.2 : Nat), lineD x.1]) (fun x => .int (x.2 : Nat)) ?_
    ac_rfl
    refine ⟨enumD_map lineD ls 0, by rw [List.length_zipIdx]; show _ ≤ 16777216; omega, fun x hx => ?_, ?_⟩
    · obtain ⟨o1, o2⟩ := okl x.1 (by obtain ⟨y, k⟩ := x; exact List.mem_of_getElem? (List.mem_zipIdx_iff_getElem?.mp hx))
      ac_rfl
      refine wT_of (hj n (by omega) _ dr x.1.2 r (.inl rfl) hr o1 okr o2 lr) ?_
      ac_rfl
      refine ⟨rfl, fun _ => ?_, fun _ => rfl⟩
      ac_rfl
      exact ⟨rfl, rfl⟩
    · have e : (ls.zipIdx.filter fun x => mtB x.1.2 r).map (fun x => PyData.int (x.2 : Nat)) = (decL ls r).map fun k : Nat => PyData.int k := by
        rw [decL, List.map_map]; rfl
      rw [e]
      ac_rfl
      refine ⟨fun q => ?_, fun q => ?_⟩
      · have hne : decL ls r ≠ [] := fun z => by rw [z] at q; simp at q
        ac_rfl
        refine wO_of (at_last hne) ?_
        ac_rfl
        exact ⟨rfl, rfl, rfl⟩
      · have hne : decL ls r = [] := by
          cases z : decL ls r with
          | nil => rfl
          | cons a b => rw [z] at q; simp at q
        ac_rfl
        rw [hne]
        exact ⟨rfl, rfl, rfl⟩
  · ac_rfl
    refine wE_compF ls.zipIdx (fun x => mtB x.1.2 r) (fun x => .tuple [.int (x.2 : Nat), lineL x.1]) (fun x => .int (x.2 : Nat)) ?_
    ac_rfl
    refine ⟨enumD_map lineL ls 0, by rw [List.length_zipIdx]; show _ ≤ 16777216; omega, fun x hx => ?_, ?_⟩
    · obtain ⟨o1, o2⟩ := okl x.1 (by obtain ⟨y, k⟩ := x; exact List.mem_of_getElem? (List.mem_zipIdx_iff_getElem?.mp hx))
      ac_rfl
      refine wT_of (hj n (by omega) _ dr x.1.2 r (.inr rfl) hr o1 okr o2 lr) ?_
      ac_rfl
      refine ⟨rfl, fun _ => ?_, fun _ => rfl⟩
      ac_rfl
      exact ⟨rfl, rfl⟩
    · have e : (ls.zipIdx.filter fun x => mtB x.1.2 r).map (fun x => PyData.int (x.2 : Nat)) = (decL ls r).map fun k : Nat => PyData.int k := by
        rw [decL, List.map_map]; rfl
      rw [e]
      ac_rfl
      refine ⟨fun q => ?_, fun q => ?_⟩
      · have hne : decL ls r ≠ [] := fun z => by rw [z] at q; simp at q
        ac_rfl
        refine wO_of (at_last hne) ?_
        ac_rfl
        exact ⟨rfl, rfl, rfl⟩
      · have hne : decL ls r = [] := by
          cases z : decL ls r with
          | nil => rfl
          | cons a b => rw [z] at q; simp at q
        ac_rfl
        rw [hne]
        exact ⟨rfl, rfl, rfl⟩

theorem lns_ix {dl : D} {ls : List Ln} {k : Nat} {l : Ln} (h : LnsD dl ls) (e : ls[k]? = some l) : ∃ d, ixD dl (.int k) = some d ∧ ixD d (.int 0) = some (.str l.1) := by
  have hk := (List.getElem?_eq_some_iff.mp e).1
  rcases h with rfl | rfl
  · refine ⟨lineD l, ?_, rfl⟩
    rw [ixD, atI, ixN_nat (by omega) (by rw [List.length_map]; omega), Option.bind_some, Int.toNat_natCast, List.getElem?_map, e]
    rfl
  · refine ⟨lineL l, ?_, rfl⟩
    rw [ixD, atI, ixN_nat (by omega) (by rw [List.length_map]; omega), Option.bind_some, Int.toNat_natCast, List.getElem?_map, e]
    rfl
theorem lastD_cases (ks : List Nat) : (ks = [] ∧ lastD ks = .none) ∨ ∃ k, ks.getLast? = some k ∧ lastD ks = .int (k : Nat) := by
  cases e : ks.getLast? with
  | none => exact .inl ⟨List.getLast?_eq_none_iff.mp e, by rw [lastD, e]⟩
  | some k => exact .inr ⟨k, rfl, by rw [lastD, e]⟩
def ToldS (tbl : List Fn) (i : Nat) : Prop := ∀ n, 6 ≤ n → ∀ (dl dr : D) (ls : List Ln) (r : List Str), LnsD dl ls → SqD dr (r.map .str) → okLs ls → (∀ x ∈ r, okS x = true) → ls.length ≤ 1000 → r.length ≤ 1000 →
  evCall tbl n i [dl, dr] = some (.str (wordF ls r), .sh, [])
theorem toldS {tbl : List Fn} {i j : Nat} (h : tbl[i]? = some (F_told j)) (hj : DecidesS tbl j) (hio : ioOf tbl j = [false, false]) : ToldS tbl i := fun n hn dl dr ls r hl hr okl okr ll lr => by
  obtain ⟨n, rfl⟩ : ∃ n', n = n' + 1 := ⟨n - 1, by omega⟩
  have hd := hj n (by omega) dl dr ls r hl hr okl okr ll lr
  obtain ⟨w1, w2⟩ := wordF_dec ls r
  rw [evCall_succ h]
  refine wT_eq (wO_fn rfl ?_)
  ac_rfl
  refine wT_of hd ?_
  rcases lastD_cases (decL ls r) with ⟨e, e2⟩ | ⟨k, e, e2⟩
  · rw [e2]
    ac_rfl
    exact ⟨by rw [w1 e], rfl, rfl⟩
  · obtain ⟨l, a, b⟩ := w2 k e
    obtain ⟨d, i1, i2⟩ := lns_ix hl a
    rw [e2]
    ac_rfl
    refine wO_of i1 ?_
    ac_rfl
    refine wO_of i2 ?_
    ac_rfl
    exact ⟨by rw [b], rfl, rfl⟩
/-- each thing is a tuple or a list of that PATH's texts -/
inductive PthR : List D → List (List Str) → Prop
  | nil : PthR [] []
  | cons {x : D} {p : List Str} {xs : List D} {ps : List (List Str)} : SqD x (p.map PyData.str) → PthR xs ps → PthR (x :: xs) (p :: ps)
theorem PthR.length_eq : ∀ {xs : List D} {ps : List (List Str)}, PthR xs ps → xs.length = ps.length
  | _, _, .nil => rfl
  | _, _, .cons _ t => by rw [List.length_cons, List.length_cons, PthR.length_eq t]
/-- PATHs as they may be handed in: a row of rows -/
def PthsD (d : D) (ps : List (List Str)) : Prop := ∃ xs, SqD d xs ∧ PthR xs ps
theorem plain_pths : ∀ {xs : List D} {ps : List (List Str)}, PthR xs ps → xs.map plainD = ps.map fun p => .tuple (p.map .str)
  | _, _, .nil => rfl
  | _, _, .cons h t => by
    rw [List.map_cons, List.map_cons, plain_pths t]
    congr 1
    rcases h with rfl | rfl
    · rw [plainD, plainAll_map, plain_strs]
    · rw [plainD, plainAll_map, plain_strs]
theorem pln_pths : ∀ {xs : List D} {ps : List (List Str)}, PthR xs ps → (∀ p ∈ ps, p.length ≤ 1000) → ∀ x ∈ xs, Pln 1 x
  | _, _, .nil, _, x, hx => by cases hx
  | _, _, .cons h t, hp, x, hx => by
    rcases List.mem_cons.mp hx with rfl | hx
    · have := hp _ (List.mem_cons_self ..)
      have q : ∀ (p : List Str) (y : D), y ∈ p.map PyData.str → Pln 0 y := fun p y hy => by
        obtain ⟨s, _, rfl⟩ := List.mem_map.mp hy
        exact .str s
      rcases h with rfl | rfl
      · exact .tuple (q _) (by rw [List.length_map]; show _ ≤ 16777216; omega)
      · exact .list (q _) (by rw [List.length_map]; show _ ≤ 16777216; omega)
    · exact pln_pths t (fun p h => hp p (List.mem_cons_of_mem _ h)) x hx
abbrev pathD (p : List Str) : D := .tuple (p.map .str)
def LeftS (tbl : List Fn) (i : Nat) : Prop := ∀ n, 7 ≤ n → ∀ (dl dp : D) (ls : List Ln) (ps : List (List Str)), LnsD dl ls → PthsD dp ps → okLs ls → (∀ p ∈ ps, (∀ x ∈ p, okS x = true) ∧ p.length ≤ 1000) → ls.length ≤ 1000 → ps.length ≤ 1000 →
  evCall tbl n i [dl, dp] = some (.list ((ps.filter fun p => decide (wordF ls p = "out")).map pathD), .ow, [])
theorem leftS {tbl : List Fn} {i j k : Nat} (h : tbl[i]? = some (F_left j k)) (hj : PlainS tbl j) (hk : ToldS tbl k) (hio : ioOf tbl j = [false]) (hio2 : ioOf tbl k = [false, false]) : LeftS tbl i := fun n hn dl dp ls ps hl hp okl okp ll lp => by
  obtain ⟨n, rfl⟩ : ∃ n', n = n' + 1 := ⟨n - 1, by omega⟩
  obtain ⟨xs, hx, hf⟩ := hp
  have hlen : xs.length = ps.length := hf.length_eq
  have hpl : evCall tbl n j [dp] = some (.tuple (ps.map pathD), .sh, []) := by
    have e : plainD dp = .tuple (ps.map pathD) := by
      rcases hx with rfl | rfl
      · rw [plainD, plainAll_map, plain_pths hf]
      · rw [plainD, plainAll_map, plain_pths hf]
    rw [← e]
    have hx1 := pln_pths hf fun p hp => (okp p hp).2
    rcases hx with rfl | rfl
    · exact hj 2 _ (.tuple hx1 (by show _ ≤ 16777216; omega)) n (by omega)
    · exact hj 2 _ (.list hx1 (by show _ ≤ 16777216; omega)) n (by omega)
  rw [evCall_succ h]
  refine wT_eq (wO_fn rfl ?_)
  refine wS_ret ?_
  refine wE_compF ps (fun p => decide (wordF ls p = "out")) pathD pathD ?_
  ac_rfl
  refine wT_of hpl ?_
  ac_rfl
  refine ⟨rfl, by show _ ≤ 16777216; omega, fun p hp => ?_, ?_⟩
  · ac_rfl
    refine wT_of (hk n (by omega) dl (pathD p) ls p hl (.inl rfl) okl (okp p hp).1 ll (okp p hp).2) ?_
    ac_rfl
    refine ⟨rfl, fun _ => ?_, fun _ => rfl⟩
    ac_rfl
    exact ⟨rfl, rfl⟩
  · ac_rfl
    exact ⟨rfl, rfl, rfl⟩
end Ev.Pl


set_option Elab.async false
set_option linter.all false
set_option maxRecDepth 100000
set_option maxHeartbeats 40000000
namespace Ev.Pl
open PySem PySem.Spec PyProof.Rows L2
local macro_rules
  | `(tactic| ac_rfl) => `(tactic| repeat (first
    | with_reducible refine WPc.step ?_
    | with_reducible first | refine wE_call (by assumption) ?_ | refine wT_call (by assumption) ?_ | refine wE_callK (by assumption) ?_ | refine wT_callK (by assumption) ?_ | refine wE_dctK1 rfl rfl ?_ | refine wP_ite' rfl ?_ | refine wG.mk (by first | assumption | (show _ ≤ 16777216; omega) | (show _ < 16777216; omega) | omega | exact fit_of (by omega) (by omega) | (show _ ≤ 16777216; simp only [List.length_append, List.length_cons, List.length_nil, List.length_map]; omega) | (show _ < 16777216; simp only [List.length_append, List.length_cons, List.length_nil, List.length_map]; omega)) ?_
    | (fail_if_success with_reducible refine WSt.step ?_)
      first | refine wO_some ?_ | refine wP_some ?_ | refine wT_some ?_ | refine wI_tt ?_ | refine wI_ff ?_ | refine wA_mk rfl ?_ | refine wU_l rfl rfl ?_ | refine wG.mk (by first | exact Nat.le_of_ble_eq_true rfl | ((with_reducible refine kG ?_); rfl)) ?_))
/-- what makes the law's own answer and the program's agree: LISTS and a PATH of good texts -/
structure TrOk (ls : List Ln) (r : List Str) : Prop where
  okl : okLs ls
  ne : ∀ l ∈ ls, l.2 ≠ [] ∧ l.2.length ≤ 100
  okr : ∀ x ∈ r, okS x = true
  lr : r.length ≤ 1000
  ll : ls.length ≤ 1000
  fit : ∀ l ∈ ls, ∀ x ∈ l.2, ∀ s ∈ r, lfitB x s = fitB x s
def WordS (tbl : List Fn) (i : Nat) : Prop := ∀ n, 5 ≤ n → ∀ (ls : List Ln) (dr : D) (r : List Str), SqD dr (r.map .str) → TrOk ls r → evCall tbl n i [.tuple (ls.map lineD), dr] = some (.str (wordF ls r), .sh, [])
theorem wordF_snoc (ls : List Ln) (l : Ln) (r : List Str) : wordF (ls ++ [l]) r = if mtB l.2 r = true then l.1 else wordF ls r := by
  rw [wordF, List.foldl_append]; rfl
theorem wordS {tbl : List Fn} {i j : Nat} (h : tbl[i]? = some (F_law_word j)) (hj : TakesS tbl j) (hio : ioOf tbl j = [false, false]) : WordS tbl i := fun n hn ls dr r hr ok => by
  obtain ⟨n, rfl⟩ : ∃ n', n = n' + 1 := ⟨n - 1, by omega⟩
  rw [evCall_succ h]
  refine wT_eq (wO_fn rfl ?_)
  ac_rfl
  refine wS_for ?_
  ac_rfl
  refine ⟨fun rest en => ∃ (pre post : List Ln) (t : Slot), ls = pre ++ post ∧ rest = post.map lineD ∧ en = [some (.tuple (ls.map lineD), .sh), some (dr, .sh), some (.str (wordF pre r), .sh), t] ∧ Nio t,
    ⟨[], ls, none, rfl, rfl, rfl, nio_none⟩, ?_, ?_⟩
  · rintro x rr en ⟨pre, post, t, e1, e2, rfl, nt⟩
    cases post with
    | nil => cases e2
    | cons l post =>
      cases e2
      have hl : l ∈ ls := by rw [e1]; simp
      refine wO_of (st_ok (i := 3) rfl nt) ?_
      have nx : ls = (pre ++ [l]) ++ post := by rw [e1]; simp
      ac_rfl
      refine wT_of (hj n (by omega) _ dr l.2 r (.inl rfl) hr (ok.okl l hl).1 ok.okr (ok.ne l hl).1 (ok.ne l hl).2 ok.lr (ok.fit l hl)) ?_
      ac_rfl
      refine ⟨fun q => ?_, fun q => ?_⟩
      · ac_rfl
        exact ⟨_, _, _, nx, rfl, by rw [wordF_snoc, if_pos q]; rfl, nio_sh⟩
      · ac_rfl
        exact ⟨_, _, _, nx, rfl, by rw [wordF_snoc, if_neg (by rw [q]; decide)]; rfl, nio_sh⟩
  · rintro en ⟨pre, post, t, e1, e2, rfl, nt⟩
    cases post with
    | cons l post => cases e2
    | nil =>
      rw [List.append_nil] at e1
      subst e1
      ac_rfl
      exact ⟨rfl, rfl, rfl⟩
theorem ints_shaped (ks : List Nat) (hk : ∀ k ∈ ks, k < 1000000) : shapedD (.list (ks.map fun k : Nat => PyData.int k)) = true := by
  have h : PyData.canLayAll0 (ks.map fun k : Nat => PyData.int k) = true ∧ PyData.depthAll (ks.map fun k : Nat => PyData.int k) ≤ 1 := by
    induction ks with
    | nil => exact ⟨rfl, by simp [PyData.depthAll]⟩
    | cons a r ih =>
      have b := ih fun k hk' => hk k (by simp [hk'])
      have c := hk a (by simp)
      refine ⟨?_, ?_⟩
      · rw [List.map_cons, PyData.canLayAll0, b.1, PyData.canLay0]; rfl
      · rw [List.map_cons, PyData.depthAll, PyData.depth]; omega
  unfold shapedD SeqAt.shaped
  rw [PyData.canLay0, h.1, PyData.depth, decide_eq_true (by omega)]
  rfl
theorem ne_nil_ints (ks : List Nat) (hk : ∀ k ∈ ks, k < 1000000) : cmpD .ne (.list (ks.map fun k : Nat => PyData.int k)) (.list []) = some (!ks.isEmpty) := by
  have a := ints_shaped ks hk
  have b : shapedD (.list []) = true := rfl
  rw [cmpD]
  cases ks with
  | nil => simp [Ev.eqD, b, PyData.eqv, PyData.eqvAll]
  | cons k ks =>
    rw [List.map_cons] at a
    simp [Ev.eqD, a, b, PyData.eqv, PyData.eqvAll]
theorem decL_lt {ls : List Ln} {r : List Str} : ∀ k ∈ decL ls r, k < ls.length := fun k hk => by
  obtain ⟨⟨l, k'⟩, a, rfl⟩ := List.mem_map.mp hk
  have := List.mem_zipIdx_iff_getElem?.mp (List.mem_filter.mp a).1
  exact (List.getElem?_eq_some_iff.mp this).1
def LastS (tbl : List Fn) (i : Nat) : Prop := ∀ n, 5 ≤ n → ∀ (ls : List Ln) (dr : D) (r : List Str), SqD dr (r.map .str) → TrOk ls r → evCall tbl n i [.tuple (ls.map lineD), dr] = some (lastD (decL ls r), .sh, [])
theorem lastS {tbl : List Fn} {i j : Nat} (h : tbl[i]? = some (F_law_last j)) (hj : TakesS tbl j) (hio : ioOf tbl j = [false, false]) : LastS tbl i := fun n hn ls dr r hr ok => by
  obtain ⟨n, rfl⟩ : ∃ n', n = n' + 1 := ⟨n - 1, by omega⟩
  rw [evCall_succ h]
  refine wT_eq (wO_fn rfl ?_)
  ac_rfl
  refine wE_compF ls.zipIdx (fun x => mtB x.1.2 r) (fun x => .tuple [.int (x.2 : Nat), lineD x.1]) (fun x => .int (x.2 : Nat)) ?_
  ac_rfl
  refine ⟨enumD_map lineD ls 0, by rw [List.length_zipIdx]; have := ok.ll; show _ ≤ 16777216; omega, fun x hx => ?_, ?_⟩
  · have hl : x.1 ∈ ls := by obtain ⟨y, k⟩ := x; exact List.mem_of_getElem? (List.mem_zipIdx_iff_getElem?.mp hx)
    ac_rfl
    refine wT_of (hj n (by omega) _ dr x.1.2 r (.inl rfl) hr (ok.okl _ hl).1 ok.okr (ok.ne _ hl).1 (ok.ne _ hl).2 ok.lr (ok.fit _ hl)) ?_
    ac_rfl
    refine ⟨rfl, fun _ => ?_, fun _ => rfl⟩
    ac_rfl
    exact ⟨rfl, rfl⟩
  · have e : (ls.zipIdx.filter fun x => mtB x.1.2 r).map (fun x => PyData.int (x.2 : Nat)) = (decL ls r).map fun k : Nat => PyData.int k := by
      rw [decL, List.map_map]; rfl
    rw [e]
    ac_rfl
    refine wO_of (ne_nil_ints _ fun k hk => Nat.lt_of_lt_of_le (decL_lt k hk) (by have := ok.ll; omega)) ?_
    ac_rfl
    refine ⟨fun q => ?_, fun q => ?_⟩
    · have hne : decL ls r ≠ [] := fun z => by rw [z] at q; simp at q
      ac_rfl
      refine wO_of (at_last hne) ?_
      ac_rfl
      exact ⟨rfl, rfl, rfl⟩
    · have hne : decL ls r = [] := by
        cases z : decL ls r with
        | nil => rfl
        | cons a b => rw [z] at q; simp at q
      ac_rfl
      rw [hne]
      exact ⟨rfl, rfl, rfl⟩
/-- POOL: every text that the laws draw from -/
def POOL : List Str := TAGS ++ NEWS ++ STARS ++ (["**"] : List Str)
theorem pool_ok : (POOL.all fun s => okS s) = true := by decide +kernel
theorem pool_fit : (POOL.all fun x => POOL.all fun s => decide (lfitB x s = fitB x s)) = true := by decide +kernel
theorem pool_str : (POOL.all fun s => PyData.strOk s) = true := by decide +kernel
theorem okPool {s : Str} (h : s ∈ POOL) : okS s = true := List.all_eq_true.mp pool_ok s h
theorem fitPool {x s : Str} (h : x ∈ POOL) (h2 : s ∈ POOL) : lfitB x s = fitB x s := of_decide_eq_true (List.all_eq_true.mp (List.all_eq_true.mp pool_fit x h) s h2)
theorem pat_pool {ts : List Str} (ht : ∀ s ∈ ts, s ∈ TAGS) {m : Nat} {p : List Str} (h : PatOf ts m p) : ∀ s ∈ p, s ∈ POOL := fun s hs => by
  rcases h.1 s hs with z | z | z
  · simp only [POOL, List.mem_append]; exact .inl (.inl (.inl (ht s z)))
  · rw [z]; simp [POOL]
  · simp only [POOL, List.mem_append]; exact .inl (.inr z)
theorem trail_pool {ts : List Str} (ht : ∀ s ∈ ts, s ∈ TAGS) {s : Str} (h : s ∈ ts ++ NEWS) : s ∈ POOL := by
  rcases List.mem_append.mp h with z | z
  · simp only [POOL, List.mem_append]; exact .inl (.inl (.inl (ht s z)))
  · simp only [POOL, List.mem_append]; exact .inl (.inl (.inr z))
theorem trOk {ts : List Str} (ht : ∀ s ∈ ts, s ∈ TAGS) {m : Nat} (hm : m ≤ 100) {ls : List Ln} (hl : ∀ l ∈ ls, LnOf ts m l) (ll : ls.length ≤ 1000) {r : List Str} (hr : ∀ s ∈ r, s ∈ POOL) (lr : r.length ≤ 1000) : TrOk ls r where
  okl := fun l h => ⟨fun x hx => okPool (pat_pool ht (hl l h).2 x hx), by have := (hl l h).2.2.2; omega⟩
  ne := fun l h => ⟨fun e => by have := (hl l h).2.2.1; rw [e] at this; simp at this, by have := (hl l h).2.2.2; omega⟩
  okr := fun x hx => okPool (hr x hx)
  lr := lr
  ll := ll
  fit := fun l h x hx s hs => fitPool (pat_pool ht (hl l h).2 x hx) (hr s hs)
end Ev.Pl


set_option Elab.async false
set_option linter.all false
set_option maxRecDepth 100000
set_option maxHeartbeats 40000000
namespace Ev.Pl
open PySem PySem.Spec PyProof.Rows L2
local macro_rules
  | `(tactic| ac_rfl) => `(tactic| repeat (first
    | with_reducible refine WPc.step ?_
    | with_reducible first | refine wE_call (by assumption) ?_ | refine wT_call (by assumption) ?_ | refine wE_callK (by assumption) ?_ | refine wT_callK (by assumption) ?_ | refine wE_dctK1 rfl rfl ?_ | refine wP_ite' rfl ?_ | refine wG.mk (by first | assumption | (show _ ≤ 16777216; omega) | (show _ < 16777216; omega) | omega | exact fit_of (by omega) (by omega) | (show _ ≤ 16777216; simp only [List.length_append, List.length_cons, List.length_nil, List.length_map]; omega) | (show _ < 16777216; simp only [List.length_append, List.length_cons, List.length_nil, List.length_map]; omega)) ?_
    | (fail_if_success with_reducible refine WSt.step ?_)
      first | refine wO_some ?_ | refine wP_some ?_ | refine wT_some ?_ | refine wI_tt ?_ | refine wI_ff ?_ | refine wA_mk rfl ?_ | refine wU_l rfl rfl ?_ | refine wG.mk (by first | exact Nat.le_of_ble_eq_true rfl | ((with_reducible refine kG ?_); rfl)) ?_))
local macro_rules
  | `(tactic| and_intros) => `(tactic| first
    | ((repeat (refine LeE.cons (by first | exact (rfl : Sl (some _) _) | exact nio_none | exact nio_sh | exact nio_ow | assumption) ?_)); exact LeE.nil)
    | (simp only [List.map_append, List.map_cons, List.map_nil]; (repeat (refine LeE.cons (by first | exact (rfl : Sl (some _) _) | exact nio_none | exact nio_sh | exact nio_ow | assumption) ?_)); exact LeE.nil))
/-! ### plain trees, in steps -/
def PA (n : Nat) (xs : List D) : Prop := ∀ x ∈ xs, Pln n x
theorem qn_str {n : Nat} (s : Str) : Pln n (.str s) := .str s
theorem qn_int {n : Nat} (s : Int) : Pln n (.int s) := .int s
theorem qn_bool {n : Nat} (s : Bool) : Pln n (.bool s) := .bool s
theorem qn_non {n : Nat} : Pln n .none := .non
theorem qn_list {n : Nat} {xs : List D} (h : PA n xs) (l : xs.length ≤ LINE) : Pln (n + 1) (.list xs) := .list h l
theorem qn_tup {n : Nat} {xs : List D} (h : PA n xs) (l : xs.length ≤ LINE) : Pln (n + 1) (.tuple xs) := .tuple h l
theorem pA_nil {n : Nat} : PA n [] := fun _ h => by cases h
theorem pA_cons {n : Nat} {x : D} {xs : List D} (h : Pln n x) (t : PA n xs) : PA n (x :: xs) := fun y hy => by
  rcases List.mem_cons.mp hy with rfl | hy
  · exact h
  · exact t y hy
theorem pA_app {n : Nat} {xs ys : List D} (h : PA n xs) (t : PA n ys) : PA n (xs ++ ys) := fun y hy => by
  rcases List.mem_append.mp hy with hy | hy
  · exact h y hy
  · exact t y hy
theorem pA_map {α : Type} {n : Nat} {f : α → D} {l : List α} (h : ∀ x ∈ l, Pln n (f x)) : PA n (l.map f) := fun y hy => by
  obtain ⟨x, hx, rfl⟩ := List.mem_map.mp hy
  exact h x hx
theorem pA_strs {n : Nat} (l : List Str) : PA n (l.map PyData.str) := pA_map fun x _ => .str x
theorem pA_ints {n : Nat} (l : List Int) : PA n (l.map PyData.int) := pA_map fun x _ => .int x
/-! ### lists or tuples of lists or tuples of texts -/
def sqB (b : Bool) (xs : List D) : D := if b = true then .list xs else .tuple xs
theorem sqB_D (b : Bool) (xs : List D) : SqD (sqB b xs) xs := by
  cases b
  · exact .inl rfl
  · exact .inr rfl
theorem SqD.b {d : D} {xs : List D} (h : SqD d xs) : ∃ b, d = sqB b xs := by
  rcases h with rfl | rfl
  · exact ⟨false, rfl⟩
  · exact ⟨true, rfl⟩
/-- a row of texts, as a list (true) or a tuple -/
abbrev Rw := Bool × List Str
def rwD (x : Rw) : D := sqB x.1 (x.2.map .str)
theorem rwD_D (x : Rw) : SqD (rwD x) (x.2.map .str) := sqB_D _ _
theorem PthR.rw : ∀ {xs : List D} {ps : List (List Str)}, PthR xs ps → ∃ L : List Rw, xs = L.map rwD ∧ L.map (·.2) = ps
  | _, _, .nil => ⟨[], rfl, rfl⟩
  | _, _, .cons h t => by
    obtain ⟨L, e1, e2⟩ := t.rw
    obtain ⟨b, e⟩ := h.b
    exact ⟨(b, _) :: L, by rw [e, e1]; rfl, by rw [← e2]; rfl⟩
theorem PthR.of : ∀ (L : List Rw), PthR (L.map rwD) (L.map (·.2))
  | [] => .nil
  | x :: L => .cons (rwD_D x) (PthR.of L)
/-! ### sorted sets of texts -/
theorem strsD_map : ∀ ss : List Str, strsD (ss.map .str) = some ss
  | [] => rfl
  | s :: ss => by rw [List.map_cons, strsD, strsD_map ss]; rfl
theorem ssetD_strs {ss : List Str} (h : ss.length < 4000) : ssetD (.list (ss.map .str)) = some (.list ((srtS leS (DedS ss)).map .str), .ow) := by
  simp only [ssetD, strsD_map, ite', decide_eq_true h, if_true]
theorem insS_mem {α : Type} {le : α → α → Bool} {x z : α} : ∀ {l : List α}, z ∈ insS le x l ↔ z = x ∨ z ∈ l
  | [] => by simp [insS]
  | y :: r => by
    rw [insS]
    split
    · simp
    · rw [List.mem_cons, insS_mem (l := r), List.mem_cons]
      constructor
      · rintro (h | h | h)
        · exact .inr (.inl h)
        · exact .inl h
        · exact .inr (.inr h)
      · rintro (h | h | h)
        · exact .inr (.inl h)
        · exact .inl h
        · exact .inr (.inr h)
theorem srtS_mem {α : Type} {le : α → α → Bool} {z : α} : ∀ {l : List α}, z ∈ srtS le l ↔ z ∈ l
  | [] => Iff.rfl
  | x :: r => by rw [srtS, insS_mem, srtS_mem (l := r), List.mem_cons]
theorem insS_len {α : Type} {le : α → α → Bool} {x : α} : ∀ {l : List α}, (insS le x l).length = l.length + 1
  | [] => rfl
  | y :: r => by
    rw [insS]
    split
    · rfl
    · rw [List.length_cons, insS_len, List.length_cons]
theorem srtS_len {α : Type} {le : α → α → Bool} : ∀ {l : List α}, (srtS le l).length = l.length
  | [] => rfl
  | x :: r => by rw [srtS, insS_len, srtS_len, List.length_cons]
section
variable {α : Type} [DecidableEq α]
theorem foldl_addOne_mem {z : α} : ∀ {xs acc : List α}, z ∈ xs.foldl addOne acc ↔ z ∈ acc ∨ z ∈ xs
  | [], acc => by simp
  | x :: xs, acc => by
    rw [List.foldl_cons, foldl_addOne_mem (xs := xs), List.mem_cons]
    unfold addOne
    split
    · rename_i h
      constructor
      · rintro (q | q)
        · exact .inl q
        · exact .inr (.inr q)
      · rintro (q | q | q)
        · exact .inl q
        · exact .inl (q ▸ h)
        · exact .inr q
    · rw [List.mem_append, List.mem_singleton, or_assoc]
theorem foldl_addOne_len : ∀ {xs acc : List α}, (xs.foldl addOne acc).length ≤ acc.length + xs.length
  | [], acc => by simp
  | x :: xs, acc => by
    rw [List.foldl_cons]
    refine Nat.le_trans (foldl_addOne_len (xs := xs)) ?_
    unfold addOne
    split
    · rw [List.length_cons]; omega
    · simp; omega
theorem foldl_addOne_nodup : ∀ {xs acc : List α}, acc.Nodup → (xs.foldl addOne acc).Nodup
  | [], acc, h => h
  | x :: xs, acc, h => by
    rw [List.foldl_cons]
    refine foldl_addOne_nodup ?_
    unfold addOne
    split
    · exact h
    · rename_i n
      rw [List.nodup_append]
      exact ⟨h, by simp, fun a ha b hb e => n (by simp at hb; rw [← hb, ← e]; exact ha)⟩
theorem DedS_mem {z : α} {xs : List α} : z ∈ DedS xs ↔ z ∈ xs := by
  unfold DedS
  rw [foldl_addOne_mem]
  simp
theorem DedS_len {xs : List α} : (DedS xs).length ≤ xs.length := by
  have := foldl_addOne_len (xs := xs) (acc := ([] : List α))
  rw [List.length_nil, Nat.zero_add] at this
  exact this
theorem DedS_nodup {xs : List α} : (DedS xs).Nodup := foldl_addOne_nodup List.nodup_nil
end
end Ev.Pl


set_option Elab.async false
set_option linter.all false
set_option maxRecDepth 100000
set_option maxHeartbeats 40000000
namespace Ev.Pl
open PySem PySem.Spec PyProof.Rows L2
local macro_rules
  | `(tactic| ac_rfl) => `(tactic| repeat (first
    | with_reducible refine WPc.step ?_
    | with_reducible first | refine wE_call (by assumption) ?_ | refine wT_call (by assumption) ?_ | refine wE_callK (by assumption) ?_ | refine wT_callK (by assumption) ?_ | refine wE_dctK1 rfl rfl ?_ | refine wP_ite' rfl ?_ | refine wG.mk (by first | assumption | (show _ ≤ 16777216; omega) | (show _ < 16777216; omega) | omega | exact fit_of (by omega) (by omega) | (show _ ≤ 16777216; simp only [List.length_append, List.length_cons, List.length_nil, List.length_map]; omega) | (show _ < 16777216; simp only [List.length_append, List.length_cons, List.length_nil, List.length_map]; omega)) ?_
    | (fail_if_success with_reducible refine WSt.step ?_)
      first | refine wO_some ?_ | refine wP_some ?_ | refine wT_some ?_ | refine wI_tt ?_ | refine wI_ff ?_ | refine wA_mk rfl ?_ | refine wU_l rfl rfl ?_ | refine wG.mk (by first | exact Nat.le_of_ble_eq_true rfl | ((with_reducible refine kG ?_); rfl)) ?_))
local macro_rules
  | `(tactic| and_intros) => `(tactic| first
    | ((repeat (refine LeE.cons (by first | exact (rfl : Sl (some _) _) | exact nio_none | exact nio_sh | exact nio_ow | assumption) ?_)); exact LeE.nil)
    | (simp only [List.map_append, List.map_cons, List.map_nil]; (repeat (refine LeE.cons (by first | exact (rfl : Sl (some _) _) | exact nio_none | exact nio_sh | exact nio_ow | assumption) ?_)); exact LeE.nil))
local macro_rules
  | `(tactic| subst_eqs) => `(tactic| repeat (first
    | with_reducible first
      | exact qn_str _ | exact qn_int _ | exact qn_bool _ | exact qn_non | assumption | refine qn_list ?_ ?_ | refine qn_tup ?_ ?_ | exact pA_nil | refine pA_cons ?_ ?_ | refine pA_app ?_ ?_ | exact pA_strs _ | exact pA_ints _ | refine pA_map (fun x hx => ?_)
    | (show _ ≤ 16777216; simp only [List.length_append, List.length_cons, List.length_nil, List.length_map]; omega)))
/-- tidy -/
def F_tidy : Fn := ⟨3, [false], (.seq (.set 1 (.lst .nil))
 (.seq (.for_ (.name 2) (.seq (.var 0))
 (.ite (.or (.cmp .ne (.var 2) (.cst (.str "**"))) (.or (.cmp .eq (.blt .len (.cons (.var 1) .nil)) (.cst (.int 0))) (.cmp .ne (.ix (.var 1) (.neg (.cst (.int 1)))) (.cst (.str "**")))))
 (.app 1 (.var 2))
 .pass))
 (.ret (.blt .tuple (.cons (.var 1) .nil)))))⟩
/-- names_in -/
def F_names_in : Fn := ⟨3, [false], (.ret (.blt .tuple (.cons (.sset (.comp2 [1, 2] [2] (.name 1) (.seq (.var 0)) .no (.name 2) (.seq (.var 1)) (.yes (.cmp .ne (.ix (.var 2) (.cst (.int 0))) (.cst (.str "*")))) (.var 2))) .nil)))⟩
/-- endings_in -/
def F_endings_in (i_ending_of : Nat) : Fn := ⟨3, [false], (.ret (.blt .tuple (.cons (.sset (.comp2 [1, 2] [2] (.name 1) (.seq (.var 0)) .no (.name 2) (.seq (.var 1)) (.yes (.cmp .isin (.cst (.str ".")) (.var 2))) (.call i_ending_of (.cons (.var 2) .nil)))) .nil)))⟩
/-- size_of -/
def F_size_of : Fn := ⟨2, [false], (.ret (.blt .max (.cons (.cst (.int 1)) (.cons (.blt .len (.cons (.comp [1] (.name 1) (.seq (.var 0)) (.yes (.cmp .ne (.var 1) (.cst (.str "**")))) (.var 1)) .nil)) .nil))))⟩
/-- _law_clean -/
def F_law_clean : Fn := ⟨3, [false], (.seq (.set 1 (.lst .nil))
 (.seq (.for_ (.name 2) (.seq (.var 0))
 (.ite (.or (.cmp .ne (.var 2) (.cst (.str "**"))) (.or (.cmp .eq (.var 1) (.lst .nil)) (.cmp .ne (.ix (.var 1) (.neg (.cst (.int 1)))) (.cst (.str "**")))))
 (.app 1 (.var 2))
 .pass))
 (.ret (.blt .tuple (.cons (.var 1) .nil)))))⟩
/-! ### tidy writing -/
def tid (m : Bool) : List Str → List Str
  | [] => []
  | s :: r => if s = "**" then (if m = true then tid true r else s :: tid true r) else s :: tid false r
theorem tid_len : ∀ (p : List Str) (m : Bool), (tid m p).length ≤ p.length
  | [], _ => Nat.le_refl _
  | s :: r, m => by
    have h1 := tid_len r true
    have h2 := tid_len r false
    rw [tid]
    split
    · split
      · rw [List.length_cons]; omega
      · rw [List.length_cons, List.length_cons]; omega
    · rw [List.length_cons, List.length_cons]; omega
theorem tid_mem {x : Str} : ∀ (p : List Str) (m : Bool), x ∈ tid m p → x ∈ p
  | [], _, h => h
  | s :: r, m, h => by
    rw [tid] at h
    rw [List.mem_cons]
    split at h
    · split at h
      · exact .inr (tid_mem r _ h)
      · rcases List.mem_cons.mp h with h | h
        · exact .inl h
        · exact .inr (tid_mem r _ h)
    · rcases List.mem_cons.mp h with h | h
      · exact .inl h
      · exact .inr (tid_mem r _ h)
def lastM (f : List Str) : Bool := decide (f.getLast? = some ("**" : Str))
theorem lastM_snoc (f : List Str) (s : Str) : lastM (f ++ [s]) = decide (s = "**") := by
  simp [lastM]
theorem at_lastS {f : List Str} {s : Str} (h : f.getLast? = some s) : atI (f.map PyData.str) (-1) = some (.str s) := by
  have hl : 0 < f.length := by
    cases f with
    | nil => cases h
    | cons a r => simp
  have e1 : ixN (f.map PyData.str).length (-1) = some (f.length - 1) := by
    unfold ixN
    rw [List.length_map, if_neg (by decide), if_pos (by omega)]
    congr 1
    omega
  rw [atI, e1, Option.bind_some, List.getElem?_map]
  rw [List.getLast?_eq_getElem?] at h
  rw [h]
  rfl
def TidyS (tbl : List Fn) (i : Nat) : Prop := ∀ n, 1 ≤ n → ∀ (dp : D) (p : List Str), SqD dp (p.map .str) → p.length ≤ 100000 → evCall tbl n i [dp] = some (.tuple ((tid false p).map .str), .sh, [])
theorem tidyS {tbl : List Fn} {i : Nat} (h : tbl[i]? = some F_tidy) : TidyS tbl i := fun n hn dp p hp lp => by
  obtain ⟨n, rfl⟩ : ∃ n', n = n' + 1 := ⟨n - 1, by omega⟩
  rw [evCall_succ h]
  refine wT_eq (vO_fn rfl ?_)
  ac_rfl
  refine vS_for p PyData.str (fun f : List Str => [some (dp, .sh), some (.list (f.map .str), .ow), none]) (fun d r f => f ++ tid (lastM f) r = tid false p ∧ f.length ≤ d.length) [] ?_
  ac_rfl
  refine wO_of hp.items ?_
  ac_rfl
  refine ⟨rfl, by and_intros, ⟨rfl, Nat.zero_le _⟩, ?_, ?_⟩
  · rintro d x r f hL ⟨hf, hl⟩
    have hd : d.length + 1 + r.length = p.length := by rw [← hL]; simp; omega
    ac_rfl
    refine ⟨fun q => ?_, fun q => ?_⟩
    · have q : ¬ x = "**" := by simpa using q
      ac_rfl
      refine ⟨f ++ [x], by and_intros, ?_, by simp; omega⟩
      rw [← hf, tid, if_neg q, lastM_snoc, decide_eq_false q]
      simp
    · have q : x = "**" := by simpa using q
      ac_rfl
      refine ⟨fun q2 => ?_, fun q2 => ?_⟩
      · have q2 : f = [] := by simpa using q2
        subst q2
        ac_rfl
        refine ⟨[x], by and_intros, ?_, by simp⟩
        rw [← hf, tid, if_pos q, if_neg (by decide), q]
        rfl
      · have q2 : f ≠ [] := by simpa using q2
        obtain ⟨s, hs⟩ : ∃ s, f.getLast? = some s := ⟨f.getLast q2, List.getLast?_eq_some_getLast q2⟩
        ac_rfl
        refine wO_of (at_lastS hs) ?_
        ac_rfl
        refine ⟨fun q3 => ?_, fun q3 => ?_⟩
        · have q3 : ¬ s = "**" := by simpa using q3
          ac_rfl
          refine ⟨f ++ [x], by and_intros, ?_, by simp; omega⟩
          rw [← hf, tid, if_pos q, lastM_snoc, decide_eq_true q, lastM, hs, if_neg (by simpa using q3)]
          simp
        · have q3 : s = "**" := by simpa using q3
          ac_rfl
          refine ⟨f, by and_intros, ?_, by simp; omega⟩
          rw [← hf, tid, if_pos q, lastM, hs, if_pos (by simpa using q3)]
          simp [q3]
  · rintro f ⟨hf, hl⟩
    ac_rfl
    rw [show f = tid false p by rw [← hf]; simp [tid]]
    exact ⟨rfl, rfl, rfl⟩
/-! ### names, endings, sizes -/
def namesR (ps : List (List Str)) : List Str := ps.flatMap fun p => p.filter fun s => !decide (headS s = "*")
def endsR (ps : List (List Str)) : List Str := ps.flatMap fun p => (p.filter fun s => inStr "." s).map endOf
def namesF (ps : List (List Str)) : List Str := srtS leS (DedS (namesR ps))
def endsF (ps : List (List Str)) : List Str := srtS leS (DedS (endsR ps))
theorem namesR_len {ps : List (List Str)} {m : Nat} (h : ∀ p ∈ ps, p.length ≤ m) : (namesR ps).length ≤ ps.length * m := by
  induction ps with
  | nil => simp [namesR]
  | cons p r ih =>
    have h1 := h p (by simp)
    have h2 := ih fun q hq => h q (by simp [hq])
    have h3 := List.length_filter_le (fun s => !decide (headS s = "*")) p
    simp only [namesR, List.flatMap_cons, List.length_append, List.length_cons, Nat.succ_mul] at *
    omega
theorem endsR_len {ps : List (List Str)} {m : Nat} (h : ∀ p ∈ ps, p.length ≤ m) : (endsR ps).length ≤ ps.length * m := by
  induction ps with
  | nil => simp [endsR]
  | cons p r ih =>
    have h1 := h p (by simp)
    have h2 := ih fun q hq => h q (by simp [hq])
    have h3 := List.length_filter_le (fun s => inStr "." s) p
    simp only [endsR, List.flatMap_cons, List.length_append, List.length_cons, Nat.succ_mul, List.length_map] at *
    omega
theorem fm_strs {α : Type} (L : List α) (f : α → List Str) : ((L.filter fun _ => true).flatMap fun x => (f x).map PyData.str) = (L.flatMap f).map PyData.str := by
  rw [List.filter_eq_self.mpr (by simp), List.map_flatMap]
def NamesS (tbl : List Fn) (i : Nat) : Prop := ∀ n, 1 ≤ n → ∀ (dp : D) (L : List Rw), SqD dp (L.map rwD) → (∀ x ∈ L, (∀ s ∈ x.2, okS s = true) ∧ x.2.length ≤ 30) → L.length ≤ 100 → evCall tbl n i [dp] = some (.tuple ((namesF (L.map (·.2))).map .str), .sh, [])
theorem namesS {tbl : List Fn} {i : Nat} (h : tbl[i]? = some F_names_in) : NamesS tbl i := fun n hn dp L hp ok lL => by
  obtain ⟨n, rfl⟩ : ∃ n', n = n' + 1 := ⟨n - 1, by omega⟩
  have hlen : (namesR (L.map (·.2))).length ≤ 3000 := by
    have := namesR_len (ps := L.map (·.2)) (m := 30) (fun p hp => by obtain ⟨x, hx, rfl⟩ := List.mem_map.mp hp; exact (ok x hx).2)
    rw [List.length_map] at this
    omega
  have e : ((L.filter fun _ => true).flatMap fun x => (x.2.filter fun s => !decide (headS s = "*")).map PyData.str) = (namesR (L.map (·.2))).map PyData.str := by
    rw [fm_strs L fun x => x.2.filter fun s => !decide (headS s = "*"), namesR, List.flatMap_map]
  rw [evCall_succ h]
  refine wT_eq (vO_fn rfl ?_)
  ac_rfl
  refine vE_comp2 L rwD (fun _ => true) (fun x => x.2) (fun _ s => .str s) (fun _ s => !decide (headS s = "*")) (fun _ s => .str s) (by simp) ?_
  ac_rfl
  refine wO_of hp.items ?_
  ac_rfl
  refine ⟨rfl, by rw [e, List.length_map]; show _ ≤ 16777216; omega, fun x hx => ?_, ?_⟩
  · ac_rfl
    refine ⟨rfl, rfl, fun _ => ?_⟩
    ac_rfl
    refine wO_of (rwD_D x).items ?_
    ac_rfl
    refine ⟨rfl, rfl, fun y hy => ?_⟩
    ac_rfl
    refine wO_of (okS_head ((ok x hx).1 y hy)) ?_
    ac_rfl
    refine ⟨rfl, fun _ => ?_, fun _ => rfl⟩
    ac_rfl
    exact ⟨rfl, rfl⟩
  · rw [e]
    ac_rfl
    refine wP_of (ssetD_strs (by omega)) ?_
    ac_rfl
    exact ⟨rfl, rfl, rfl⟩
def EndsS (tbl : List Fn) (i : Nat) : Prop := ∀ n, 2 ≤ n → ∀ (dp : D) (L : List Rw), SqD dp (L.map rwD) → (∀ x ∈ L, (∀ s ∈ x.2, okS s = true) ∧ x.2.length ≤ 30) → L.length ≤ 100 → evCall tbl n i [dp] = some (.tuple ((endsF (L.map (·.2))).map .str), .sh, [])
theorem endsS {tbl : List Fn} {i j : Nat} (h : tbl[i]? = some (F_endings_in j)) (hj : EndS tbl j) (hio : ioOf tbl j = [false]) : EndsS tbl i := fun n hn dp L hp ok lL => by
  obtain ⟨n, rfl⟩ : ∃ n', n = n' + 1 := ⟨n - 1, by omega⟩
  have hlen : (endsR (L.map (·.2))).length ≤ 3000 := by
    have := endsR_len (ps := L.map (·.2)) (m := 30) (fun p hp => by obtain ⟨x, hx, rfl⟩ := List.mem_map.mp hp; exact (ok x hx).2)
    rw [List.length_map] at this
    omega
  have e : ((L.filter fun _ => true).flatMap fun x => (x.2.filter fun s => inStr "." s).map fun s => PyData.str (endOf s)) = (endsR (L.map (·.2))).map PyData.str := by
    have := fm_strs L fun x => (x.2.filter fun s => inStr "." s).map endOf
    simp only [List.map_map] at this
    rw [endsR, List.flatMap_map, ← this]
    rfl
  rw [evCall_succ h]
  refine wT_eq (vO_fn rfl ?_)
  ac_rfl
  refine vE_comp2 L rwD (fun _ => true) (fun x => x.2) (fun _ s => .str s) (fun _ s => inStr "." s) (fun _ s => .str (endOf s)) (by simp) ?_
  ac_rfl
  refine wO_of hp.items ?_
  ac_rfl
  refine ⟨rfl, by rw [e, List.length_map]; show _ ≤ 16777216; omega, fun x hx => ?_, ?_⟩
  · ac_rfl
    refine ⟨rfl, rfl, fun _ => ?_⟩
    ac_rfl
    refine wO_of (rwD_D x).items ?_
    ac_rfl
    refine ⟨rfl, rfl, fun y hy => ?_⟩
    ac_rfl
    refine ⟨rfl, fun _ => ?_, fun _ => rfl⟩
    ac_rfl
    refine wT_of (hj n (by omega) y ((ok x hx).1 y hy)) ?_
    ac_rfl
    exact ⟨rfl, rfl⟩
  · rw [e]
    ac_rfl
    refine wP_of (ssetD_strs (by omega)) ?_
    ac_rfl
    exact ⟨rfl, rfl, rfl⟩
def sizeF (p : List Str) : Int := if ((p.filter fun s => !decide (s = ("**" : Str))).length : Int) > 1 then (p.filter fun s => !decide (s = ("**" : Str))).length else 1
def SizeS (tbl : List Fn) (i : Nat) : Prop := ∀ n, 1 ≤ n → ∀ (dp : D) (p : List Str), SqD dp (p.map .str) → p.length ≤ 100000 → evCall tbl n i [dp] = some (.int (sizeF p), .sh, [])
theorem sizeS {tbl : List Fn} {i : Nat} (h : tbl[i]? = some F_size_of) : SizeS tbl i := fun n hn dp p hp lp => by
  obtain ⟨n, rfl⟩ : ∃ n', n = n' + 1 := ⟨n - 1, by omega⟩
  rw [evCall_succ h]
  refine wT_eq (vO_fn rfl ?_)
  ac_rfl
  refine wE_compF p (fun s => !decide (s = "**")) PyData.str PyData.str ?_
  ac_rfl
  refine wO_of hp.items ?_
  ac_rfl
  refine ⟨rfl, by show _ ≤ 16777216; omega, fun s hs => ?_, ?_⟩
  · ac_rfl
    refine ⟨rfl, fun _ => ?_, fun _ => rfl⟩
    ac_rfl
    exact ⟨rfl, rfl⟩
  · ac_rfl
    exact ⟨by rw [List.length_map]; rfl, rfl, rfl⟩
/-! ### the law's own -/
theorem okS_str {s : Str} (h : okS s = true) : PyData.strOk s = true := by
  unfold okS at h
  rw [Bool.and_eq_true] at h
  exact h.2
def CleanS (tbl : List Fn) (i : Nat) : Prop := ∀ n, 1 ≤ n → ∀ (dp : D) (p : List Str), SqD dp (p.map .str) → (∀ s ∈ p, okS s = true) → p.length ≤ 100000 → evCall tbl n i [dp] = some (.tuple ((tid false p).map .str), .sh, [])
theorem cleanS {tbl : List Fn} {i : Nat} (h : tbl[i]? = some F_law_clean) : CleanS tbl i := fun n hn dp p hp ok lp => by
  obtain ⟨n, rfl⟩ : ∃ n', n = n' + 1 := ⟨n - 1, by omega⟩
  rw [evCall_succ h]
  refine wT_eq (vO_fn rfl ?_)
  ac_rfl
  refine vS_for p PyData.str (fun f : List Str => [some (dp, .sh), some (.list (f.map .str), .ow), none]) (fun d r f => f ++ tid (lastM f) r = tid false p ∧ f.length ≤ d.length ∧ ∀ s ∈ f, s ∈ p) [] ?_
  ac_rfl
  refine wO_of hp.items ?_
  ac_rfl
  refine ⟨rfl, by and_intros, ⟨rfl, Nat.zero_le _, by simp⟩, ?_, ?_⟩
  · rintro d x r f hL ⟨hf, hl, hm⟩
    have hd : d.length + 1 + r.length = p.length := by rw [← hL]; simp; omega
    have hx : x ∈ p := by rw [← hL]; simp
    have hm' : ∀ s ∈ f ++ [x], s ∈ p := fun s hs => by
      rcases List.mem_append.mp hs with hs | hs
      · exact hm s hs
      · rw [List.mem_singleton.mp hs]; exact hx
    ac_rfl
    refine ⟨fun q => ?_, fun q => ?_⟩
    · have q : ¬ x = "**" := by simpa using q
      ac_rfl
      refine ⟨f ++ [x], by and_intros, ?_, by simp; omega, hm'⟩
      rw [← hf, tid, if_neg q, lastM_snoc, decide_eq_false q]
      simp
    · have q : x = "**" := by simpa using q
      ac_rfl
      have ht : Tx 1 (.list (f.map .str)) := .list fun y hy => by
        obtain ⟨s, hs, rfl⟩ := List.mem_map.mp hy
        exact .str (okS_str (ok s (hm s hs)))
      refine wO_of (eq_nil ht (by decide)) ?_
      ac_rfl
      refine ⟨fun q2 => ?_, fun q2 => ?_⟩
      · have q2 : f = [] := by simpa using q2
        subst q2
        ac_rfl
        refine ⟨[x], by and_intros, ?_, by simp, by simpa using hm'⟩
        rw [← hf, tid, if_pos q, if_neg (by decide), q]
        rfl
      · have q2 : f ≠ [] := by simpa using q2
        obtain ⟨s, hs⟩ : ∃ s, f.getLast? = some s := ⟨f.getLast q2, List.getLast?_eq_some_getLast q2⟩
        ac_rfl
        refine wO_of (at_lastS hs) ?_
        ac_rfl
        refine ⟨fun q3 => ?_, fun q3 => ?_⟩
        · have q3 : ¬ s = "**" := by simpa using q3
          ac_rfl
          refine ⟨f ++ [x], by and_intros, ?_, by simp; omega, hm'⟩
          rw [← hf, tid, if_pos q, lastM_snoc, decide_eq_true q, lastM, hs, if_neg (by simpa using q3)]
          simp
        · have q3 : s = "**" := by simpa using q3
          ac_rfl
          refine ⟨f, by and_intros, ?_, by simp; omega, hm⟩
          rw [← hf, tid, if_pos q, lastM, hs, if_pos (by simpa using q3)]
          simp [q3]
  · rintro f ⟨hf, hl, hm⟩
    ac_rfl
    rw [show f = tid false p by rw [← hf]; simp [tid]]
    exact ⟨rfl, rfl, rfl⟩
end Ev.Pl


set_option Elab.async false
set_option linter.all false
set_option maxRecDepth 100000
set_option maxHeartbeats 40000000
namespace Ev.Pl
open PySem PySem.Spec PyProof.Rows L2
local macro_rules
  | `(tactic| ac_rfl) => `(tactic| repeat (first
    | with_reducible refine WPc.step ?_
    | with_reducible first | refine wE_call (by assumption) ?_ | refine wT_call (by assumption) ?_ | refine wE_callK (by assumption) ?_ | refine wT_callK (by assumption) ?_ | refine wE_dctK1 rfl rfl ?_ | refine wP_ite' rfl ?_ | refine wG.mk (by first | assumption | (show _ ≤ 16777216; omega) | (show _ < 16777216; omega) | omega | exact fit_of (by omega) (by omega) | (show _ ≤ 16777216; simp only [List.length_append, List.length_cons, List.length_nil, List.length_map]; omega) | (show _ < 16777216; simp only [List.length_append, List.length_cons, List.length_nil, List.length_map]; omega)) ?_
    | (fail_if_success with_reducible refine WSt.step ?_)
      first | refine wO_some ?_ | refine wP_some ?_ | refine wT_some ?_ | refine wI_tt ?_ | refine wI_ff ?_ | refine wA_mk rfl ?_ | refine wU_l rfl rfl ?_ | refine wG.mk (by first | exact Nat.le_of_ble_eq_true rfl | ((with_reducible refine kG ?_); rfl)) ?_))
local macro_rules
  | `(tactic| and_intros) => `(tactic| first
    | ((repeat (refine LeE.cons (by first | exact (rfl : Sl (some _) _) | exact nio_none | exact nio_sh | exact nio_ow | assumption) ?_)); exact LeE.nil)
    | (simp only [List.map_append, List.map_cons, List.map_nil]; (repeat (refine LeE.cons (by first | exact (rfl : Sl (some _) _) | exact nio_none | exact nio_sh | exact nio_ow | assumption) ?_)); exact LeE.nil))
local macro_rules
  | `(tactic| subst_eqs) => `(tactic| repeat (first
    | with_reducible first
      | exact qn_str _ | exact qn_int _ | exact qn_bool _ | exact qn_non | assumption | refine qn_list ?_ ?_ | refine qn_tup ?_ ?_ | exact pA_nil | refine pA_cons ?_ ?_ | refine pA_app ?_ ?_ | exact pA_strs _ | exact pA_ints _ | refine pA_map (fun x hx => ?_)
    | (show _ ≤ 16777216; simp only [List.length_append, List.length_cons, List.length_nil, List.length_map]; omega)))
/-! ### texts that are NAMEs, PIECEs: what of them is asked -/
def okW (s : Str) : Bool := okS s && (decide (lendOf s = endOf s) && ((decide (s = "**") || (decide (headS s = "*") == decide (cutS s none (some 2) = "*."))) && (!decide (endOf s = "*") && ((decide (lendOf s = "") == !inStr "." s) &&
  (!decide (headS s = "*") || (decide (s = "**") || decide (endOf s = cutS s (some 1) none)))))))
structure OkW (s : Str) : Prop where
  ok : okS s = true
  le : lendOf s = endOf s
  hd : s = "**" ∨ (headS s = "*" ↔ cutS s none (some 2) = "*.")
  ne : ¬ endOf s = "*"
  dot : decide (lendOf s = ("" : Str)) = !inStr "." s
  star : headS s = "*" → s = "**" ∨ endOf s = cutS s (some 1) none
theorem okW_iff {s : Str} : okW s = true ↔ OkW s := by
  unfold okW
  simp only [Bool.and_eq_true, Bool.or_eq_true, Bool.not_eq_true', decide_eq_true_eq, decide_eq_false_iff_not, beq_iff_eq, decide_eq_decide]
  constructor
  · rintro ⟨a, b, c, d, e, f⟩
    exact ⟨a, b, c, d, e, fun h => by
      rcases f with f | f
      · exact absurd h f
      · exact f⟩
  · rintro ⟨a, b, c, d, e, f⟩
    refine ⟨a, b, c, d, e, ?_⟩
    by_cases h : headS s = "*"
    · exact .inr (f h)
    · exact .inl h
theorem fitW {p s : Str} (hp : OkW p) (hs : OkW s) : lfitB p s = fitB p s := by
  unfold lfitB fitB
  rw [hs.le]
  rcases hp.hd with e | h
  · subst e
    have h1 : (decide (cutS (Str.ofString "**") none (some 2) = "*.")) = false := by decide +kernel
    have h2 : cutS (Str.ofString "**") (some 1) none = "*" := by decide +kernel
    have h3 : decide (endOf s = cutS (Str.ofString "**") (some 1) none) = false := by rw [h2]; exact decide_eq_false hs.ne
    rw [h1, h3]
    simp
  · rw [decide_eq_decide.mpr h]
theorem head_many : headS "**" = "*" := by decide +kernel
theorem dot_many : inStr "." "**" = false := by decide +kernel
theorem pool_okW : (POOL.all okW) = true := by decide +kernel
theorem okWPool {s : Str} (h : s ∈ POOL) : OkW s := okW_iff.mp (List.all_eq_true.mp pool_okW s h)
/-! ### two ways that meet again -/
section
variable {cf : CallF} {io : Nat → List Bool} {env : Env} {Q : Out → Prop}
theorem sq_cut {σ : Type} (E : σ → Env) (P : σ → Prop) {x : Option Out} {rest : S} (h1 : wW x (sq Q fun e1 => ∃ s, LeE (E s) e1 ∧ P s)) (h2 : ∀ s, P s → wW (evS cf io rest (E s)) Q) : wW x (sq Q fun e1 => wW (evS cf io rest e1) Q) := by
  obtain ⟨o, o', e, l, q⟩ := h1.ex
  refine ⟨o, o', e, l, ?_⟩
  cases o' with
  | nx e1 =>
    obtain ⟨s, l1, p⟩ := (show ∃ s, LeE (E s) e1 ∧ P s from q)
    exact vW_weak l1 (h2 s p)
  | bk e1 => exact q
  | ct e1 => exact q
  | rt r e1 => exact q
theorem vI_cut {σ : Type} (E : σ → Env) (P : σ → Prop) {k : Bool} {a b rest : S} {e : Env} (h1 : wI k (wW (evS cf io a e) (sq Q fun e1 => ∃ s, LeE (E s) e1 ∧ P s)) (wW (evS cf io b e) (sq Q fun e1 => ∃ s, LeE (E s) e1 ∧ P s)))
    (h2 : ∀ s, P s → wW (evS cf io rest (E s)) Q) : wI k (wW (evS cf io a e) (sq Q fun e1 => wW (evS cf io rest e1) Q)) (wW (evS cf io b e) (sq Q fun e1 => wW (evS cf io rest e1) Q)) :=
  ⟨fun q => sq_cut E P (h1.tt q) h2, fun q => sq_cut E P (h1.ff q) h2⟩
end
/-! ### equal trees -/
theorem canAll {xs : List D} (h : ∀ x ∈ xs, x.canLay0 = true) : PyData.canLayAll0 xs = true := by
  induction xs with
  | nil => rfl
  | cons x r ih =>
    rw [PyData.canLayAll0, h x (by simp), ih fun y hy => h y (by simp [hy])]
    rfl
theorem depAll {xs : List D} {k : Nat} (h : ∀ x ∈ xs, x.depth ≤ k) : PyData.depthAll xs ≤ k := by
  induction xs with
  | nil => rw [PyData.depthAll]; omega
  | cons x r ih =>
    have h1 := h x (by simp)
    have h2 := ih fun y hy => h y (by simp [hy])
    rw [PyData.depthAll]
    exact Nat.max_le.mpr ⟨h1, h2⟩
theorem neNil {xs : List D} (h : shapedD (.list xs) = true) : cmpD .ne (.list xs) (.list []) = some (!xs.isEmpty) := by
  have h2 : shapedD (.list []) = true := by decide +kernel
  have e : eqD (.list xs) (.list []) = some (PyData.eqv (.list xs) (.list [])) := by simp [eqD, h, h2]
  rw [cmpD, e]
  cases xs <;> simp [PyData.eqv, PyData.eqvAll]
theorem neNilT {xs : List D} (h : shapedD (.tuple xs) = true) : cmpD .ne (.tuple xs) (.tuple []) = some (!xs.isEmpty) := by
  have h2 : shapedD (.tuple []) = true := by decide +kernel
  have e : eqD (.tuple xs) (.tuple []) = some (PyData.eqv (.tuple xs) (.tuple [])) := by simp [eqD, h, h2]
  rw [cmpD, e]
  cases xs <;> simp [PyData.eqv, PyData.eqvAll]
theorem shaped_of {d : D} (h1 : d.canLay0 = true) (h2 : d.depth ≤ 64) : shapedD d = true := by
  unfold shapedD SeqAt.shaped
  rw [h1, decide_eq_true h2]
  rfl
theorem shaped_list {xs : List D} {k : Nat} (h : ∀ x ∈ xs, x.canLay0 = true ∧ x.depth ≤ k) (hk : k ≤ 63) : shapedD (.list xs) = true := by
  refine shaped_of ?_ ?_
  · rw [PyData.canLay0]
    exact canAll fun x hx => (h x hx).1
  · have := depAll (k := k) fun x hx => (h x hx).2
    rw [PyData.depth]
    omega
theorem shaped_tup {xs : List D} {k : Nat} (h : ∀ x ∈ xs, x.canLay0 = true ∧ x.depth ≤ k) (hk : k ≤ 63) : shapedD (.tuple xs) = true := by
  refine shaped_of ?_ ?_
  · rw [PyData.canLay0]
    exact canAll fun x hx => (h x hx).1
  · have := depAll (k := k) fun x hx => (h x hx).2
    rw [PyData.depth]
    omega
theorem OkW.lay {s : Str} (h : OkW s) : (PyData.str s).canLay0 = true ∧ (PyData.str s).depth ≤ 0 :=
  (Tx.str (n := 0) (okS_str h.ok)).lay
theorem path_lay {p : List Str} (h : ∀ s ∈ p, OkW s) : (pathD p).canLay0 = true ∧ (pathD p).depth ≤ 1 :=
  (Tx.tuple (n := 0) fun x hx => by
    obtain ⟨s, hs, rfl⟩ := List.mem_map.mp hx
    exact .str (okS_str (h s hs).ok)).lay
/-! ### slots in plain sight -/
inductive NE : Env → Env → Prop
  | nil : NE [] []
  | cons {a : Slot} {e e' : Env} : NE e e' → NE (a :: e) (a :: e')
theorem NE.eq : ∀ {e e' : Env}, NE e e' → e = e'
  | _, _, .nil => rfl
  | _, _, .cons h => by rw [h.eq]
theorem sq_nxN {cf : CallF} {io : Nat → List Bool} {Q : Out → Prop} {b : S} {e e' : Env} (h : NE e e') (k : wW (evS cf io b e') Q) : sq Q (fun e1 => wW (evS cf io b e1) Q) (.nx e) := by
  rw [h.eq]
  exact k
end Ev.Pl


set_option Elab.async false
set_option linter.all false
set_option maxRecDepth 100000
set_option maxHeartbeats 40000000
namespace Ev.Pl
open PySem PySem.Spec PyProof.Rows L2
local macro_rules
  | `(tactic| ac_rfl) => `(tactic| repeat (first
    | with_reducible refine WPc.step ?_
    | with_reducible first | refine wE_call (by assumption) ?_ | refine wT_call (by assumption) ?_ | refine wE_callK (by assumption) ?_ | refine wT_callK (by assumption) ?_ | refine wE_dctK1 rfl rfl ?_ | refine wP_ite' rfl ?_ | refine wG.mk (by first | assumption | (show _ ≤ 16777216; omega) | (show _ < 16777216; omega) | omega | exact fit_of (by omega) (by omega) | (show _ ≤ 16777216; simp only [List.length_append, List.length_cons, List.length_nil, List.length_map]; omega) | (show _ < 16777216; simp only [List.length_append, List.length_cons, List.length_nil, List.length_map]; omega)) ?_
    | (fail_if_success with_reducible refine WSt.step ?_)
      first | refine wO_some ?_ | refine wP_some ?_ | refine wT_some ?_ | refine wI_tt ?_ | refine wI_ff ?_ | refine wA_mk rfl ?_ | refine wU_l rfl rfl ?_ | refine wG.mk (by first | exact Nat.le_of_ble_eq_true rfl | ((with_reducible refine kG ?_); rfl)) ?_))
local macro_rules
  | `(tactic| and_intros) => `(tactic| first
    | ((repeat (refine LeE.cons (by first | exact (rfl : Sl (some _) _) | exact nio_none | exact nio_sh | exact nio_ow | assumption) ?_)); exact LeE.nil)
    | (simp only [List.map_append, List.map_cons, List.map_nil]; (repeat (refine LeE.cons (by first | exact (rfl : Sl (some _) _) | exact nio_none | exact nio_sh | exact nio_ow | assumption) ?_)); exact LeE.nil))
local macro_rules
  | `(tactic| subst_eqs) => `(tactic| repeat (first
    | with_reducible first
      | exact qn_str _ | exact qn_int _ | exact qn_bool _ | exact qn_non | assumption | refine qn_list ?_ ?_ | refine qn_tup ?_ ?_ | exact pA_nil | refine pA_cons ?_ ?_ | refine pA_app ?_ ?_ | exact pA_strs _ | exact pA_ints _ | refine pA_map (fun x hx => ?_)
    | (show _ ≤ 16777216; simp only [List.length_append, List.length_cons, List.length_nil, List.length_map]; omega)))
/-- parts -/
def F_parts (i_table_of : Nat) : Fn := ⟨8, [false, false], (.seq (.par3 2 3 4 (.call i_table_of (.cons (.var 0) (.cons (.var 1) .nil))) (.lst .nil) (.cst (.int 0)))
 (.seq (.ite (.not (.ix (.var 2) (.tup (.cons (.cst (.int 0)) (.cons (.cst (.int 0)) .nil)))))
 (.ret (.cst .none))
 .pass)
 (.seq (.for_ (.pair (.name 5) (.name 6)) (.enum (.var 0))
 (.seq (.set 7 (.cst (.int 1)))
 (.seq (.ite (.cmp .eq (.var 6) (.cst (.str "**")))
 (.seq (.set 7 (.cst (.int 0)))
 (.while_ (.not (.ix (.var 2) (.tup (.cons (.bin .add (.var 5) (.cst (.int 1))) (.cons (.bin .add (.var 4) (.var 7)) .nil)))))
 (.aug .add 7 (.cst (.int 1)))))
 .pass)
 (.seq (.app 3 (.var 7))
 (.aug .add 4 (.var 7))))))
 (.ret (.blt .tuple (.cons (.var 3) .nil))))))⟩

/-! ### parts -/
theorem enumD_gen {α : Type} (f : α → D) : ∀ (L : List α) (j : Nat), enumD (j : Int) (L.map f) = (L.zipIdx j).map fun x => .tuple [.int (x.2 : Nat), f x.1]
  | [], _ => rfl
  | x :: L, j => by
    rw [List.map_cons, enumD, List.zipIdx_cons, List.map_cons]
    congr 1
    exact enumD_gen f L (j + 1)
theorem zip_split {α : Type} {p : List α} {d r : List (α × Nat)} {x : α × Nat} (h : d ++ x :: r = p.zipIdx) : p.drop d.length = x.1 :: p.drop (d.length + 1) ∧ x.2 = d.length ∧ d.length < p.length := by
  have hl : d.length < p.length := by
    have := congrArg List.length h
    simp at this
    omega
  have e : p.zipIdx[d.length]? = some x := by rw [← h]; simp
  rw [List.getElem?_zipIdx, List.getElem?_eq_getElem hl] at e
  cases e
  exact ⟨List.drop_eq_getElem_cons hl, by simp, hl⟩
def firstM (f : List Str → Bool) : List Str → Nat
  | [] => 0
  | s :: r => if f (s :: r) = true then 0 else firstM f r + 1
theorem firstM_le (f : List Str → Bool) : ∀ r : List Str, firstM f r ≤ r.length
  | [] => Nat.le_refl _
  | s :: r => by
    rw [firstM]
    split
    · exact Nat.zero_le _
    · have := firstM_le f r
      rw [List.length_cons]; omega
theorem firstM_at {f : List Str → Bool} : ∀ {r : List Str}, starB f r = true → f (r.drop (firstM f r)) = true
  | [], h => h
  | s :: r, h => by
    rw [firstM]
    split
    · rename_i q
      exact q
    · rename_i q
      rw [starB_eq] at h
      have h : starB f r = true := by simpa [q] using h
      exact firstM_at h
theorem firstM_lt {f : List Str → Bool} : ∀ {r : List Str} {m : Nat}, m < firstM f r → f (r.drop m) = false
  | [], m, h => by cases h
  | s :: r, m, h => by
    rw [firstM] at h
    split at h
    · cases h
    · rename_i q
      cases m with
      | zero => simpa using q
      | succ m => exact firstM_lt (r := r) (by omega)
def partsG : List Str → List Str → List Nat
  | [], _ => []
  | p :: ps, r => if p = "**" then firstM (mtB ps) r :: partsG ps (r.drop (firstM (mtB ps) r)) else 1 :: partsG ps (r.drop 1)
abbrev natsT (l : List Nat) : D := .tuple (l.map fun k : Nat => .int k)
def partsD (p r : List Str) : D := if mtB p r = true then natsT (partsG p r) else .none
theorem partsG_len : ∀ (p r : List Str), (partsG p r).length = p.length
  | [], _ => rfl
  | p :: ps, r => by
    rw [partsG]
    split <;> rw [List.length_cons, partsG_len, List.length_cons]
theorem tab_at {kvs : List (D × D)} (hu : unMk kvs = none) {a s : Nat} {b : Bool} (h : dGet kvs [.inl a, .inl s] = some (.bool b)) : ixD (.dict kvs) (.tuple [.int a, .int s]) = some (.bool b) := by
  rw [ixD, ixK, hu]
  exact h
def PartsS (tbl : List Fn) (i : Nat) : Prop := ∀ n, 4 ≤ n → ∀ (dp dr : D) (p r : List Str), SqD dp (p.map .str) → SqD dr (r.map .str) → (∀ x ∈ p, okS x = true) → (∀ x ∈ r, okS x = true) → p.length ≤ 1000 → r.length ≤ 1000 →
  evCall tbl n i [dp, dr] = some (partsD p r, .sh, [])
theorem partsS {tbl : List Fn} {i j : Nat} (h : tbl[i]? = some (F_parts j)) (hj : TableS tbl j) (hio : ioOf tbl j = [false, false]) : PartsS tbl i := fun n hn dp dr p r hp hr okp okr lp lr => by
  obtain ⟨n, rfl⟩ : ∃ n', n = n' + 1 := ⟨n - 1, by omega⟩
  rw [evCall_succ h]
  refine wT_eq (vO_fn rfl ?_)
  ac_rfl
  refine (hj n (by omega) dp dr p r hp hr okp okr lp lr).imp ?_
  rintro _ fl outs ⟨kvs, rfl, rfl, rfl, hu, h0, hT⟩
  ac_rfl
  refine wO_of (tab_at (a := 0) (s := 0) hu h0) ?_
  ac_rfl
  refine ⟨fun q => ?_, fun q => ?_⟩
  · have q : mtB p r = false := by simpa using q
    ac_rfl
    exact ⟨by rw [partsD, if_neg (by rw [q]; decide)], rfl, rfl⟩
  have q : mtB p r = true := by simpa using q
  ac_rfl
  refine vS_for p.zipIdx (fun x => .tuple [.int (x.2 : Nat), .str x.1]) (fun s : List Nat × Nat => [some (dp, .sh), some (dr, .sh), some (.dict kvs, .ow), some (.list (s.1.map fun k : Nat => .int k), .ow), some (.int (s.2 : Nat), .sh), none, none, none])
    (fun d _ s => s.1 ++ partsG (p.drop d.length) (r.drop s.2) = partsG p r ∧ mtB (p.drop d.length) (r.drop s.2) = true ∧ s.2 ≤ r.length ∧ s.1.length ≤ d.length) ([], 0) ?_
  ac_rfl
  have hen : ∀ Q : List D → Prop, Q (p.map .str) → wL dp Q := fun Q hq => by
    rcases hp with rfl | rfl
    · exact wL_t hq
    · exact wL_l hq
  refine hen _ ⟨enumD_gen PyData.str p 0, by and_intros, ⟨rfl, q, Nat.zero_le _, Nat.zero_le _⟩, ?_, ?_⟩
  · rintro d ⟨x, at'⟩ t ⟨f, spot⟩ hL ⟨hf, hm, hs, hl⟩
    obtain ⟨hd, e2, hlt⟩ := zip_split hL
    dsimp only at hf hm hs hl hd e2 ⊢
    subst e2
    rw [hd] at hf hm
    have adv : ∀ m : Nat, (x = "**" → m = firstM (mtB (p.drop (d.length + 1))) (r.drop spot)) → (¬ x = "**" → m = 1) → spot + m ≤ r.length ∧ mtB (p.drop (d.length + 1)) (r.drop (spot + m)) = true ∧ (f ++ [m]) ++ partsG (p.drop (d.length + 1)) (r.drop (spot + m)) = partsG p r := by
      intro m h1 h2
      rw [partsG] at hf
      by_cases hx : x = "**"
      · have := h1 hx
        subst this
        rw [mtB_many hx] at hm
        have l := firstM_le (mtB (p.drop (d.length + 1))) (r.drop spot)
        rw [List.length_drop] at l
        refine ⟨by omega, ?_, ?_⟩
        · have := firstM_at hm
          rw [List.drop_drop] at this
          exact this
        · rw [if_pos hx, List.drop_drop] at hf
          rw [List.append_assoc]
          exact hf
      · have := h2 hx
        subst this
        rw [mtB_one hx] at hm
        rw [if_neg hx, List.drop_drop] at hf
        cases e : r.drop spot with
        | nil => rw [e] at hm; cases hm
        | cons s rest =>
          rw [e] at hm
          have hm : (fitB x s && mtB (p.drop (d.length + 1)) rest) = true := hm
          rw [Bool.and_eq_true] at hm
          have lsp : spot < r.length := by
            have := congrArg List.length e
            rw [List.length_drop, List.length_cons] at this
            omega
          have er : r.drop (spot + 1) = rest := by
            rw [← List.drop_drop, e]
            rfl
          refine ⟨by omega, by rw [er]; exact hm.2, ?_⟩
          rw [List.append_assoc]
          exact hf
    ac_rfl
    refine ⟨fun hx => ?_, fun hx => ?_⟩
    · have hx : x = "**" := by simpa using hx
      obtain ⟨a1, a2, a3⟩ := adv _ (fun _ => rfl) (fun z => absurd hx z)
      have l := firstM_le (mtB (p.drop (d.length + 1))) (r.drop spot)
      rw [List.length_drop] at l
      ac_rfl
      refine vS_while (fun m : Nat => [some (dp, .sh), some (dr, .sh), some (.dict kvs, .ow), some (.list (f.map fun k : Nat => .int k), .ow), some (.int (spot : Nat), .sh), some (.int (d.length : Nat), .sh), some (.str x, .sh), some (.int (m : Nat), .sh)])
        (fun k m => k + m = firstM (mtB (p.drop (d.length + 1))) (r.drop spot)) (firstM (mtB (p.drop (d.length + 1))) (r.drop spot)) 0 (by show _ < 100000; omega) (by and_intros) rfl ?_
      intro k m hk
      ac_rfl
      refine wO_of (tab_at (a := d.length + 1) (s := spot + m) hu (hT _ _ (by omega) (by omega))) ?_
      ac_rfl
      refine ⟨fun hc => ?_, fun hc => ?_⟩
      · have hc : mtB (p.drop (d.length + 1)) (r.drop (spot + m)) = false := by simpa using hc
        have hk0 : k ≠ 0 := fun z => by
          subst z
          rw [Nat.zero_add] at hk
          rw [hk, a2] at hc
          cases hc
        ac_rfl
        exact ⟨k - 1, m + 1, by omega, by and_intros, by omega⟩
      · have hc : mtB (p.drop (d.length + 1)) (r.drop (spot + m)) = true := by simpa using hc
        have hk0 : m = firstM (mtB (p.drop (d.length + 1))) (r.drop spot) := by
          rcases Nat.lt_or_ge m (firstM (mtB (p.drop (d.length + 1))) (r.drop spot)) with z | z
          · have := firstM_lt z
            rw [List.drop_drop] at this
            rw [hc] at this
            cases this
          · omega
        subst hk0
        ac_rfl
        exact ⟨(f ++ [firstM (mtB (p.drop (d.length + 1))) (r.drop spot)], spot + firstM (mtB (p.drop (d.length + 1))) (r.drop spot)), by and_intros, by simpa using a3, by simpa using a2, a1, by simpa using hl⟩
    · have hx : ¬ x = "**" := by simpa using hx
      obtain ⟨a1, a2, a3⟩ := adv 1 (fun z => absurd z hx) (fun _ => rfl)
      ac_rfl
      exact ⟨(f ++ [1], spot + 1), by and_intros, by simpa using a3, by simpa using a2, a1, by simpa using hl⟩
  · rintro ⟨f, spot⟩ ⟨hf, hm, hs, hl⟩
    ac_rfl
    refine ⟨?_, rfl, rfl⟩
    dsimp only at hf
    rw [List.length_zipIdx, List.drop_length, partsG, List.append_nil] at hf
    rw [partsD, if_pos q, hf]
end Ev.Pl


set_option Elab.async false
set_option linter.all false
set_option maxRecDepth 100000
set_option maxHeartbeats 40000000
namespace Ev.Pl
open PySem PySem.Spec PyProof.Rows L2
local macro_rules
  | `(tactic| ac_rfl) => `(tactic| repeat (first
    | with_reducible refine WPc.step ?_
    | with_reducible first | refine wE_call (by assumption) ?_ | refine wT_call (by assumption) ?_ | refine wE_callK (by assumption) ?_ | refine wT_callK (by assumption) ?_ | refine wE_dctK1 rfl rfl ?_ | refine wP_ite' rfl ?_ | refine wG.mk (by first | assumption | (show _ ≤ 16777216; omega) | (show _ < 16777216; omega) | omega | exact fit_of (by omega) (by omega) | (show _ ≤ 16777216; simp only [List.length_append, List.length_cons, List.length_nil, List.length_map]; omega) | (show _ < 16777216; simp only [List.length_append, List.length_cons, List.length_nil, List.length_map]; omega)) ?_
    | (fail_if_success with_reducible refine WSt.step ?_)
      first | refine wO_some ?_ | refine wP_some ?_ | refine wT_some ?_ | refine wI_tt ?_ | refine wI_ff ?_ | refine wA_mk rfl ?_ | refine wU_l rfl rfl ?_ | refine wG.mk (by first | exact Nat.le_of_ble_eq_true rfl | ((with_reducible refine kG ?_); rfl)) ?_))
local macro_rules
  | `(tactic| and_intros) => `(tactic| first
    | ((repeat (refine LeE.cons (by first | exact (rfl : Sl (some _) _) | exact nio_none | exact nio_sh | exact nio_ow | assumption) ?_)); exact LeE.nil)
    | (simp only [List.map_append, List.map_cons, List.map_nil]; (repeat (refine LeE.cons (by first | exact (rfl : Sl (some _) _) | exact nio_none | exact nio_sh | exact nio_ow | assumption) ?_)); exact LeE.nil))
local macro_rules
  | `(tactic| subst_eqs) => `(tactic| repeat (first
    | with_reducible first
      | exact qn_str _ | exact qn_int _ | exact qn_bool _ | exact qn_non | assumption | refine qn_list ?_ ?_ | refine qn_tup ?_ ?_ | exact pA_nil | refine pA_cons ?_ ?_ | refine pA_app ?_ ?_ | exact pA_strs _ | exact pA_ints _ | refine pA_map (fun x hx => ?_)
    | (show _ ≤ 16777216; simp only [List.length_append, List.length_cons, List.length_nil, List.length_map]; omega)))
/-! ### the laws' parts by hand: calls told at once -/
def seqStrs : D → Option (List Str)
  | .list xs => strsD xs
  | .tuple xs => strsD xs
  | _ => none
theorem strsD_eq : ∀ {xs : List D} {ss : List Str}, strsD xs = some ss → xs = ss.map .str
  | [], ss, h => by cases h; rfl
  | d :: xs, ss, h => by
    cases d with
    | str s =>
      simp only [strsD, Option.map_eq_some_iff] at h
      obtain ⟨r, h, rfl⟩ := h
      rw [List.map_cons, ← strsD_eq h]
    | _ => simp only [strsD, reduceCtorEq] at h
theorem seqStrs_D {d : D} {ss : List Str} (h : seqStrs d = some ss) : SqD d (ss.map .str) := by
  cases d with
  | list xs => exact .inr (by rw [strsD_eq (show strsD xs = some ss from h)])
  | tuple xs => exact .inl (by rw [strsD_eq (show strsD xs = some ss from h)])
  | _ => cases h
def okRow (p : List Str) : Bool := p.all okS && decide (p.length ≤ 1000)
theorem okRow_ok {p : List Str} (h : okRow p = true) : (∀ x ∈ p, okS x = true) ∧ p.length ≤ 1000 := by
  unfold okRow at h
  rw [Bool.and_eq_true, List.all_eq_true, decide_eq_true_eq] at h
  exact h
/-- a function of two rows, told at once -/
def fast2 (f : List Str → List Str → D) : List D → Option (D × Fl × List D)
  | [a, b] => match seqStrs a, seqStrs b with
    | some p, some r => if (okRow p && okRow r) = true then some (f p r, .sh, []) else none
    | _, _ => none
  | _ => none
def Two (tbl : List Fn) (i N : Nat) (f : List Str → List Str → D) : Prop := ∀ n, N ≤ n → ∀ (dp dr : D) (p r : List Str), SqD dp (p.map .str) → SqD dr (r.map .str) → (∀ x ∈ p, okS x = true) → (∀ x ∈ r, okS x = true) → p.length ≤ 1000 → r.length ≤ 1000 → evCall tbl n i [dp, dr] = some (f p r, .sh, [])
theorem fast2_le {tbl : List Fn} {i N n : Nat} {f : List Str → List Str → D} (h : Two tbl i N f) (hn : N ≤ n) (ds : List D) : Le (fast2 f ds) (evCall tbl n i ds) := fun r e => by
  match ds, e with
  | [a, b], e =>
    have e : (match seqStrs a, seqStrs b with
      | some p, some r => if (okRow p && okRow r) = true then some (f p r, Fl.sh, []) else none
      | _, _ => none) = some r := e
    cases h2 : seqStrs a with
    | none => rw [h2] at e; cases e
    | some p =>
      cases h3 : seqStrs b with
      | none => rw [h2, h3] at e; cases e
      | some q =>
        rw [h2, h3] at e
        dsimp only at e
        split at e
        · rename_i c
          cases e
          rw [Bool.and_eq_true] at c
          obtain ⟨o1, l1⟩ := okRow_ok c.1
          obtain ⟨o2, l2⟩ := okRow_ok c.2
          exact h n hn _ _ p q (seqStrs_D h2) (seqStrs_D h3) o1 o2 l1 l2
        · cases e
  | [], e => cases e
  | [_], e => cases e
  | _ :: _ :: _ :: _, e => cases e
/-- calls, some of them told at once -/
def fastC (base : CallF) : List (Nat × (List D → Option (D × Fl × List D))) → CallF
  | [] => base
  | (i, g) :: r => fun k ds => if k = i then g ds else fastC base r k ds
theorem fastC_nil {base cf : CallF} (h : ∀ i ds, Le (base i ds) (cf i ds)) : ∀ i ds, Le (fastC base [] i ds) (cf i ds) := h
theorem fastC_cons {base cf : CallF} {i : Nat} {g : List D → Option (D × Fl × List D)} {r : List (Nat × (List D → Option (D × Fl × List D)))} (h : ∀ ds, Le (g ds) (cf i ds)) (t : ∀ i ds, Le (fastC base r i ds) (cf i ds)) : ∀ k ds, Le (fastC base ((i, g) :: r) k ds) (cf k ds) := fun k ds => by
  unfold fastC
  by_cases e : k = i
  · subst e
    rw [if_pos rfl]
    exact h ds
  · rw [if_neg e]
    exact t k ds
def okN : Option (D × Fl × List D) → Bool
  | some (.bool true, .sh, []) => true
  | _ => false
theorem okN_of {x : Option (D × Fl × List D)} (h : okN x = true) : x = some (.bool true, .sh, []) := by
  unfold okN at h
  split at h
  · rfl
  · cases h
/-- the law's part by hand -/
theorem hand_by {tbl : List Fn} {i n : Nat} {fn : Fn} {cf : CallF} (hi : tbl[i]? = some fn) (hle : ∀ k ds, Le (cf k ds) (evCall tbl n k ds)) (h : okN (runFn cf (ioOf tbl) fn []) = true) : evCall tbl (n + 1) i [] = some (.bool true, .sh, []) := by
  rw [evCall_succ hi]
  exact mFn hle fn [] _ (okN_of h)
end Ev.Pl


set_option Elab.async false
set_option linter.all false
set_option maxRecDepth 100000
set_option maxHeartbeats 40000000
namespace Ev.Pl
open PySem PySem.Spec PyProof.Rows L2
local macro_rules
  | `(tactic| ac_rfl) => `(tactic| repeat (first
    | with_reducible refine WPc.step ?_
    | with_reducible first | refine wE_call (by assumption) ?_ | refine wT_call (by assumption) ?_ | refine wE_callK (by assumption) ?_ | refine wT_callK (by assumption) ?_ | refine wE_dctK1 rfl rfl ?_ | refine wP_ite' rfl ?_ | refine wG.mk (by first | assumption | (show _ ≤ 16777216; omega) | (show _ < 16777216; omega) | omega | exact fit_of (by omega) (by omega) | (show _ ≤ 16777216; simp only [List.length_append, List.length_cons, List.length_nil, List.length_map]; omega) | (show _ < 16777216; simp only [List.length_append, List.length_cons, List.length_nil, List.length_map]; omega)) ?_
    | (fail_if_success with_reducible refine WSt.step ?_)
      first | refine wO_some ?_ | refine wP_some ?_ | refine wT_some ?_ | refine wI_tt ?_ | refine wI_ff ?_ | refine wA_mk rfl ?_ | refine wU_l rfl rfl ?_ | refine wG.mk (by first | exact Nat.le_of_ble_eq_true rfl | ((with_reducible refine kG ?_); rfl)) ?_))
local macro_rules
  | `(tactic| and_intros) => `(tactic| first
    | ((repeat (refine LeE.cons (by first | exact (rfl : Sl (some _) _) | exact nio_none | exact nio_sh | exact nio_ow | assumption) ?_)); exact LeE.nil)
    | (simp only [List.map_append, List.map_cons, List.map_nil]; (repeat (refine LeE.cons (by first | exact (rfl : Sl (some _) _) | exact nio_none | exact nio_sh | exact nio_ow | assumption) ?_)); exact LeE.nil))
local macro_rules
  | `(tactic| subst_eqs) => `(tactic| repeat (first
    | with_reducible first
      | exact qn_str _ | exact qn_int _ | exact qn_bool _ | exact qn_non | assumption | refine qn_list ?_ ?_ | refine qn_tup ?_ ?_ | exact pA_nil | refine pA_cons ?_ ?_ | refine pA_app ?_ ?_ | exact pA_strs _ | exact pA_ints _ | refine pA_map (fun x hx => ?_)
    | (show _ ≤ 16777216; simp only [List.length_append, List.length_cons, List.length_nil, List.length_map]; omega)))
/-- covers -/
def F_covers (i_tidy i_table_of : Nat) : Fn := ⟨2, [false, false], (.ret (.ix (.call i_table_of (.cons (.call i_tidy (.cons (.var 0) .nil)) (.cons (.call i_tidy (.cons (.var 1) .nil)) .nil))) (.tup (.cons (.cst (.int 0)) (.cons (.cst (.int 0)) .nil)))))⟩
/-- _law_trails -/
def F_law_trails : Fn := ⟨8, [false, false], (.seq (.par2 3 4 (.lst .nil) (.lst (.cons (.tup .nil) .nil)))
 (.seq (.for_ (.name 2) (.range1 (.var 1))
 (.seq (.set 5 (.lst .nil))
 (.seq (.for_ (.name 6) (.seq (.var 4))
 (.set 5 (.bin .add (.var 5) (.comp [7] (.name 7) (.seq (.var 0)) .no (.bin .add (.var 6) (.tup (.cons (.var 7) .nil)))))))
 (.seq (.set 4 (.var 5))
 (.set 3 (.bin .add (.var 3) (.var 4)))))))
 (.ret (.var 3))))⟩

/-! ### what covers: the theory -/
theorem fit_many {x : Str} (h : ¬ x = "**") : fitB x "**" = false := by
  unfold fitB
  rw [decide_eq_false h]
  simp
theorem fit_trans {x y s : Str} (hy : OkW y) (ny : ¬ y = "**") (h1 : fitB x y = true) (h2 : fitB y s = true) : fitB x s = true := by
  unfold fitB at h1 h2 ⊢
  simp only [Bool.or_eq_true, Bool.and_eq_true, Bool.not_eq_true', decide_eq_true_eq, decide_eq_false_iff_not] at h1 h2 ⊢
  rcases h1 with rfl | ⟨a, b, c⟩
  · exact h2
  · rcases h2 with rfl | ⟨a', b', c'⟩
    · exact .inr ⟨a, b, c⟩
    · refine .inr ⟨a, b', ?_⟩
      rcases hy.star a' with z | z
      · exact absurd z ny
      · rw [c', ← z, c]
theorem starB_iff {f : List Str → Bool} : ∀ {r : List Str}, starB f r = true ↔ ∃ u v, r = u ++ v ∧ f v = true
  | [] => by
    constructor
    · intro h
      exact ⟨[], [], rfl, h⟩
    · rintro ⟨u, v, e, h⟩
      have : v = [] := (List.append_eq_nil_iff.mp e.symm).2
      rw [this] at h
      exact h
  | s :: r => by
    rw [starB, Bool.or_eq_true, starB_iff (r := r)]
    constructor
    · rintro (h | ⟨u, v, rfl, h⟩)
      · exact ⟨[], s :: r, rfl, h⟩
      · exact ⟨s :: u, v, rfl, h⟩
    · rintro ⟨u, v, e, h⟩
      cases u with
      | nil => exact .inl (by rw [e]; exact h)
      | cons a u =>
        cases e
        exact .inr ⟨u, v, rfl, h⟩
theorem mt_one {x : Str} {ps r : List Str} (h : ¬ x = "**") : mtB (x :: ps) r = true ↔ ∃ s t, r = s :: t ∧ fitB x s = true ∧ mtB ps t = true := by
  rw [mtB_one h]
  cases r with
  | nil => simp
  | cons s t =>
    simp only [Bool.and_eq_true]
    constructor
    · rintro ⟨a, b⟩
      exact ⟨s, t, rfl, a, b⟩
    · rintro ⟨s', t', e, a, b⟩
      cases e
      exact ⟨a, b⟩
theorem mt_star {x : Str} {ps r : List Str} (h : x = "**") : mtB (x :: ps) r = true ↔ ∃ u v, r = u ++ v ∧ mtB ps v = true := by
  rw [mtB_many h]
  exact starB_iff
theorem mt_app : ∀ {p q t : List Str}, mtB (p ++ q) t = true ↔ ∃ a b, t = a ++ b ∧ mtB p a = true ∧ mtB q b = true
  | [], q, t => by
    constructor
    · intro h
      exact ⟨[], t, rfl, rfl, h⟩
    · rintro ⟨a, b, rfl, h1, h2⟩
      have : a = [] := by simpa [mtB] using h1
      subst this
      exact h2
  | x :: p, q, t => by
    rw [List.cons_append]
    by_cases h : x = "**"
    · rw [mt_star h]
      constructor
      · rintro ⟨u, v, rfl, hv⟩
        obtain ⟨a, b, rfl, h1, h2⟩ := mt_app.mp hv
        exact ⟨u ++ a, b, by simp, (mt_star h).mpr ⟨u, a, rfl, h1⟩, h2⟩
      · rintro ⟨a, b, rfl, h1, h2⟩
        obtain ⟨u, v, rfl, h3⟩ := (mt_star h).mp h1
        exact ⟨u, v ++ b, by simp, mt_app.mpr ⟨v, b, rfl, h3, h2⟩⟩
    · rw [mt_one h]
      constructor
      · rintro ⟨s, t', rfl, hf, hv⟩
        obtain ⟨a, b, rfl, h1, h2⟩ := mt_app.mp hv
        exact ⟨s :: a, b, rfl, (mt_one h).mpr ⟨s, a, rfl, hf, h1⟩, h2⟩
      · rintro ⟨a, b, rfl, h1, h2⟩
        obtain ⟨s, t', rfl, hf, h3⟩ := (mt_one h).mp h1
        exact ⟨s, t' ++ b, rfl, hf, mt_app.mpr ⟨t', b, rfl, h3, h2⟩⟩
/-- what matches a row of PIECEs matches what these match -/
theorem mt_trans : ∀ {p q t : List Str}, (∀ y ∈ q, OkW y) → mtB p q = true → mtB q t = true → mtB p t = true
  | [], q, t, ok, h1, h2 => by
    have : q = [] := by simpa [mtB] using h1
    subst this
    exact h2
  | x :: p, q, t, ok, h1, h2 => by
    by_cases h : x = "**"
    · obtain ⟨u, v, rfl, h3⟩ := (mt_star h).mp h1
      obtain ⟨a, b, rfl, h4, h5⟩ := mt_app.mp h2
      exact (mt_star h).mpr ⟨a, b, rfl, mt_trans (fun y hy => ok y (by simp [hy])) h3 h5⟩
    · obtain ⟨y, q', rfl, hf, h3⟩ := (mt_one h).mp h1
      have ny : ¬ y = "**" := fun e => by
        rw [e, fit_many h] at hf
        cases hf
      obtain ⟨s, t', rfl, hf2, h4⟩ := (mt_one ny).mp h2
      exact (mt_one h).mpr ⟨s, t', rfl, fit_trans (ok y (by simp)) ny hf hf2, mt_trans (fun y hy => ok y (by simp [hy])) h3 h4⟩
theorem starB_star {f : List Str → Bool} {r : List Str} : starB (starB f) r = starB f r := by
  have : (starB (starB f) r = true) ↔ (starB f r = true) := by
    rw [starB_iff, starB_iff]
    constructor
    · rintro ⟨u, v, rfl, h⟩
      obtain ⟨a, b, rfl, h2⟩ := starB_iff.mp h
      exact ⟨u ++ a, b, by simp, h2⟩
    · rintro ⟨u, v, rfl, h⟩
      exact ⟨u, v, rfl, starB_iff.mpr ⟨[], v, rfl, h⟩⟩
  cases a : starB (starB f) r <;> cases b : starB f r <;> simp_all
theorem starB_congr {f g : List Str → Bool} (h : ∀ r, f r = g r) (r : List Str) : starB f r = starB g r := by
  rw [show f = g from funext h]
/-- the tidy writing matches the same -/
theorem mt_tid : ∀ (p : List Str), (∀ r, mtB (tid false p) r = mtB p r) ∧ ∀ r, starB (mtB (tid true p)) r = starB (mtB p) r
  | [] => ⟨fun _ => rfl, fun _ => rfl⟩
  | s :: p => by
    obtain ⟨h1, h2⟩ := mt_tid p
    by_cases e : s = "**"
    · constructor
      · intro r
        rw [tid, if_pos e, if_neg (by decide), mtB_many e, mtB_many e, h2]
      · intro r
        rw [tid, if_pos e, if_pos rfl, h2]
        have : ∀ r, mtB (s :: p) r = starB (mtB p) r := fun r => mtB_many e
        rw [starB_congr this, starB_star]
    · have key : ∀ m r, mtB (tid m (s :: p)) r = mtB (s :: p) r := fun m r => by
        rw [tid, if_neg e, mtB_one e, mtB_one e]
        cases r with
        | nil => rfl
        | cons a t => dsimp only; rw [h1]
      exact ⟨fun r => key false r, fun r => starB_congr (key true) r⟩
theorem mt_tidy (p r : List Str) : mtB (tid false p) r = mtB p r := (mt_tid p).1 r
/-- a row in which signs of a kind that stand beside one another are drawn together -/
inductive Con (S : Str → Prop) : List Str → List Str → Prop
  | nil : Con S [] []
  | keep {s : Str} {r r' : List Str} : Con S r r' → Con S (s :: r) (s :: r')
  | drop {s : Str} {r r' : List Str} : S s → Con S (s :: r) (s :: r') → Con S (s :: s :: r) (s :: r')
theorem star_con {S : Str → Prop} {f : List Str → Bool} (hf : ∀ u u', f u = true → Con S u u' → f u' = true) {r r' : List Str} (c : Con S r r') : starB f r = true → starB f r' = true := by
  induction c with
  | nil => exact id
  | @keep s r r' c ih =>
    intro h
    rw [starB, Bool.or_eq_true] at h ⊢
    rcases h with h | h
    · exact .inl (hf _ _ h (.keep c))
    · exact .inr (ih h)
  | @drop s r r' hs c ih =>
    intro h
    rw [starB, Bool.or_eq_true] at h
    rcases h with h | h
    · rw [starB, Bool.or_eq_true]
      exact .inl (hf _ _ h (.drop hs c))
    · exact ih h
theorem mt_con {S : Str → Prop} : ∀ {p r r' : List Str}, (∀ x ∈ p, ¬ x = "**" → ∀ s, S s → fitB x s = false) → mtB p r = true → Con S r r' → mtB p r' = true
  | [], r, r', _, h, c => by
    have : r = [] := by simpa [mtB] using h
    subst this
    cases c
    exact h
  | x :: p, r, r', hS, h, c => by
    have hS' : ∀ x ∈ p, ¬ x = "**" → ∀ s, S s → fitB x s = false := fun y hy => hS y (by simp [hy])
    by_cases e : x = "**"
    · rw [mtB_many e] at h ⊢
      exact star_con (fun u u' hu cu => mt_con hS' hu cu) c h
    · obtain ⟨s, t, rfl, hf, h1⟩ := (mt_one e).mp h
      cases c with
      | keep c => exact (mt_one e).mpr ⟨_, _, rfl, hf, mt_con hS' h1 c⟩
      | drop hs c =>
        rw [hS x (by simp) e s hs] at hf
        cases hf
/-- a row with other signs -/
inductive Rep (ρ : Str → Str → Prop) : List Str → List Str → Prop
  | nil : Rep ρ [] []
  | cons {s s' : Str} {r r' : List Str} : ρ s s' → Rep ρ r r' → Rep ρ (s :: r) (s' :: r')
theorem Rep.app {ρ : Str → Str → Prop} {r r' t t' : List Str} (h : Rep ρ r r') (k : Rep ρ t t') : Rep ρ (r ++ t) (r' ++ t') := by
  induction h with
  | nil => exact k
  | cons a _ ih => exact .cons a ih
theorem star_rep {ρ : Str → Str → Prop} {f : List Str → Bool} (hf : ∀ u u', f u = true → Rep ρ u u' → f u' = true) {r r' : List Str} (c : Rep ρ r r') : starB f r = true → starB f r' = true := by
  induction c with
  | nil => exact fun h => hf _ _ h .nil
  | @cons s s' r r' a c ih =>
    intro h
    rw [starB, Bool.or_eq_true] at h ⊢
    rcases h with h | h
    · exact .inl (hf _ _ h (.cons a c))
    · exact .inr (ih h)
theorem mt_rep {ρ : Str → Str → Prop} : ∀ {p r r' : List Str}, (∀ x ∈ p, ¬ x = "**" → ∀ s s', ρ s s' → fitB x s = true → fitB x s' = true) → mtB p r = true → Rep ρ r r' → mtB p r' = true
  | [], r, r', _, h, c => by
    have : r = [] := by simpa [mtB] using h
    subst this
    cases c
    exact h
  | x :: p, r, r', hS, h, c => by
    have hS' : ∀ x ∈ p, ¬ x = "**" → ∀ s s', ρ s s' → fitB x s = true → fitB x s' = true := fun y hy => hS y (by simp [hy])
    by_cases e : x = "**"
    · rw [mtB_many e] at h ⊢
      exact star_rep (fun u u' hu cu => mt_rep hS' hu cu) c h
    · obtain ⟨s, t, rfl, hf, h1⟩ := (mt_one e).mp h
      cases c with
      | cons a c => exact (mt_one e).mpr ⟨_, _, rfl, hS x (by simp) e _ _ a hf, mt_rep hS' h1 c⟩
/-- a PATH that a PATTERN matches, with many of one strange NAME for each "**" -/
def canonW (k : Nat) (far : List Str) : List Str := far.flatMap fun b : Str => if b = "**" then List.replicate k ("new" : Str) else [if headS b = "*" then "new" ++ cutS b (some 1) none else b]
def starsW (k : Nat) (far : List Str) : List Str := far.flatMap fun b : Str => if b = "**" then List.replicate k ("**" : Str) else [b]
theorem con_many {S : Str → Prop} {s : Str} (hs : S s) {r r' : List Str} (c : Con S (s :: r) (s :: r')) : ∀ k : Nat, Con S (s :: (List.replicate k s ++ r)) (s :: r')
  | 0 => c
  | k + 1 => by
    rw [List.replicate_succ, List.cons_append]
    exact .drop hs (con_many hs c k)
theorem con_stars (k : Nat) (hk : 1 ≤ k) : ∀ p : List Str, Con (· = ("**" : Str)) (starsW k p) (tid false p) ∧ Con (· = ("**" : Str)) ("**" :: starsW k p) ("**" :: tid true p)
  | [] => ⟨.nil, .keep .nil⟩
  | s :: p => by
    obtain ⟨h1, h2⟩ := con_stars k hk p
    have e0 : starsW k (s :: p) = (if s = "**" then List.replicate k ("**" : Str) else [s]) ++ starsW k p := rfl
    by_cases e : s = "**"
    · rw [e0, if_pos e, tid, if_pos e, if_neg (by decide), tid, if_pos e, if_pos rfl, e]
      constructor
      · obtain ⟨k, rfl⟩ : ∃ j, k = j + 1 := ⟨k - 1, by omega⟩
        rw [List.replicate_succ, List.cons_append]
        exact con_many (S := fun z : Str => z = "**") (s := "**") rfl h2 k
      · exact con_many (S := fun z : Str => z = "**") (s := "**") rfl h2 k
    · rw [e0, if_neg e, tid, if_neg e, tid, if_neg e]
      exact ⟨.keep h1, .keep (.keep h1)⟩
def CoversS (tbl : List Fn) (i : Nat) : Prop := ∀ n, 4 ≤ n → ∀ (dp dr : D) (p r : List Str), SqD dp (p.map .str) → SqD dr (r.map .str) → (∀ x ∈ p, okS x = true) → (∀ x ∈ r, okS x = true) → p.length ≤ 1000 → r.length ≤ 1000 →
  evCall tbl n i [dp, dr] = some (.bool (mtB p (tid false r)), .sh, [])
theorem coversS {tbl : List Fn} {i j k : Nat} (h : tbl[i]? = some (F_covers j k)) (hj : TidyS tbl j) (hk : TableS tbl k) (hio : ioOf tbl j = [false]) (hio2 : ioOf tbl k = [false, false]) : CoversS tbl i := fun n hn dp dr p r hp hr okp okr lp lr => by
  obtain ⟨n, rfl⟩ : ∃ n', n = n' + 1 := ⟨n - 1, by omega⟩
  rw [evCall_succ h]
  refine wT_eq (vO_fn rfl ?_)
  ac_rfl
  refine wT_of (hj n (by omega) dp p hp (by omega)) ?_
  ac_rfl
  refine wT_of (hj n (by omega) dr r hr (by omega)) ?_
  ac_rfl
  have l1 := tid_len p false
  have l2 := tid_len r false
  refine (hk n (by omega) (.tuple ((tid false p).map .str)) (.tuple ((tid false r).map .str)) (tid false p) (tid false r) (.inl rfl) (.inl rfl) (fun x hx => okp x (tid_mem p _ hx)) (fun x hx => okr x (tid_mem r _ hx)) (by omega) (by omega)).imp ?_
  rintro _ fl outs ⟨kvs, rfl, rfl, rfl, hu, h0, hT⟩
  ac_rfl
  refine wO_of (tab_at (a := 0) (s := 0) hu h0) ?_
  ac_rfl
  exact ⟨by rw [mt_tidy], rfl, rfl⟩
theorem starB_app {f : List Str → Bool} {t : List Str} (h : f t = true) : ∀ g : List Str, starB f (g ++ t) = true
  | [] => by
    rw [List.nil_append, starB_eq, h]
    rfl
  | s :: g => by
    rw [List.cons_append, starB, starB_app h g]
    simp
theorem mt_more {x : Str} {q g t : List Str} (h : mtB q t = true) (hx : x = "**" ∨ (¬ x = "**" ∧ ∃ s, g = [s] ∧ fitB x s = true)) : mtB (x :: q) (g ++ t) = true := by
  rcases hx with e | ⟨e, s, rfl, hf⟩
  · rw [mtB_many e]
    exact starB_app h g
  · rw [mtB_one e]
    show (fitB x s && mtB q t) = true
    rw [hf, h]
    rfl
theorem fit_self (x : Str) : fitB x x = true := by
  unfold fitB
  rw [decide_eq_true rfl]
  rfl

/-! ### all PATHs of some NAMEs -/
def edgeF (ms : List Str) : Nat → List (List Str)
  | 0 => [[]]
  | k + 1 => (edgeF ms k).flatMap fun q => ms.map fun m => q ++ [m]
def trailsF (ms : List Str) (k : Nat) : List (List Str) := (List.range k).flatMap fun j => edgeF ms (j + 1)
theorem edge_len (ms : List Str) : ∀ k, (edgeF ms k).length = ms.length ^ k
  | 0 => rfl
  | k + 1 => by
    rw [edgeF, List.length_flatMap]
    simp only [List.length_map]
    rw [List.map_const', List.sum_replicate_nat, edge_len ms k, Nat.pow_succ]
theorem edge_mem {ms : List Str} : ∀ {k : Nat} {q : List Str}, q ∈ edgeF ms k → q.length = k ∧ ∀ s ∈ q, s ∈ ms
  | 0, q, h => by
    rw [List.mem_singleton.mp h]
    exact ⟨rfl, by simp⟩
  | k + 1, q, h => by
    rw [edgeF, List.mem_flatMap] at h
    obtain ⟨u, hu, h⟩ := h
    obtain ⟨m, hm, rfl⟩ := List.mem_map.mp h
    obtain ⟨a, b⟩ := edge_mem hu
    refine ⟨by simp [a], fun s hs => ?_⟩
    rcases List.mem_append.mp hs with hs | hs
    · exact b s hs
    · rw [List.mem_singleton.mp hs]
      exact hm
theorem trails_mem {ms : List Str} {k : Nat} {q : List Str} (h : q ∈ trailsF ms k) : 1 ≤ q.length ∧ q.length ≤ k ∧ ∀ s ∈ q, s ∈ ms := by
  rw [trailsF, List.mem_flatMap] at h
  obtain ⟨j, hj, h⟩ := h
  obtain ⟨a, b⟩ := edge_mem h
  have := List.mem_range.mp hj
  exact ⟨by omega, by omega, b⟩
theorem edge_bound {ms : List Str} (h : ms.length ≤ 30) {k : Nat} (hk : k ≤ 4) : (edgeF ms k).length ≤ 810000 := by
  rw [edge_len]
  refine Nat.le_trans (Nat.pow_le_pow_left h k) (Nat.le_trans (Nat.pow_le_pow_right (by decide) hk) ?_)
  decide
theorem trails_bound {ms : List Str} (h : ms.length ≤ 30) : ∀ {k : Nat}, k ≤ 4 → (trailsF ms k).length ≤ 810000 * k
  | 0, _ => by simp [trailsF]
  | k + 1, hk => by
    have h1 := trails_bound h (k := k) (by omega)
    have h2 := edge_bound h (k := k + 1) hk
    rw [trailsF, List.range_succ, List.flatMap_append, List.length_append]
    show (trailsF ms k).length + ([k].flatMap fun j => edgeF ms (j + 1)).length ≤ _
    rw [List.flatMap_singleton]
    omega
theorem trails_succ (ms : List Str) (k : Nat) : trailsF ms (k + 1) = trailsF ms k ++ edgeF ms (k + 1) := by
  rw [trailsF, List.range_succ, List.flatMap_append, List.flatMap_singleton]
  rfl
def TrailsS (tbl : List Fn) (i : Nat) : Prop := ∀ n, 1 ≤ n → ∀ (dm : D) (ms : List Str) (most : Nat), SqD dm (ms.map .str) → ms.length ≤ 30 → most ≤ 4 → evCall tbl n i [dm, .int (most : Nat)] = some (.list ((trailsF ms most).map pathD), .ow, [])
theorem trailsS {tbl : List Fn} {i : Nat} (h : tbl[i]? = some F_law_trails) : TrailsS tbl i := fun n hn dm ms most hm lm l4 => by
  obtain ⟨n, rfl⟩ : ∃ n', n = n' + 1 := ⟨n - 1, by omega⟩
  rw [evCall_succ h]
  refine wT_eq (vO_fn rfl ?_)
  ac_rfl
  refine vS_for (List.range most) (fun k : Nat => PyData.int k) (fun s : (List (List Str) × List (List Str)) × Fl => [some (dm, .sh), some (.int (most : Nat), .sh), none, some (.list (s.1.1.map pathD), .ow), some (.list (s.1.2.map pathD), s.2), none, none, none])
    (fun d _ s => (s.2 = .sh ∨ s.2 = .ow) ∧ s.1 = (trailsF ms d.length, edgeF ms d.length)) (([], [[]]), .ow) ?_
  ac_rfl
  refine ⟨by rw [← rangeD_zero]; rfl, by and_intros, ⟨.inr rfl, rfl⟩, ?_, ?_⟩
  · rintro d x r ⟨⟨f, e⟩, fl⟩ hL ⟨hfl, hs⟩
    dsimp only at hs hfl
    cases hs
    have hd : d.length < most := by have := congrArg List.length hL; simp at this; omega
    have b1 := edge_bound lm (k := d.length) (by omega)
    have b2 := edge_bound lm (k := d.length + 1) (by omega)
    have b3 := trails_bound lm (k := d.length) (by omega)
    rcases hfl with rfl | rfl <;> (
      ac_rfl
      refine vS_for (edgeF ms d.length) pathD (fun w : List (List Str) => [some (dm, .sh), some (.int (most : Nat), .sh), none, some (.list ((trailsF ms d.length).map pathD), .ow), some (.list ((edgeF ms d.length).map pathD), .sh), some (.list (w.map pathD), .ow), none, none])
        (fun d' r' w => w ++ (r'.flatMap fun q => ms.map fun m => q ++ [m]) = edgeF ms (d.length + 1)) [] ?_
      ac_rfl
      refine ⟨rfl, by and_intros, by rw [List.nil_append, edgeF], ?_, ?_⟩
      · rintro d' q r' w hL' hw
        have hq := edge_mem (ms := ms) (k := d.length) (q := q) (by rw [← hL']; simp)
        have lw : w.length + ms.length ≤ 810000 := by
          have := congrArg List.length hw
          rw [List.flatMap_cons, List.length_append, List.length_append, List.length_map] at this
          omega
        ac_rfl
        refine wE_compM ms PyData.str (fun m => pathD (q ++ [m])) ?_
        ac_rfl
        refine wO_of hm.items ?_
        ac_rfl
        refine ⟨rfl, by show _ ≤ 16777216; omega, fun m hmm => ?_, ?_⟩
        · have lq : (q.map PyData.str).length ≤ 4 := by rw [List.length_map]; omega
          ac_rfl
          exact ⟨by rw [pathD, List.map_append]; rfl, rfl⟩
        · ac_rfl
          refine ⟨w ++ ms.map fun m => q ++ [m], ?_, ?_⟩
          · rw [List.map_append, List.map_map]
            and_intros
          · rw [← hw, List.flatMap_cons, List.append_assoc]
      · rintro w hw
        have ew : w = edgeF ms (d.length + 1) := by simpa using hw
        subst ew
        ac_rfl
        refine ⟨((trailsF ms d.length ++ edgeF ms (d.length + 1), edgeF ms (d.length + 1)), .sh), by and_intros, .inl rfl, ?_⟩
        rw [List.length_append, ← trails_succ]
        rfl)
  · rintro ⟨⟨f, e⟩, fl⟩ ⟨hfl, hs⟩
    dsimp only at hs
    cases hs
    ac_rfl
    exact ⟨by rw [List.length_range], rfl, rfl⟩
theorem cutD_mem {xs : List D} {lo hi : Option Int} {x : D} (h : x ∈ cutD xs lo hi) : x ∈ xs := List.mem_of_mem_drop (List.mem_of_mem_take h)
theorem cutD_strs (ss : List Str) (lo hi : Option Int) : ∃ ts : List Str, cutD (ss.map .str) lo hi = ts.map .str ∧ (∀ t ∈ ts, t ∈ ss) ∧ ts.length ≤ ss.length := by
  refine ⟨(ss.drop (HT.sIx (ss.map PyData.str).length 0 lo)).take (HT.sIx (ss.map PyData.str).length (ss.map PyData.str).length hi - HT.sIx (ss.map PyData.str).length 0 lo), ?_, fun t ht => List.mem_of_mem_drop (List.mem_of_mem_take ht), ?_⟩
  · rw [cutD, List.map_take, List.map_drop]
  · rw [List.length_take, List.length_drop]
    omega
end Ev.Pl


set_option Elab.async false
set_option linter.all false
set_option maxRecDepth 100000
set_option maxHeartbeats 40000000
namespace Ev.Pl
open PySem PySem.Spec PyProof.Rows L2
local macro_rules
  | `(tactic| ac_rfl) => `(tactic| repeat (first
    | with_reducible refine WPc.step ?_
    | with_reducible first | refine wE_call (by assumption) ?_ | refine wT_call (by assumption) ?_ | refine wE_callK (by assumption) ?_ | refine wT_callK (by assumption) ?_ | refine wE_dctK1 rfl rfl ?_ | refine wP_ite' rfl ?_ | refine wG.mk (by first | assumption | (show _ ≤ 16777216; omega) | (show _ < 16777216; omega) | omega | exact fit_of (by omega) (by omega) | (show _ ≤ 16777216; simp only [List.length_append, List.length_cons, List.length_nil, List.length_map]; omega) | (show _ < 16777216; simp only [List.length_append, List.length_cons, List.length_nil, List.length_map]; omega)) ?_
    | (fail_if_success with_reducible refine WSt.step ?_)
      first | refine wO_some ?_ | refine wP_some ?_ | refine wT_some ?_ | refine wI_tt ?_ | refine wI_ff ?_ | refine wA_mk rfl ?_ | refine wU_l rfl rfl ?_ | refine wG.mk (by first | exact Nat.le_of_ble_eq_true rfl | ((with_reducible refine kG ?_); rfl)) ?_))
local macro_rules
  | `(tactic| and_intros) => `(tactic| first
    | ((repeat (refine LeE.cons (by first | exact (rfl : Sl (some _) _) | exact nio_none | exact nio_sh | exact nio_ow | assumption) ?_)); exact LeE.nil)
    | (simp only [List.map_append, List.map_cons, List.map_nil]; (repeat (refine LeE.cons (by first | exact (rfl : Sl (some _) _) | exact nio_none | exact nio_sh | exact nio_ow | assumption) ?_)); exact LeE.nil))
local macro_rules
  | `(tactic| subst_eqs) => `(tactic| repeat (first
    | with_reducible first
      | exact qn_str _ | exact qn_int _ | exact qn_bool _ | exact qn_non | assumption | refine qn_list ?_ ?_ | refine qn_tup ?_ ?_ | exact pA_nil | refine pA_cons ?_ ?_ | refine pA_app ?_ ?_ | exact pA_strs _ | exact pA_ints _ | refine pA_map (fun x hx => ?_)
    | (show _ ≤ 16777216; simp only [List.length_append, List.length_cons, List.length_nil, List.length_map]; omega)))
/-! Plain laws: sorted sets of PATTERNs, BASEs. -/
/-- base_of -/
def F_base_of (i_tidy i_covers : Nat) : Fn := ⟨5, [false], (.seq (.set 1 (.sset (.comp [3] (.name 3) (.seq (.var 0)) .no (.call i_tidy (.cons (.var 3) .nil)))))
 (.ret (.blt .tuple (.cons (.comp [2] (.name 2) (.seq (.var 1)) (.yes (.not (.blt .any (.cons (.comp [4] (.name 4) (.seq (.var 1)) .no (.and (.cmp .ne (.var 4) (.var 2)) (.call i_covers (.cons (.var 4) (.cons (.var 2) .nil))))) .nil)))) (.var 2)) .nil))))⟩
/-- is_base -/
def F_is_base (i_is_pattern i_base_of : Nat) : Fn := ⟨2, [false], (.ret (.and (.isi (.var 0) [.tuple]) (.and (.blt .all (.cons (.comp [1] (.name 1) (.seq (.var 0)) .no (.call i_is_pattern (.cons (.var 1) .nil))) .nil)) (.cmp .eq (.var 0) (.call i_base_of (.cons (.var 0) .nil))))))⟩
/-- is_pattern -/
def F_is_pattern (i_is_piece : Nat) : Fn := ⟨2, [false], (.ret (.and (.isi (.var 0) [.tuple]) (.and (.cmp .gt (.blt .len (.cons (.var 0) .nil)) (.cst (.int 0))) (.blt .all (.cons (.comp [1] (.name 1) (.seq (.var 0)) .no (.call i_is_piece (.cons (.var 1) .nil))) .nil)))))⟩
/-- _law_due -/
def F_law_dueB (i_law_clean i_law_takes : Nat) : Fn := ⟨5, [false], (.seq (.set 1 (.sset (.comp [3] (.name 3) (.seq (.var 0)) .no (.call i_law_clean (.cons (.var 3) .nil)))))
 (.ret (.blt .tuple (.cons (.comp [2] (.name 2) (.seq (.var 1)) (.yes (.cmp .eq (.comp [4] (.name 4) (.seq (.var 1)) (.yes (.and (.cmp .ne (.var 4) (.var 2)) (.call i_law_takes (.cons (.var 4) (.cons (.var 2) .nil))))) (.var 4)) (.lst .nil))) (.var 2)) .nil))))⟩

/-! ### sorted sets of tuples of texts -/
def kS (p : List Str) : List Key := p.map Sum.inr
theorem keysD_strs : ∀ p : List Str, keysD (p.map .str) = some (kS p)
  | [] => rfl
  | s :: p => by rw [List.map_cons, keysD, keysD_strs p]; rfl
theorem ktupsD_paths : ∀ ps : List (List Str), ktupsD (ps.map pathD) = some (ps.map kS)
  | [] => rfl
  | p :: ps => by rw [List.map_cons, ktupsD, keysD_strs, ktupsD_paths ps]; rfl
theorem kS_inj {p q : List Str} (h : kS p = kS q) : p = q := by
  induction p generalizing q with
  | nil => cases q with
    | nil => rfl
    | cons _ _ => cases h
  | cons s p ih => cases q with
    | nil => cases h
    | cons t q =>
      injection h with h1 h2
      injection h1 with h1
      rw [h1, ih h2]
theorem tupD_kS (p : List Str) : tupD (kS p) = pathD p := by
  unfold tupD kS
  rw [List.map_map]
  rfl
/-- the order of tuples of texts -/
def leP (a b : List Str) : Bool := leT (kS a) (kS b)
theorem addOne_map {α β : Type} [DecidableEq α] [DecidableEq β] (f : α → β) (hf : ∀ a b, f a = f b → a = b) (L : List α) (x : α) : addOne (L.map f) (f x) = (addOne L x).map f := by
  unfold addOne
  have e : f x ∈ L.map f ↔ x ∈ L := by
    constructor
    · intro h
      obtain ⟨y, hy, e⟩ := List.mem_map.mp h
      rw [← hf _ _ e]
      exact hy
    · exact List.mem_map_of_mem
  by_cases h : x ∈ L
  · rw [if_pos h, if_pos (e.mpr h)]
  · rw [if_neg h, if_neg fun z => h (e.mp z), List.map_append]
    rfl
theorem foldl_addOne_map {α β : Type} [DecidableEq α] [DecidableEq β] (f : α → β) (hf : ∀ a b, f a = f b → a = b) : ∀ (xs L : List α), (xs.map f).foldl addOne (L.map f) = (xs.foldl addOne L).map f
  | [], _ => rfl
  | x :: xs, L => by rw [List.map_cons, List.foldl_cons, List.foldl_cons, addOne_map f hf, foldl_addOne_map f hf xs]
theorem DedS_map {α β : Type} [DecidableEq α] [DecidableEq β] (f : α → β) (hf : ∀ a b, f a = f b → a = b) (xs : List α) : DedS (xs.map f) = (DedS xs).map f := foldl_addOne_map f hf xs []
theorem insS_map {α β : Type} {le : β → β → Bool} (f : α → β) (x : α) : ∀ L : List α, insS le (f x) (L.map f) = (insS (fun a b => le (f a) (f b)) x L).map f
  | [] => rfl
  | y :: r => by
    rw [List.map_cons, insS, insS]
    split
    · rfl
    · rw [insS_map f x r]; rfl
theorem srtS_map {α β : Type} {le : β → β → Bool} (f : α → β) : ∀ L : List α, srtS le (L.map f) = (srtS (fun a b => le (f a) (f b)) L).map f
  | [] => rfl
  | x :: r => by rw [List.map_cons, srtS, srtS_map f r, insS_map, srtS]
theorem alike_strs : ∀ p q : List Str, PySem.W.alikeAll (p.map .str) (q.map .str) = true
  | [], q => by cases q <;> rfl
  | _ :: _, [] => rfl
  | s :: p, t :: q => by rw [List.map_cons, List.map_cons, PySem.W.alikeAll, alike_strs p q]; rfl
theorem isTup1_path {p : List Str} (h : p ≠ []) : isTup1 (pathD p) = true := by
  cases p with
  | nil => exact absurd rfl h
  | cons _ _ => rfl
theorem sortOk_paths {ps : List (List Str)} (hn : ∀ p ∈ ps, p ≠ []) (hs : ∀ p ∈ ps, ∀ s ∈ p, OkW s) : sortOk (ps.map pathD) = true := by
  unfold sortOk
  rw [Bool.and_eq_true, Bool.and_eq_true, Bool.and_eq_true, Bool.or_eq_true]
  refine ⟨canAll fun x hx => ?_, ?_, .inl ?_, ?_⟩
  · obtain ⟨p, hp, rfl⟩ := List.mem_map.mp hx
    exact (path_lay (hs p hp)).1
  · rw [List.all_eq_true]
    intro x hx
    rw [List.all_eq_true]
    intro y hy
    obtain ⟨p, hp, rfl⟩ := List.mem_map.mp hx
    obtain ⟨q, hq, rfl⟩ := List.mem_map.mp hy
    exact alike_strs p q
  · rw [List.all_eq_true]
    intro x hx
    obtain ⟨p, hp, rfl⟩ := List.mem_map.mp hx
    exact isTup1_path (hn p hp)
  · rw [List.all_eq_true]
    intro x hx
    obtain ⟨p, hp, rfl⟩ := List.mem_map.mp hx
    have := (path_lay (hs p hp)).2
    exact decide_eq_true (by omega)
theorem ssetD_paths {ps : List (List Str)} (hn : ∀ p ∈ ps, p ≠ []) (hs : ∀ p ∈ ps, ∀ s ∈ p, OkW s) (hl : ps.length < 63) : ssetD (.list (ps.map pathD)) = some (.list ((srtS leP (DedS ps)).map pathD), .ow) := by
  cases ps with
  | nil => rfl
  | cons p ps =>
    have e : strsD ((p :: ps).map pathD) = none := rfl
    have e2 : (DedS ((p :: ps).map kS)).map tupD = (DedS (p :: ps)).map pathD := by
      rw [DedS_map kS fun _ _ => kS_inj, List.map_map]
      exact List.map_congr_left fun q _ => tupD_kS q
    have e3 : (srtS leT (DedS ((p :: ps).map kS))).map tupD = (srtS leP (DedS (p :: ps))).map pathD := by
      rw [DedS_map kS fun _ _ => kS_inj, srtS_map, List.map_map]
      exact List.map_congr_left fun q _ => tupD_kS q
    have ok : sortOk ((DedS (p :: ps)).map pathD) = true := sortOk_paths (fun q hq => hn q (DedS_mem.mp hq)) fun q hq => hs q (DedS_mem.mp hq)
    have l2 : (decide (((p :: ps).map kS).length < 63)) = true := decide_eq_true (by rw [List.length_map]; exact hl)
    simp only [ssetD, e, ktupsD_paths]
    rw [e2, e3, l2, ok]
    rfl
/-! ### equal PATTERNs, equal tuples of PATTERNs -/
theorem OkW.tx {s : Str} (h : OkW s) {n : Nat} : Tx n (.str s) := .str (okS_str h.ok)
theorem path_tx {p : List Str} (h : ∀ s ∈ p, OkW s) {n : Nat} : Tx (n + 1) (pathD p) := .tuple fun x hx => by
  obtain ⟨s, hs, rfl⟩ := List.mem_map.mp hx
  exact (h s hs).tx
theorem pathD_inj {p q : List Str} (h : pathD p = pathD q) : p = q := by
  have h : p.map PyData.str = q.map .str := by injection h
  induction p generalizing q with
  | nil => cases q with
    | nil => rfl
    | cons _ _ => cases h
  | cons s p ih => cases q with
    | nil => cases h
    | cons t q =>
      injection h with h1 h2
      injection h1 with h1
      rw [h1, ih (by rw [pathD, pathD, h2]) h2]
theorem pathsD_inj {ps qs : List (List Str)} (h : ps.map pathD = qs.map pathD) : ps = qs := by
  induction ps generalizing qs with
  | nil => cases qs with
    | nil => rfl
    | cons _ _ => cases h
  | cons s p ih => cases qs with
    | nil => cases h
    | cons t q =>
      rw [List.map_cons, List.map_cons] at h
      injection h with h1 h2
      rw [pathD_inj h1, ih h2]
theorem path_eqv {p q : List Str} (hp : ∀ s ∈ p, OkW s) : PyData.eqv (pathD p) (pathD q) = decide (p = q) := by
  have := (path_tx hp (n := 0)).eqv (pathD q)
  rw [Bool.eq_iff_iff, this, decide_eq_true_eq]
  exact ⟨pathD_inj, fun h => by rw [h]⟩
theorem path_eqD {p q : List Str} (hp : ∀ s ∈ p, OkW s) (hq : ∀ s ∈ q, OkW s) : Ev.eqD (pathD p) (pathD q) = some (decide (p = q)) := by
  rw [(path_tx hp (n := 0)).eqD (path_tx hq (n := 0)) (by decide) (.inr (.inl ⟨_, rfl⟩)), path_eqv hp]
theorem path_neC {p q : List Str} (hp : ∀ s ∈ p, OkW s) (hq : ∀ s ∈ q, OkW s) : cmpD .ne (pathD p) (pathD q) = some (!decide (p = q)) := by
  rw [cmpD, path_eqD hp hq]
  rfl
theorem path_eqC {p q : List Str} (hp : ∀ s ∈ p, OkW s) (hq : ∀ s ∈ q, OkW s) : cmpD .eq (pathD p) (pathD q) = some (decide (p = q)) := by
  rw [cmpD, path_eqD hp hq]
abbrev pathsT (ps : List (List Str)) : D := .tuple (ps.map pathD)
theorem paths_tx {ps : List (List Str)} (h : ∀ p ∈ ps, ∀ s ∈ p, OkW s) {n : Nat} : Tx (n + 2) (pathsT ps) := .tuple fun x hx => by
  obtain ⟨p, hp, rfl⟩ := List.mem_map.mp hx
  exact path_tx (h p hp)
theorem paths_txL {ps : List (List Str)} (h : ∀ p ∈ ps, ∀ s ∈ p, OkW s) {n : Nat} : Tx (n + 2) (.list (ps.map pathD)) := .list fun x hx => by
  obtain ⟨p, hp, rfl⟩ := List.mem_map.mp hx
  exact path_tx (h p hp)
theorem paths_eqD {p q : List (List Str)} (hp : ∀ x ∈ p, ∀ s ∈ x, OkW s) (hq : ∀ x ∈ q, ∀ s ∈ x, OkW s) : Ev.eqD (pathsT p) (pathsT q) = some (decide (p = q)) := by
  rw [(paths_tx hp (n := 0)).eqD (paths_tx hq (n := 0)) (by decide) (.inr (.inl ⟨_, rfl⟩))]
  congr 1
  rw [Bool.eq_iff_iff, (paths_tx hp (n := 0)).eqv, decide_eq_true_eq]
  exact ⟨fun h => pathsD_inj (by injection h), fun h => by rw [h]⟩
theorem paths_eqC {p q : List (List Str)} (hp : ∀ x ∈ p, ∀ s ∈ x, OkW s) (hq : ∀ x ∈ q, ∀ s ∈ x, OkW s) : cmpD .eq (pathsT p) (pathsT q) = some (decide (p = q)) := by
  rw [cmpD, paths_eqD hp hq]
theorem paths_neC {p q : List (List Str)} (hp : ∀ x ∈ p, ∀ s ∈ x, OkW s) (hq : ∀ x ∈ q, ∀ s ∈ x, OkW s) : cmpD .ne (pathsT p) (pathsT q) = some (!decide (p = q)) := by
  rw [cmpD, paths_eqD hp hq]
  rfl
/-! ### BASEs -/
def rowsL (ps : List (List Str)) : List (List Str) := srtS leP (DedS (ps.map (tid false)))
def overB (rs : List (List Str)) (r : List Str) : Bool := rs.any fun o => !decide (o = r) && mtB o r
def baseL (ps : List (List Str)) : List (List Str) := (rowsL ps).filter fun r => !overB (rowsL ps) r
theorem rowsL_mem {ps : List (List Str)} {r : List Str} : r ∈ rowsL ps ↔ ∃ p ∈ ps, tid false p = r := by
  unfold rowsL
  rw [srtS_mem, DedS_mem, List.mem_map]
theorem rowsL_len (ps : List (List Str)) : (rowsL ps).length ≤ ps.length := by
  unfold rowsL
  rw [srtS_len]
  exact Nat.le_trans DedS_len (by rw [List.length_map]; exact Nat.le_refl _)
theorem baseL_len (ps : List (List Str)) : (baseL ps).length ≤ ps.length := Nat.le_trans (List.length_filter_le ..) (rowsL_len ps)
theorem baseL_rows {ps : List (List Str)} {r : List Str} (h : r ∈ baseL ps) : r ∈ rowsL ps := (List.mem_filter.mp h).1
theorem tid_ne {p : List Str} (h : p ≠ []) : tid false p ≠ [] := by
  cases p with
  | nil => exact absurd rfl h
  | cons s p =>
    rw [tid]
    split
    · simp
    · simp
theorem tid_idem : ∀ (p : List Str) (b : Bool), tid b (tid b p) = tid b p
  | [], _ => rfl
  | s :: p, b => by
    by_cases e : s = "**"
    · cases b with
      | true => rw [tid, if_pos e, if_pos rfl, tid_idem p true]
      | false =>
        rw [tid, if_pos e, if_neg (by decide)]
        rw [tid, if_pos e, if_neg (by decide), tid_idem p true]
    · rw [tid, if_neg e, tid, if_neg e, tid_idem p false]
theorem tid_tid (p : List Str) : tid false (tid false p) = tid false p := tid_idem p false
structure OkP (p : List Str) : Prop where
  ne : p ≠ []
  ok : ∀ s ∈ p, OkW s
  len : p.length ≤ 100
theorem OkP.tid {p : List Str} (h : OkP p) : OkP (tid false p) := ⟨tid_ne h.ne, fun s hs => h.ok s (tid_mem p _ hs), Nat.le_trans (tid_len p false) h.len⟩
theorem rowsL_ok {ps : List (List Str)} (h : ∀ p ∈ ps, OkP p) : ∀ r ∈ rowsL ps, OkP r := fun r hr => by
  obtain ⟨p, hp, rfl⟩ := rowsL_mem.mp hr
  exact (h p hp).tid
theorem baseL_ok {ps : List (List Str)} (h : ∀ p ∈ ps, OkP p) : ∀ r ∈ baseL ps, OkP r := fun r hr => rowsL_ok h r (baseL_rows hr)
def BaseS (tbl : List Fn) (i : Nat) : Prop := ∀ n, 5 ≤ n → ∀ (dp : D) (L : List Rw), SqD dp (L.map rwD) → (∀ x ∈ L, OkP x.2) → L.length < 63 → evCall tbl n i [dp] = some (pathsT (baseL (L.map (·.2))), .sh, [])
theorem rows_set {L : List Rw} (hL : ∀ x ∈ L, OkP x.2) (hl : L.length < 63) : ssetD (.list (L.map fun x => pathD (tid false x.2))) = some (.list ((rowsL (L.map (·.2))).map pathD), .ow) := by
  have e : (L.map fun x => pathD (tid false x.2)) = ((L.map (·.2)).map (tid false)).map pathD := by rw [List.map_map, List.map_map]; rfl
  rw [e, ssetD_paths]
  · rfl
  · intro p hp
    obtain ⟨q, hq, rfl⟩ := List.mem_map.mp hp
    obtain ⟨x, hx, rfl⟩ := List.mem_map.mp hq
    exact (hL x hx).tid.ne
  · intro p hp
    obtain ⟨q, hq, rfl⟩ := List.mem_map.mp hp
    obtain ⟨x, hx, rfl⟩ := List.mem_map.mp hq
    exact (hL x hx).tid.ok
  · rw [List.length_map, List.length_map]
    exact hl
theorem rows_ok {L : List Rw} (hL : ∀ x ∈ L, OkP x.2) : ∀ r ∈ rowsL (L.map (·.2)), OkP r := rowsL_ok fun p hp => by
  obtain ⟨x, hx, rfl⟩ := List.mem_map.mp hp
  exact hL x hx
theorem tid_rows {ps : List (List Str)} {r : List Str} (h : r ∈ rowsL ps) : tid false r = r := by
  obtain ⟨p, _, rfl⟩ := rowsL_mem.mp h
  exact tid_tid p
theorem baseS {tbl : List Fn} {i j k : Nat} (h : tbl[i]? = some (F_base_of j k)) (hj : TidyS tbl j) (hk : CoversS tbl k) (hio : ioOf tbl j = [false]) (hio2 : ioOf tbl k = [false, false]) : BaseS tbl i := fun n hn dp L hd hL hl => by
  obtain ⟨n, rfl⟩ : ∃ n', n = n' + 1 := ⟨n - 1, by omega⟩
  have ok := rows_ok hL
  have ll := rowsL_len (L.map (·.2))
  rw [List.length_map] at ll
  rw [evCall_succ h]
  refine wT_eq (vO_fn rfl ?_)
  ac_rfl
  refine wE_compM L rwD (fun x => pathD (tid false x.2)) ?_
  ac_rfl
  refine wO_of hd.items ?_
  ac_rfl
  refine ⟨rfl, by show _ ≤ 16777216; omega, fun x hx => ?_, ?_⟩
  · ac_rfl
    refine wT_of (hj n (by omega) (rwD x) x.2 (rwD_D x) (by have := (hL x hx).len; omega)) ?_
    ac_rfl
    exact ⟨rfl, rfl⟩
  ac_rfl
  refine wP_of (rows_set hL hl) ?_
  ac_rfl
  refine wE_compF (rowsL (L.map (·.2))) (fun r => !overB (rowsL (L.map (·.2))) r) pathD pathD ?_
  ac_rfl
  refine ⟨rfl, by show _ ≤ 16777216; omega, fun r hr => ?_, ?_⟩
  · ac_rfl
    refine wE_compM (rowsL (L.map (·.2))) pathD (fun o => .bool (!decide (o = r) && mtB o r)) ?_
    ac_rfl
    refine ⟨rfl, by show _ ≤ 16777216; omega, fun o ho => ?_, ?_⟩
    · ac_rfl
      refine wO_of (path_neC (ok o ho).ok (ok r hr).ok) ?_
      ac_rfl
      refine ⟨fun q => ?_, fun q => ?_⟩
      · ac_rfl
        refine wT_of (hk n (by omega) _ _ o r (.inl rfl) (.inl rfl) (fun s hs => ((ok o ho).ok s hs).ok) (fun s hs => ((ok r hr).ok s hs).ok) (by have := (ok o ho).len; omega) (by have := (ok r hr).len; omega)) ?_
        rw [tid_rows hr]
        ac_rfl
        exact ⟨by rw [q]; rfl, rfl⟩
      · ac_rfl
        exact ⟨by rw [q]; rfl, rfl⟩
    ac_rfl
    refine wP_of (any_map _ _) ?_
    ac_rfl
    exact ⟨rfl, fun _ => by ac_rfl; exact ⟨rfl, rfl⟩, fun _ => rfl⟩
  ac_rfl
  exact ⟨rfl, rfl, rfl⟩
theorem filter_isEmpty {α : Type} (p : α → Bool) : ∀ l : List α, (l.filter p).isEmpty = !l.any p
  | [] => rfl
  | x :: l => by
    rw [List.filter_cons, List.any_cons]
    cases p x with
    | true => rfl
    | false => exact filter_isEmpty p l
theorem dueBS {tbl : List Fn} {i j k : Nat} (h : tbl[i]? = some (F_law_dueB j k)) (hj : CleanS tbl j) (hk : TakesS tbl k) (hio : ioOf tbl j = [false]) (hio2 : ioOf tbl k = [false, false]) : BaseS tbl i := fun n hn dp L hd hL hl => by
  obtain ⟨n, rfl⟩ : ∃ n', n = n' + 1 := ⟨n - 1, by omega⟩
  have ok := rows_ok hL
  have ll := rowsL_len (L.map (·.2))
  rw [List.length_map] at ll
  rw [evCall_succ h]
  refine wT_eq (vO_fn rfl ?_)
  ac_rfl
  refine wE_compM L rwD (fun x => pathD (tid false x.2)) ?_
  ac_rfl
  refine wO_of hd.items ?_
  ac_rfl
  refine ⟨rfl, by show _ ≤ 16777216; omega, fun x hx => ?_, ?_⟩
  · ac_rfl
    refine wT_of (hj n (by omega) (rwD x) x.2 (rwD_D x) (fun s hs => ((hL x hx).ok s hs).ok) (by have := (hL x hx).len; omega)) ?_
    ac_rfl
    exact ⟨rfl, rfl⟩
  ac_rfl
  refine wP_of (rows_set hL hl) ?_
  ac_rfl
  refine wE_compF (rowsL (L.map (·.2))) (fun r => !overB (rowsL (L.map (·.2))) r) pathD pathD ?_
  ac_rfl
  refine ⟨rfl, by show _ ≤ 16777216; omega, fun r hr => ?_, ?_⟩
  · ac_rfl
    refine wE_compF (rowsL (L.map (·.2))) (fun o => !decide (o = r) && mtB o r) pathD pathD ?_
    ac_rfl
    refine ⟨rfl, by show _ ≤ 16777216; omega, fun o ho => ?_, ?_⟩
    · ac_rfl
      refine wO_of (path_neC (ok o ho).ok (ok r hr).ok) ?_
      ac_rfl
      refine ⟨fun q => ?_, fun q => ?_⟩
      · ac_rfl
        refine wT_of (hk n (by omega) _ _ o r (.inl rfl) (.inl rfl) (fun s hs => ((ok o ho).ok s hs).ok) (fun s hs => ((ok r hr).ok s hs).ok) (ok o ho).ne (ok o ho).len (by have := (ok r hr).len; omega) fun x hx s hs => fitW ((ok o ho).ok x hx) ((ok r hr).ok s hs)) ?_
        ac_rfl
        exact ⟨by rw [q]; rfl, fun _ => by ac_rfl; exact ⟨rfl, rfl⟩, fun _ => rfl⟩
      · ac_rfl
        exact ⟨by rw [q]; rfl, fun z => (by rw [q] at z; cases z), fun _ => rfl⟩
    ac_rfl
    refine wO_of (eq_nil (paths_txL (n := 0) fun o ho => (ok o (List.mem_filter.mp ho).1).ok) (by decide)) ?_
    have e : ((((rowsL (L.map (·.2))).filter fun o => !decide (o = r) && mtB o r).map pathD).isEmpty) = !overB (rowsL (L.map (·.2))) r := by
      rw [List.isEmpty_map, filter_isEmpty]
      rfl
    ac_rfl
    exact ⟨e, fun _ => by ac_rfl; exact ⟨rfl, rfl⟩, fun _ => rfl⟩
  ac_rfl
  exact ⟨rfl, rfl, rfl⟩
/-! ### is_pattern, is_base -/
def isTT : Option (D × Fl × List D) → Bool
  | some (.bool true, .sh, []) => true
  | _ => false
theorem isTT_eq {x : Option (D × Fl × List D)} (h : isTT x = true) : x = some (.bool true, .sh, []) := by
  unfold isTT at h
  split at h
  · rfl
  · cases h
def PieceS (tbl : List Fn) (i : Nat) (S : List Str) : Prop := ∀ n, 4 ≤ n → ∀ s ∈ S, evCall tbl n i [.str s] = some (.bool true, .sh, [])
theorem pieceS {tbl : List Fn} {i : Nat} {S : List Str} (h : (S.all fun s => isTT (evCall tbl 4 i [.str s])) = true) : PieceS tbl i S := fun n hn s hs => evCall_le (isTT_eq (List.all_eq_true.mp h s hs)) hn
def PatternS (tbl : List Fn) (i : Nat) (S : List Str) : Prop := ∀ n, 5 ≤ n → ∀ p : List Str, p ≠ [] → p.length ≤ 100 → (∀ s ∈ p, s ∈ S) → evCall tbl n i [pathD p] = some (.bool true, .sh, [])
theorem patternS {tbl : List Fn} {i j : Nat} {S : List Str} (h : tbl[i]? = some (F_is_pattern j)) (hj : PieceS tbl j S) (hio : ioOf tbl j = [false]) : PatternS tbl i S := fun n hn p np lp hp => by
  obtain ⟨n, rfl⟩ : ∃ n', n = n' + 1 := ⟨n - 1, by omega⟩
  have elp : (p.map PyData.str).length = p.length := List.length_map _
  rw [evCall_succ h]
  refine wT_eq (vO_fn rfl ?_)
  ac_rfl
  refine ⟨fun q => ?_, fun q => ?_⟩
  · ac_rfl
    refine wE_compM p PyData.str (fun _ => .bool true) ?_
    ac_rfl
    refine ⟨rfl, by show _ ≤ 16777216; omega, fun s hs => ?_, ?_⟩
    · ac_rfl
      refine wT_of (hj n (by omega) s (hp s hs)) ?_
      ac_rfl
      exact ⟨rfl, rfl⟩
    ac_rfl
    refine wP_of (all_map _ _) ?_
    ac_rfl
    have e : (p.all fun _ => true) = true := by simp
    rw [e]
    exact ⟨rfl, rfl, rfl⟩
  · have : 0 < p.length := List.length_pos_iff.mpr np
    simp [elp] at q
    exact absurd q np
def IsBaseS (tbl : List Fn) (i : Nat) (S : List Str) : Prop := ∀ n, 6 ≤ n → ∀ ps : List (List Str), (∀ p ∈ ps, OkP p ∧ ∀ s ∈ p, s ∈ S) → ps.length < 63 → evCall tbl n i [pathsT ps] = some (.bool (decide (ps = baseL ps)), .sh, [])
def IsBaseL (tbl : List Fn) (i : Nat) : Prop := ∀ n, 1 ≤ n → ∀ xs : List D, evCall tbl n i [.list xs] = some (.bool false, .sh, [])
theorem isBaseL {tbl : List Fn} {i j k : Nat} (h : tbl[i]? = some (F_is_base j k)) : IsBaseL tbl i := fun n hn xs => by
  obtain ⟨n, rfl⟩ : ∃ n', n = n' + 1 := ⟨n - 1, by omega⟩
  rw [evCall_succ h]
  refine wT_eq (vO_fn rfl ?_)
  ac_rfl
  exact ⟨rfl, rfl, rfl⟩
theorem rwT (ps : List (List Str)) : ps.map pathD = (ps.map fun p => ((false, p) : Rw)).map rwD := by rw [List.map_map]; rfl
theorem rwT2 (ps : List (List Str)) : (ps.map fun p => ((false, p) : Rw)).map (·.2) = ps := by rw [List.map_map]; exact List.map_id' ps
theorem BaseS.tup {tbl : List Fn} {i : Nat} (h : BaseS tbl i) (n : Nat) (hn : 5 ≤ n) {dp : D} (ps : List (List Str)) (hd : SqD dp (ps.map pathD)) (hp : ∀ p ∈ ps, OkP p) (hl : ps.length < 63) : evCall tbl n i [dp] = some (pathsT (baseL ps), .sh, []) := by
  have := h n hn dp (ps.map fun p => ((false, p) : Rw)) (by rw [← rwT]; exact hd) (fun x hx => by
    obtain ⟨p, hp2, rfl⟩ := List.mem_map.mp hx
    exact hp p hp2) (by rw [List.length_map]; exact hl)
  rw [rwT2] at this
  exact this
theorem isBaseS {tbl : List Fn} {i j k : Nat} {S : List Str} (h : tbl[i]? = some (F_is_base j k)) (hj : PatternS tbl j S) (hk : BaseS tbl k) (hio : ioOf tbl j = [false]) (hio2 : ioOf tbl k = [false]) : IsBaseS tbl i S := fun n hn ps hp hl => by
  obtain ⟨n, rfl⟩ : ∃ n', n = n' + 1 := ⟨n - 1, by omega⟩
  rw [evCall_succ h]
  refine wT_eq (vO_fn rfl ?_)
  ac_rfl
  refine wE_compM ps pathD (fun _ => .bool true) ?_
  ac_rfl
  refine ⟨rfl, by show _ ≤ 16777216; omega, fun s hs => ?_, ?_⟩
  · ac_rfl
    refine wT_of (hj n (by omega) s (hp s hs).1.ne (hp s hs).1.len (hp s hs).2) ?_
    ac_rfl
    exact ⟨rfl, rfl⟩
  ac_rfl
  refine wP_of (all_map _ _) ?_
  have e : (ps.all fun _ => true) = true := by simp
  rw [e]
  ac_rfl
  refine wT_of (hk.tup n (by omega) ps (.inl rfl) (fun p hq => (hp p hq).1) hl) ?_
  ac_rfl
  refine wO_of (paths_eqC (fun p hq => (hp p hq).1.ok) fun p hq => (baseL_ok (fun p hq => (hp p hq).1) p hq).ok) ?_
  ac_rfl
  exact ⟨rfl, rfl, rfl⟩
/-! ### a BASE's BASE is itself -/
section
variable {α : Type} {le : α → α → Bool}
theorem insS_pw (ht : ∀ a b c, le a b = true → le b c = true → le a c = true) (hto : ∀ a b, le a b = true ∨ le b a = true) (x : α) : ∀ {l : List α}, l.Pairwise (fun a b => le a b = true) → (insS le x l).Pairwise (fun a b => le a b = true)
  | [], _ => by simp [insS]
  | y :: r, h => by
    rw [insS]
    have h2 := List.pairwise_cons.mp h
    split
    · rename_i e
      refine List.pairwise_cons.mpr ⟨fun z hz => ?_, h⟩
      rcases List.mem_cons.mp hz with rfl | hz
      · exact e
      · exact ht _ _ _ e (h2.1 z hz)
    · rename_i e
      refine List.pairwise_cons.mpr ⟨fun z hz => ?_, insS_pw ht hto x h2.2⟩
      rcases insS_mem.mp hz with rfl | hz
      · exact (hto z y).resolve_left e
      · exact h2.1 z hz
theorem srtS_pw (ht : ∀ a b c, le a b = true → le b c = true → le a c = true) (hto : ∀ a b, le a b = true ∨ le b a = true) : ∀ l : List α, (srtS le l).Pairwise (fun a b => le a b = true)
  | [] => .nil
  | x :: r => by
    rw [srtS]
    exact insS_pw ht hto x (srtS_pw ht hto r)
theorem srtS_id : ∀ {l : List α}, l.Pairwise (fun a b => le a b = true) → srtS le l = l
  | [], _ => rfl
  | x :: r, h => by
    have h2 := List.pairwise_cons.mp h
    rw [srtS, srtS_id h2.2]
    cases r with
    | nil => rfl
    | cons y r => rw [insS, if_pos (h2.1 y (by simp))]
theorem insS_perm (x : α) : ∀ l : List α, (insS le x l).Perm (x :: l)
  | [] => .refl _
  | y :: r => by
    rw [insS]
    split
    · exact .refl _
    · exact ((insS_perm x r).cons y).trans (.swap ..)
theorem srtS_perm : ∀ l : List α, (srtS le l).Perm l
  | [] => .refl _
  | x :: r => by
    rw [srtS]
    exact (insS_perm x _).trans ((srtS_perm r).cons x)
theorem foldl_addOne_id {β : Type} [DecidableEq β] : ∀ {xs acc : List β}, (acc ++ xs).Nodup → xs.foldl addOne acc = acc ++ xs
  | [], acc, _ => by simp
  | x :: xs, acc, h => by
    have hx : ¬ x ∈ acc := fun hx => by
      have := (List.nodup_append.mp h).2.2 x hx x (by simp)
      exact this rfl
    rw [List.foldl_cons]
    have e : addOne acc x = acc ++ [x] := by unfold addOne; rw [if_neg hx]
    rw [e, foldl_addOne_id (by rw [List.append_assoc]; exact h), List.append_assoc]
    rfl
theorem DedS_id {β : Type} [DecidableEq β] {xs : List β} (h : xs.Nodup) : DedS xs = xs := by
  have := foldl_addOne_id (xs := xs) (acc := []) h
  exact this
end
theorem leP_trans (a b c : List Str) (h1 : leP a b = true) (h2 : leP b c = true) : leP a c = true := leT_total.trans _ _ _ h1 h2
theorem leP_total (a b : List Str) : leP a b = true ∨ leP b a = true := leT_total.total _ _
theorem leP_anti {a b : List Str} (h1 : leP a b = true) (h2 : leP b a = true) : a = b := kS_inj (rankT (by
  show (leT (kS a) (kS b) && leT (kS b) (kS a)) = true
  rw [show leT (kS a) (kS b) = true from h1, show leT (kS b) (kS a) = true from h2]; rfl))
theorem rowsL_pw (ps : List (List Str)) : (rowsL ps).Pairwise (fun a b => leP a b = true) := srtS_pw leP_trans leP_total _
theorem rowsL_nodup (ps : List (List Str)) : (rowsL ps).Nodup := (srtS_perm _).nodup_iff.mpr DedS_nodup
theorem baseL_pw (ps : List (List Str)) : (baseL ps).Pairwise (fun a b => leP a b = true) := (rowsL_pw ps).sublist List.filter_sublist
theorem baseL_nodup (ps : List (List Str)) : (baseL ps).Nodup := (rowsL_nodup ps).sublist List.filter_sublist
theorem rowsL_id {B : List (List Str)} (h1 : B.Pairwise (fun a b => leP a b = true)) (h2 : B.Nodup) (h3 : ∀ r ∈ B, tid false r = r) : rowsL B = B := by
  unfold rowsL
  have e : B.map (tid false) = B := by
    conv => rhs; rw [← List.map_id B]
    exact List.map_congr_left fun r hr => h3 r hr
  rw [e, DedS_id h2, srtS_id h1]
theorem baseL_rowsB (ps : List (List Str)) : rowsL (baseL ps) = baseL ps := rowsL_id (baseL_pw ps) (baseL_nodup ps) fun r hr => tid_rows (baseL_rows hr)
theorem overB_iff {rs : List (List Str)} {r : List Str} : overB rs r = true ↔ ∃ o ∈ rs, o ≠ r ∧ mtB o r = true := by
  unfold overB
  rw [List.any_eq_true]
  simp
theorem baseL_mem {ps : List (List Str)} {r : List Str} : r ∈ baseL ps ↔ r ∈ rowsL ps ∧ ∀ o ∈ rowsL ps, o ≠ r → mtB o r = false := by
  unfold baseL
  rw [List.mem_filter]
  refine and_congr_right fun _ => ?_
  rw [Bool.not_eq_true', ← Bool.not_eq_true, overB_iff]
  constructor
  · intro h o ho ne
    cases e : mtB o r with
    | false => rfl
    | true => exact absurd ⟨o, ho, ne, e⟩ h
  · rintro h ⟨o, ho, ne, e⟩
    rw [h o ho ne] at e
    cases e
theorem baseL_idem (ps : List (List Str)) : baseL (baseL ps) = baseL ps := by
  show (rowsL (baseL ps)).filter (fun r => !overB (rowsL (baseL ps)) r) = baseL ps
  rw [baseL_rowsB]
  refine List.filter_eq_self.mpr fun r hr => ?_
  have := (baseL_mem.mp hr).2
  rw [Bool.not_eq_true', ← Bool.not_eq_true, overB_iff]
  rintro ⟨o, ho, ne, e⟩
  rw [this o (baseL_rows ho) ne] at e
  cases e
/-! ### parts of tuples of PATTERNs -/
theorem cutD_paths (B : List (List Str)) (lo hi : Option Int) : ∃ qs : List (List Str), cutD (B.map pathD) lo hi = qs.map pathD ∧ (∀ q ∈ qs, q ∈ B) ∧ qs.length ≤ B.length := by
  refine ⟨(B.drop (HT.sIx (B.map pathD).length 0 lo)).take (HT.sIx (B.map pathD).length (B.map pathD).length hi - HT.sIx (B.map pathD).length 0 lo), ?_, fun t ht => List.mem_of_mem_drop (List.mem_of_mem_take ht), ?_⟩
  · rw [cutD, List.map_take, List.map_drop]
  · rw [List.length_take, List.length_drop]
    omega
theorem lists_pathB (p : List Str) : listsD (pathD p) = rwD (true, p) := by
  rw [pathD, listsD, listsAll_map, lists_strs]
  rfl
end Ev.Pl


set_option Elab.async false
set_option linter.all false
set_option maxRecDepth 100000
set_option maxHeartbeats 4000000
namespace Ev
open PySem PySem.Spec PyProof.Rows L2
/-! ### the text -/
def topS (i : Nat) : Stmt := PySem.Challenge.pw_exceptionturns_k04_bases_or_none.main.body.getD i (.Pass ⟨0, 0, 0, 0⟩)
def cns : List (Str × D) := [("LETTERS", .str "abcdefghijklmnopqrstuvwxyz0123456789"), ("POINT", .str "."), ("STAR", .str "*"), ("MANY", .str "**"), ("MOST_STEMS", .int 2)]
def kwl : List (Str × Nat × List Str × List Nat) := [("is_base", 0, ["thing"], [0]), ("base_of", 0, ["patterns"], [0])]
def e0 : FE := ⟨"is_stem", topS 6, ["text", "sign"], ["text"], [false]⟩
def e1 : FE := ⟨"is_name", topS 7, ["thing", "stems", "stem"], ["thing"], [false]⟩
def e2 : FE := ⟨"ending_of", topS 8, ["piece"], ["piece"], [false]⟩
def e3 : FE := ⟨"is_piece", topS 9, ["thing"], ["thing"], [false]⟩
def e4 : FE := ⟨"is_pattern", topS 10, ["thing", "part"], ["thing"], [false]⟩
def e5 : FE := ⟨"tidy", topS 11, ["pattern", "found", "piece"], ["pattern"], [false]⟩
def e6 : FE := ⟨"fits", topS 12, ["piece", "sign"], ["piece", "sign"], [false, false]⟩
def e7 : FE := ⟨"table_of", topS 13, ["pattern", "row", "found", "at", "spot"], ["pattern", "row"], [false, false]⟩
def e8 : FE := ⟨"covers", topS 14, ["pattern", "other"], ["pattern", "other"], [false, false]⟩
def e9 : FE := ⟨"base_of", topS 15, ["patterns", "rows", "row", "pattern", "other"], ["patterns"], [false]⟩
def e10 : FE := ⟨"is_base", topS 16, ["thing", "part"], ["thing"], [false]⟩
def e11 : FE := ⟨"_law_box", topS 18, ["_law_script", "_law_k", "_law_cell"], ["_law_script", "_law_k"], [false, false]⟩
def e12 : FE := ⟨"_law_take", topS 19, ["_law_box_here", "_law_top_so", "_law_once", "_law_far", "_law_twice", "_law_digit_so"], ["_law_box_here", "_law_top_so"], [true, false]⟩
def e13 : FE := ⟨"_law_cells", topS 20, ["_law_script", "_law_most", "_law_cells_here", "_law_k", "_law_cell", "_law_at_so"], ["_law_script", "_law_most"], [false, false]⟩
def e14 : FE := ⟨"_law_of", topS 21, ["_law_box_here", "_law_some"], ["_law_box_here", "_law_some"], [true, false]⟩
def e15 : FE := ⟨"_law_pick", topS 22, ["_law_box_here", "_law_pool", "_law_size_so", "_law_turn", "_law_rest", "_law_some"], ["_law_box_here", "_law_pool", "_law_size_so"], [true, false, false]⟩
def e16 : FE := ⟨"_law_lists", topS 23, ["_law_matter", "_law_bit"], ["_law_matter"], [false]⟩
def e17 : FE := ⟨"_law_same", topS 24, ["_law_got", "_law_due_here", "_law_own", "_law_mine", "_law_its"], ["_law_got", "_law_due_here"], [false, false]⟩
def e18 : FE := ⟨"_law_tags", topS 25, ["_law_box_here", "_law_many_so", "_law_pool"], ["_law_box_here", "_law_many_so"], [true, false]⟩
def e19 : FE := ⟨"_law_ending", topS 26, ["_law_mark"], ["_law_mark"], [false]⟩
def e20 : FE := ⟨"_law_mesh", topS 27, ["_law_box_here", "_law_tags_here", "_law_most", "_law_found", "_law_turn", "_law_way_so"], ["_law_box_here", "_law_tags_here", "_law_most"], [true, false, false]⟩
def e21 : FE := ⟨"_law_clean", topS 28, ["_law_mesh_here", "_law_found", "_law_bit"], ["_law_mesh_here"], [false]⟩
def e22 : FE := ⟨"_law_fits", topS 29, ["_law_bit", "_law_mark"], ["_law_bit", "_law_mark"], [false, false]⟩
def e23 : FE := ⟨"_law_takes", topS 30, ["_law_mesh_here", "_law_trail", "_law_here", "_law_turn", "_law_mark", "_law_k", "_law_after_so"], ["_law_mesh_here", "_law_trail"], [false, false]⟩
def e24 : FE := ⟨"_law_due", topS 31, ["_law_meshes", "_law_clean_here", "_law_own", "_law_mesh_here", "_law_far"], ["_law_meshes"], [false]⟩
def e25 : FE := ⟨"_law_hand_right", topS 32, ["_law_got_so", "_law_due_here", "_law_some", "_law_none", "_law_k", "_law_own"], [], []⟩
def e26 : FE := ⟨"_law_right", topS 33, ["_law_box_here", "_law_turn", "_law_tags_here", "_law_meshes", "_law_due_here", "_law_got_so", "_law_k", "_law_some", "_law_own", "_law_lap", "_law_is_so"], ["_law_box_here"], [true]⟩
def e27 : FE := ⟨"law", topS 34, ["_law_script", "_law_cells_here", "_law_k"], ["_law_script"], [false]⟩
def fes : List FE := [e0, e1, e2, e3, e4, e5, e6, e7, e8, e9, e10, e11, e12, e13, e14, e15, e16, e17, e18, e19, e20, e21, e22, e23, e24, e25, e26, e27]
def dks : List (Nat × Nat) := [(115, 24)]
def gc : GC := ⟨fnsOf fes 0, cns, kwl, dks⟩
theorem s0 : FnSt gc e0 := ⟨⟨rfl, rfl, rfl, by decide +kernel, rfl, by decide +kernel, by decide +kernel⟩, rfl, fun _ _ _ _ _ _ us hl => match us, hl with | [_], _ => rfl, kw_list (R := fun m ns perm => ∀ (kV doc pm : Value) (an : Option Addr) (cdv ct : Value) (us ws : List Value), us.length = m → ws.length = ns.length → bindArgs (PySem.W.fnOf e0.name e0.name (defArgs e0.st) (defBody e0.st) (defScope e0.st) .none kV doc pm an cdv ct) ⟨us, ns.zip ws⟩ = pure (e0.ps.zip (permL perm (us ++ ws)))) (l := []) (by decide +kernel) (fun e he => by cases he)⟩
theorem s1 : FnSt gc e1 := ⟨⟨rfl, rfl, rfl, by decide +kernel, rfl, by decide +kernel, by decide +kernel⟩, rfl, fun _ _ _ _ _ _ us hl => match us, hl with | [_], _ => rfl, kw_list (R := fun m ns perm => ∀ (kV doc pm : Value) (an : Option Addr) (cdv ct : Value) (us ws : List Value), us.length = m → ws.length = ns.length → bindArgs (PySem.W.fnOf e1.name e1.name (defArgs e1.st) (defBody e1.st) (defScope e1.st) .none kV doc pm an cdv ct) ⟨us, ns.zip ws⟩ = pure (e1.ps.zip (permL perm (us ++ ws)))) (l := []) (by decide +kernel) (fun e he => by cases he)⟩
theorem s2 : FnSt gc e2 := ⟨⟨rfl, rfl, rfl, by decide +kernel, rfl, by decide +kernel, by decide +kernel⟩, rfl, fun _ _ _ _ _ _ us hl => match us, hl with | [_], _ => rfl, kw_list (R := fun m ns perm => ∀ (kV doc pm : Value) (an : Option Addr) (cdv ct : Value) (us ws : List Value), us.length = m → ws.length = ns.length → bindArgs (PySem.W.fnOf e2.name e2.name (defArgs e2.st) (defBody e2.st) (defScope e2.st) .none kV doc pm an cdv ct) ⟨us, ns.zip ws⟩ = pure (e2.ps.zip (permL perm (us ++ ws)))) (l := []) (by decide +kernel) (fun e he => by cases he)⟩
theorem s3 : FnSt gc e3 := ⟨⟨rfl, rfl, rfl, by decide +kernel, rfl, by decide +kernel, by decide +kernel⟩, rfl, fun _ _ _ _ _ _ us hl => match us, hl with | [_], _ => rfl, kw_list (R := fun m ns perm => ∀ (kV doc pm : Value) (an : Option Addr) (cdv ct : Value) (us ws : List Value), us.length = m → ws.length = ns.length → bindArgs (PySem.W.fnOf e3.name e3.name (defArgs e3.st) (defBody e3.st) (defScope e3.st) .none kV doc pm an cdv ct) ⟨us, ns.zip ws⟩ = pure (e3.ps.zip (permL perm (us ++ ws)))) (l := []) (by decide +kernel) (fun e he => by cases he)⟩
theorem s4 : FnSt gc e4 := ⟨⟨rfl, rfl, rfl, by decide +kernel, rfl, by decide +kernel, by decide +kernel⟩, rfl, fun _ _ _ _ _ _ us hl => match us, hl with | [_], _ => rfl, kw_list (R := fun m ns perm => ∀ (kV doc pm : Value) (an : Option Addr) (cdv ct : Value) (us ws : List Value), us.length = m → ws.length = ns.length → bindArgs (PySem.W.fnOf e4.name e4.name (defArgs e4.st) (defBody e4.st) (defScope e4.st) .none kV doc pm an cdv ct) ⟨us, ns.zip ws⟩ = pure (e4.ps.zip (permL perm (us ++ ws)))) (l := []) (by decide +kernel) (fun e he => by cases he)⟩
theorem s5 : FnSt gc e5 := ⟨⟨rfl, rfl, rfl, by decide +kernel, rfl, by decide +kernel, by decide +kernel⟩, rfl, fun _ _ _ _ _ _ us hl => match us, hl with | [_], _ => rfl, kw_list (R := fun m ns perm => ∀ (kV doc pm : Value) (an : Option Addr) (cdv ct : Value) (us ws : List Value), us.length = m → ws.length = ns.length → bindArgs (PySem.W.fnOf e5.name e5.name (defArgs e5.st) (defBody e5.st) (defScope e5.st) .none kV doc pm an cdv ct) ⟨us, ns.zip ws⟩ = pure (e5.ps.zip (permL perm (us ++ ws)))) (l := []) (by decide +kernel) (fun e he => by cases he)⟩
theorem s6 : FnSt gc e6 := ⟨⟨rfl, rfl, rfl, by decide +kernel, rfl, by decide +kernel, by decide +kernel⟩, rfl, fun _ _ _ _ _ _ us hl => match us, hl with | [_, _], _ => rfl, kw_list (R := fun m ns perm => ∀ (kV doc pm : Value) (an : Option Addr) (cdv ct : Value) (us ws : List Value), us.length = m → ws.length = ns.length → bindArgs (PySem.W.fnOf e6.name e6.name (defArgs e6.st) (defBody e6.st) (defScope e6.st) .none kV doc pm an cdv ct) ⟨us, ns.zip ws⟩ = pure (e6.ps.zip (permL perm (us ++ ws)))) (l := []) (by decide +kernel) (fun e he => by cases he)⟩
theorem s7 : FnSt gc e7 := ⟨⟨rfl, rfl, rfl, by decide +kernel, rfl, by decide +kernel, by decide +kernel⟩, rfl, fun _ _ _ _ _ _ us hl => match us, hl with | [_, _], _ => rfl, kw_list (R := fun m ns perm => ∀ (kV doc pm : Value) (an : Option Addr) (cdv ct : Value) (us ws : List Value), us.length = m → ws.length = ns.length → bindArgs (PySem.W.fnOf e7.name e7.name (defArgs e7.st) (defBody e7.st) (defScope e7.st) .none kV doc pm an cdv ct) ⟨us, ns.zip ws⟩ = pure (e7.ps.zip (permL perm (us ++ ws)))) (l := []) (by decide +kernel) (fun e he => by cases he)⟩
theorem s8 : FnSt gc e8 := ⟨⟨rfl, rfl, rfl, by decide +kernel, rfl, by decide +kernel, by decide +kernel⟩, rfl, fun _ _ _ _ _ _ us hl => match us, hl with | [_, _], _ => rfl, kw_list (R := fun m ns perm => ∀ (kV doc pm : Value) (an : Option Addr) (cdv ct : Value) (us ws : List Value), us.length = m → ws.length = ns.length → bindArgs (PySem.W.fnOf e8.name e8.name (defArgs e8.st) (defBody e8.st) (defScope e8.st) .none kV doc pm an cdv ct) ⟨us, ns.zip ws⟩ = pure (e8.ps.zip (permL perm (us ++ ws)))) (l := []) (by decide +kernel) (fun e he => by cases he)⟩
theorem s9 : FnSt gc e9 := ⟨⟨rfl, rfl, rfl, by decide +kernel, rfl, by decide +kernel, by decide +kernel⟩, rfl, fun _ _ _ _ _ _ us hl => match us, hl with | [_], _ => rfl, kw_list (R := fun m ns perm => ∀ (kV doc pm : Value) (an : Option Addr) (cdv ct : Value) (us ws : List Value), us.length = m → ws.length = ns.length → bindArgs (PySem.W.fnOf e9.name e9.name (defArgs e9.st) (defBody e9.st) (defScope e9.st) .none kV doc pm an cdv ct) ⟨us, ns.zip ws⟩ = pure (e9.ps.zip (permL perm (us ++ ws)))) (l := [("base_of", 0, ["patterns"], [0])]) (by decide +kernel) (fun e he => by
    cases he with
    | head => exact fun _ _ _ _ _ _ us ws h1 h2 => match us, ws, h1, h2 with | [], [_], _, _ => rfl
    | tail _ he =>
      cases he)⟩
theorem s10 : FnSt gc e10 := ⟨⟨rfl, rfl, rfl, by decide +kernel, rfl, by decide +kernel, by decide +kernel⟩, rfl, fun _ _ _ _ _ _ us hl => match us, hl with | [_], _ => rfl, kw_list (R := fun m ns perm => ∀ (kV doc pm : Value) (an : Option Addr) (cdv ct : Value) (us ws : List Value), us.length = m → ws.length = ns.length → bindArgs (PySem.W.fnOf e10.name e10.name (defArgs e10.st) (defBody e10.st) (defScope e10.st) .none kV doc pm an cdv ct) ⟨us, ns.zip ws⟩ = pure (e10.ps.zip (permL perm (us ++ ws)))) (l := [("is_base", 0, ["thing"], [0])]) (by decide +kernel) (fun e he => by
    cases he with
    | head => exact fun _ _ _ _ _ _ us ws h1 h2 => match us, ws, h1, h2 with | [], [_], _, _ => rfl
    | tail _ he =>
      cases he)⟩
theorem s11 : FnSt gc e11 := ⟨⟨rfl, rfl, rfl, by decide +kernel, rfl, by decide +kernel, by decide +kernel⟩, rfl, fun _ _ _ _ _ _ us hl => match us, hl with | [_, _], _ => rfl, kw_list (R := fun m ns perm => ∀ (kV doc pm : Value) (an : Option Addr) (cdv ct : Value) (us ws : List Value), us.length = m → ws.length = ns.length → bindArgs (PySem.W.fnOf e11.name e11.name (defArgs e11.st) (defBody e11.st) (defScope e11.st) .none kV doc pm an cdv ct) ⟨us, ns.zip ws⟩ = pure (e11.ps.zip (permL perm (us ++ ws)))) (l := []) (by decide +kernel) (fun e he => by cases he)⟩
theorem s12 : FnSt gc e12 := ⟨⟨rfl, rfl, rfl, by decide +kernel, rfl, by decide +kernel, by decide +kernel⟩, rfl, fun _ _ _ _ _ _ us hl => match us, hl with | [_, _], _ => rfl, kw_list (R := fun m ns perm => ∀ (kV doc pm : Value) (an : Option Addr) (cdv ct : Value) (us ws : List Value), us.length = m → ws.length = ns.length → bindArgs (PySem.W.fnOf e12.name e12.name (defArgs e12.st) (defBody e12.st) (defScope e12.st) .none kV doc pm an cdv ct) ⟨us, ns.zip ws⟩ = pure (e12.ps.zip (permL perm (us ++ ws)))) (l := []) (by decide +kernel) (fun e he => by cases he)⟩
theorem s13 : FnSt gc e13 := ⟨⟨rfl, rfl, rfl, by decide +kernel, rfl, by decide +kernel, by decide +kernel⟩, rfl, fun _ _ _ _ _ _ us hl => match us, hl with | [_, _], _ => rfl, kw_list (R := fun m ns perm => ∀ (kV doc pm : Value) (an : Option Addr) (cdv ct : Value) (us ws : List Value), us.length = m → ws.length = ns.length → bindArgs (PySem.W.fnOf e13.name e13.name (defArgs e13.st) (defBody e13.st) (defScope e13.st) .none kV doc pm an cdv ct) ⟨us, ns.zip ws⟩ = pure (e13.ps.zip (permL perm (us ++ ws)))) (l := []) (by decide +kernel) (fun e he => by cases he)⟩
theorem s14 : FnSt gc e14 := ⟨⟨rfl, rfl, rfl, by decide +kernel, rfl, by decide +kernel, by decide +kernel⟩, rfl, fun _ _ _ _ _ _ us hl => match us, hl with | [_, _], _ => rfl, kw_list (R := fun m ns perm => ∀ (kV doc pm : Value) (an : Option Addr) (cdv ct : Value) (us ws : List Value), us.length = m → ws.length = ns.length → bindArgs (PySem.W.fnOf e14.name e14.name (defArgs e14.st) (defBody e14.st) (defScope e14.st) .none kV doc pm an cdv ct) ⟨us, ns.zip ws⟩ = pure (e14.ps.zip (permL perm (us ++ ws)))) (l := []) (by decide +kernel) (fun e he => by cases he)⟩
theorem s15 : FnSt gc e15 := ⟨⟨rfl, rfl, rfl, by decide +kernel, rfl, by decide +kernel, by decide +kernel⟩, rfl, fun _ _ _ _ _ _ us hl => match us, hl with | [_, _, _], _ => rfl, kw_list (R := fun m ns perm => ∀ (kV doc pm : Value) (an : Option Addr) (cdv ct : Value) (us ws : List Value), us.length = m → ws.length = ns.length → bindArgs (PySem.W.fnOf e15.name e15.name (defArgs e15.st) (defBody e15.st) (defScope e15.st) .none kV doc pm an cdv ct) ⟨us, ns.zip ws⟩ = pure (e15.ps.zip (permL perm (us ++ ws)))) (l := []) (by decide +kernel) (fun e he => by cases he)⟩
theorem s16 : FnSt gc e16 := ⟨⟨rfl, rfl, rfl, by decide +kernel, rfl, by decide +kernel, by decide +kernel⟩, rfl, fun _ _ _ _ _ _ us hl => match us, hl with | [_], _ => rfl, kw_list (R := fun m ns perm => ∀ (kV doc pm : Value) (an : Option Addr) (cdv ct : Value) (us ws : List Value), us.length = m → ws.length = ns.length → bindArgs (PySem.W.fnOf e16.name e16.name (defArgs e16.st) (defBody e16.st) (defScope e16.st) .none kV doc pm an cdv ct) ⟨us, ns.zip ws⟩ = pure (e16.ps.zip (permL perm (us ++ ws)))) (l := []) (by decide +kernel) (fun e he => by cases he)⟩
theorem s17 : FnSt gc e17 := ⟨⟨rfl, rfl, rfl, by decide +kernel, rfl, by decide +kernel, by decide +kernel⟩, rfl, fun _ _ _ _ _ _ us hl => match us, hl with | [_, _], _ => rfl, kw_list (R := fun m ns perm => ∀ (kV doc pm : Value) (an : Option Addr) (cdv ct : Value) (us ws : List Value), us.length = m → ws.length = ns.length → bindArgs (PySem.W.fnOf e17.name e17.name (defArgs e17.st) (defBody e17.st) (defScope e17.st) .none kV doc pm an cdv ct) ⟨us, ns.zip ws⟩ = pure (e17.ps.zip (permL perm (us ++ ws)))) (l := []) (by decide +kernel) (fun e he => by cases he)⟩
theorem s18 : FnSt gc e18 := ⟨⟨rfl, rfl, rfl, by decide +kernel, rfl, by decide +kernel, by decide +kernel⟩, rfl, fun _ _ _ _ _ _ us hl => match us, hl with | [_, _], _ => rfl, kw_list (R := fun m ns perm => ∀ (kV doc pm : Value) (an : Option Addr) (cdv ct : Value) (us ws : List Value), us.length = m → ws.length = ns.length → bindArgs (PySem.W.fnOf e18.name e18.name (defArgs e18.st) (defBody e18.st) (defScope e18.st) .none kV doc pm an cdv ct) ⟨us, ns.zip ws⟩ = pure (e18.ps.zip (permL perm (us ++ ws)))) (l := []) (by decide +kernel) (fun e he => by cases he)⟩
theorem s19 : FnSt gc e19 := ⟨⟨rfl, rfl, rfl, by decide +kernel, rfl, by decide +kernel, by decide +kernel⟩, rfl, fun _ _ _ _ _ _ us hl => match us, hl with | [_], _ => rfl, kw_list (R := fun m ns perm => ∀ (kV doc pm : Value) (an : Option Addr) (cdv ct : Value) (us ws : List Value), us.length = m → ws.length = ns.length → bindArgs (PySem.W.fnOf e19.name e19.name (defArgs e19.st) (defBody e19.st) (defScope e19.st) .none kV doc pm an cdv ct) ⟨us, ns.zip ws⟩ = pure (e19.ps.zip (permL perm (us ++ ws)))) (l := []) (by decide +kernel) (fun e he => by cases he)⟩
theorem s20 : FnSt gc e20 := ⟨⟨rfl, rfl, rfl, by decide +kernel, rfl, by decide +kernel, by decide +kernel⟩, rfl, fun _ _ _ _ _ _ us hl => match us, hl with | [_, _, _], _ => rfl, kw_list (R := fun m ns perm => ∀ (kV doc pm : Value) (an : Option Addr) (cdv ct : Value) (us ws : List Value), us.length = m → ws.length = ns.length → bindArgs (PySem.W.fnOf e20.name e20.name (defArgs e20.st) (defBody e20.st) (defScope e20.st) .none kV doc pm an cdv ct) ⟨us, ns.zip ws⟩ = pure (e20.ps.zip (permL perm (us ++ ws)))) (l := []) (by decide +kernel) (fun e he => by cases he)⟩
theorem s21 : FnSt gc e21 := ⟨⟨rfl, rfl, rfl, by decide +kernel, rfl, by decide +kernel, by decide +kernel⟩, rfl, fun _ _ _ _ _ _ us hl => match us, hl with | [_], _ => rfl, kw_list (R := fun m ns perm => ∀ (kV doc pm : Value) (an : Option Addr) (cdv ct : Value) (us ws : List Value), us.length = m → ws.length = ns.length → bindArgs (PySem.W.fnOf e21.name e21.name (defArgs e21.st) (defBody e21.st) (defScope e21.st) .none kV doc pm an cdv ct) ⟨us, ns.zip ws⟩ = pure (e21.ps.zip (permL perm (us ++ ws)))) (l := []) (by decide +kernel) (fun e he => by cases he)⟩
theorem s22 : FnSt gc e22 := ⟨⟨rfl, rfl, rfl, by decide +kernel, rfl, by decide +kernel, by decide +kernel⟩, rfl, fun _ _ _ _ _ _ us hl => match us, hl with | [_, _], _ => rfl, kw_list (R := fun m ns perm => ∀ (kV doc pm : Value) (an : Option Addr) (cdv ct : Value) (us ws : List Value), us.length = m → ws.length = ns.length → bindArgs (PySem.W.fnOf e22.name e22.name (defArgs e22.st) (defBody e22.st) (defScope e22.st) .none kV doc pm an cdv ct) ⟨us, ns.zip ws⟩ = pure (e22.ps.zip (permL perm (us ++ ws)))) (l := []) (by decide +kernel) (fun e he => by cases he)⟩
theorem s23 : FnSt gc e23 := ⟨⟨rfl, rfl, rfl, by decide +kernel, rfl, by decide +kernel, by decide +kernel⟩, rfl, fun _ _ _ _ _ _ us hl => match us, hl with | [_, _], _ => rfl, kw_list (R := fun m ns perm => ∀ (kV doc pm : Value) (an : Option Addr) (cdv ct : Value) (us ws : List Value), us.length = m → ws.length = ns.length → bindArgs (PySem.W.fnOf e23.name e23.name (defArgs e23.st) (defBody e23.st) (defScope e23.st) .none kV doc pm an cdv ct) ⟨us, ns.zip ws⟩ = pure (e23.ps.zip (permL perm (us ++ ws)))) (l := []) (by decide +kernel) (fun e he => by cases he)⟩
theorem s24 : FnSt gc e24 := ⟨⟨rfl, rfl, rfl, by decide +kernel, rfl, by decide +kernel, by decide +kernel⟩, rfl, fun _ _ _ _ _ _ us hl => match us, hl with | [_], _ => rfl, kw_list (R := fun m ns perm => ∀ (kV doc pm : Value) (an : Option Addr) (cdv ct : Value) (us ws : List Value), us.length = m → ws.length = ns.length → bindArgs (PySem.W.fnOf e24.name e24.name (defArgs e24.st) (defBody e24.st) (defScope e24.st) .none kV doc pm an cdv ct) ⟨us, ns.zip ws⟩ = pure (e24.ps.zip (permL perm (us ++ ws)))) (l := []) (by decide +kernel) (fun e he => by cases he)⟩
theorem s25 : FnSt gc e25 := ⟨⟨rfl, rfl, rfl, by decide +kernel, rfl, by decide +kernel, by decide +kernel⟩, rfl, fun _ _ _ _ _ _ us hl => match us, hl with | [], _ => rfl, kw_list (R := fun m ns perm => ∀ (kV doc pm : Value) (an : Option Addr) (cdv ct : Value) (us ws : List Value), us.length = m → ws.length = ns.length → bindArgs (PySem.W.fnOf e25.name e25.name (defArgs e25.st) (defBody e25.st) (defScope e25.st) .none kV doc pm an cdv ct) ⟨us, ns.zip ws⟩ = pure (e25.ps.zip (permL perm (us ++ ws)))) (l := []) (by decide +kernel) (fun e he => by cases he)⟩
theorem s26 : FnSt gc e26 := ⟨⟨rfl, rfl, rfl, by decide +kernel, rfl, by decide +kernel, by decide +kernel⟩, rfl, fun _ _ _ _ _ _ us hl => match us, hl with | [_], _ => rfl, kw_list (R := fun m ns perm => ∀ (kV doc pm : Value) (an : Option Addr) (cdv ct : Value) (us ws : List Value), us.length = m → ws.length = ns.length → bindArgs (PySem.W.fnOf e26.name e26.name (defArgs e26.st) (defBody e26.st) (defScope e26.st) .none kV doc pm an cdv ct) ⟨us, ns.zip ws⟩ = pure (e26.ps.zip (permL perm (us ++ ws)))) (l := []) (by decide +kernel) (fun e he => by cases he)⟩
theorem s27 : FnSt gc e27 := ⟨⟨rfl, rfl, rfl, by decide +kernel, rfl, by decide +kernel, by decide +kernel⟩, rfl, fun _ _ _ _ _ _ us hl => match us, hl with | [_], _ => rfl, kw_list (R := fun m ns perm => ∀ (kV doc pm : Value) (an : Option Addr) (cdv ct : Value) (us ws : List Value), us.length = m → ws.length = ns.length → bindArgs (PySem.W.fnOf e27.name e27.name (defArgs e27.st) (defBody e27.st) (defScope e27.st) .none kV doc pm an cdv ct) ⟨us, ns.zip ws⟩ = pure (e27.ps.zip (permL perm (us ++ ws)))) (l := []) (by decide +kernel) (fun e he => by cases he)⟩
end Ev


set_option Elab.async false
set_option linter.all false
set_option maxRecDepth 100000
set_option maxHeartbeats 4000000
namespace Ev
open PySem PySem.Spec PyProof.Rows L2
/-- is_stem -/
def b0 : S := (.ret (.and (.cmp .gt (.blt .len (.cons (.var 0) .nil)) (.cst (.int 0))) (.blt .all (.cons (.comp [1] (.name 1) (.seq (.var 0)) .no (.cmp .isin (.var 1) (.cst (.str "abcdefghijklmnopqrstuvwxyz0123456789")))) .nil))))
/-- is_name -/
def b1 : S := (.seq (.ite (.not (.isi (.var 0) [.str]))
 (.ret (.cst (.bool false)))
 .pass)
 (.seq (.set 1 (.mth .split (.var 0) (.cons (.cst (.str ".")) .nil)))
 (.ret (.and (.cmp .le (.blt .len (.cons (.var 1) .nil)) (.cst (.int 2))) (.blt .all (.cons (.comp [2] (.name 2) (.seq (.var 1)) .no (.call 0 (.cons (.var 2) .nil))) .nil))))))
/-- ending_of -/
def b2 : S := (.ret (.ife (.cmp .isin (.cst (.str ".")) (.var 0)) (.slc (.var 0) (.yes (.mth .index (.var 0) (.cons (.cst (.str ".")) .nil))) .no) (.cst (.str ""))))
/-- is_piece -/
def b3 : S := (.seq (.ite (.not (.isi (.var 0) [.str]))
 (.ret (.cst (.bool false)))
 .pass)
 (.ret (.or (.cmp .eq (.var 0) (.cst (.str "**"))) (.or (.call 1 (.cons (.var 0) .nil)) (.and (.cmp .eq (.slc (.var 0) .no (.yes (.cst (.int 2)))) (.bin .add (.cst (.str "*")) (.cst (.str ".")))) (.call 0 (.cons (.slc (.var 0) (.yes (.cst (.int 2))) .no) .nil)))))))
/-- is_pattern -/
def b4 : S := (.ret (.and (.isi (.var 0) [.tuple]) (.and (.cmp .gt (.blt .len (.cons (.var 0) .nil)) (.cst (.int 0))) (.blt .all (.cons (.comp [1] (.name 1) (.seq (.var 0)) .no (.call 3 (.cons (.var 1) .nil))) .nil)))))
/-- tidy -/
def b5 : S := (.seq (.set 1 (.lst .nil))
 (.seq (.for_ (.name 2) (.seq (.var 0))
 (.ite (.or (.cmp .ne (.var 2) (.cst (.str "**"))) (.or (.cmp .eq (.blt .len (.cons (.var 1) .nil)) (.cst (.int 0))) (.cmp .ne (.ix (.var 1) (.neg (.cst (.int 1)))) (.cst (.str "**")))))
 (.app 1 (.var 2))
 .pass))
 (.ret (.blt .tuple (.cons (.var 1) .nil)))))
/-- fits -/
def b6 : S := (.ret (.or (.cmp .eq (.var 0) (.var 1)) (.and (.cmp .eq (.ix (.var 0) (.cst (.int 0))) (.cst (.str "*"))) (.and (.cmp .ne (.var 1) (.cst (.str "**"))) (.cmp .eq (.call 2 (.cons (.var 1) .nil)) (.slc (.var 0) (.yes (.cst (.int 1))) .no))))))
/-- table_of -/
def b7 : S := (.seq (.set 2 .dct)
 (.seq (.for_ (.name 3) (.range3 (.blt .len (.cons (.var 0) .nil)) (.neg (.cst (.int 1))) (.neg (.cst (.int 1))))
 (.for_ (.name 4) (.range3 (.blt .len (.cons (.var 1) .nil)) (.neg (.cst (.int 1))) (.neg (.cst (.int 1))))
 (.ite (.cmp .eq (.var 3) (.blt .len (.cons (.var 0) .nil)))
 (.put 2 (.tup (.cons (.var 3) (.cons (.var 4) .nil))) (.cmp .eq (.var 4) (.blt .len (.cons (.var 1) .nil))))
 (.ite (.cmp .eq (.ix (.var 0) (.var 3)) (.cst (.str "**")))
 (.put 2 (.tup (.cons (.var 3) (.cons (.var 4) .nil))) (.or (.ix (.var 2) (.tup (.cons (.bin .add (.var 3) (.cst (.int 1))) (.cons (.var 4) .nil)))) (.and (.cmp .lt (.var 4) (.blt .len (.cons (.var 1) .nil))) (.ix (.var 2) (.tup (.cons (.var 3) (.cons (.bin .add (.var 4) (.cst (.int 1))) .nil)))))))
 (.put 2 (.tup (.cons (.var 3) (.cons (.var 4) .nil))) (.and (.cmp .lt (.var 4) (.blt .len (.cons (.var 1) .nil))) (.and (.call 6 (.cons (.ix (.var 0) (.var 3)) (.cons (.ix (.var 1) (.var 4)) .nil))) (.ix (.var 2) (.tup (.cons (.bin .add (.var 3) (.cst (.int 1))) (.cons (.bin .add (.var 4) (.cst (.int 1))) .nil)))))))))))
 (.ret (.var 2))))
/-- covers -/
def b8 : S := (.ret (.ix (.call 7 (.cons (.call 5 (.cons (.var 0) .nil)) (.cons (.call 5 (.cons (.var 1) .nil)) .nil))) (.tup (.cons (.cst (.int 0)) (.cons (.cst (.int 0)) .nil)))))
/-- base_of -/
def b9 : S := (.seq (.set 1 (.sset (.comp [3] (.name 3) (.seq (.var 0)) .no (.call 5 (.cons (.var 3) .nil)))))
 (.ret (.blt .tuple (.cons (.comp [2] (.name 2) (.seq (.var 1)) (.yes (.not (.blt .any (.cons (.comp [4] (.name 4) (.seq (.var 1)) .no (.and (.cmp .ne (.var 4) (.var 2)) (.call 8 (.cons (.var 4) (.cons (.var 2) .nil))))) .nil)))) (.var 2)) .nil))))
/-- is_base -/
def b10 : S := (.ret (.and (.isi (.var 0) [.tuple]) (.and (.blt .all (.cons (.comp [1] (.name 1) (.seq (.var 0)) .no (.call 4 (.cons (.var 1) .nil))) .nil)) (.cmp .eq (.var 0) (.call 9 (.cons (.var 0) .nil))))))
/-- _law_box -/
def b11 : S := (.seq (.set 2 (.ife (.cmp .lt (.var 1) (.blt .len (.cons (.var 0) .nil))) (.ix (.var 0) (.var 1)) (.cst (.int 0))))
 (.ret (.lst (.cons (.bin .mul (.blt .abs (.cons (.var 2) .nil)) (.blt .int (.cons (.cmp .ge (.blt .abs (.cons (.var 2) .nil)) (.bin .pow (.cst (.int 10)) (.cst (.int 18)))) .nil))) (.cons (.bin .add (.bin .add (.bin .mod (.blt .int (.cons (.var 2) .nil)) (.cst (.int 2305843009213693951))) (.bin .mul (.cst (.int 39373)) (.var 1))) (.cst (.int 579))) (.cons (.cst (.int 0)) .nil))))))
/-- _law_take -/
def b12 : S := (.seq (.ite (.cmp .gt (.ix (.var 0) (.cst (.int 0))) (.cst (.int 0)))
 (.seq (.set 5 (.bin .mod (.blt .int (.cons (.ix (.var 0) (.cst (.int 0))) .nil)) (.var 1)))
 (.seq (.put 0 (.cst (.int 0)) (.bin .fdiv (.ix (.var 0) (.cst (.int 0))) (.var 1)))
 (.ret (.var 5))))
 .pass)
 (.seq (.put 0 (.cst (.int 2)) (.bin .add (.ix (.var 0) (.cst (.int 2))) (.cst (.int 1))))
 (.seq (.set 2 (.bin .mod (.blt .int (.cons (.bin .mul (.bin .add (.ix (.var 0) (.cst (.int 1))) (.bin .mul (.cst (.int 48271)) (.ix (.var 0) (.cst (.int 2))))) (.bin .add (.cst (.int 39373)) (.ix (.var 0) (.cst (.int 2))))) .nil)) (.cst (.int 2147483647))))
 (.seq (.set 3 (.bin .add (.bin .mod (.blt .int (.cons (.var 2) .nil)) (.cst (.int 40009))) (.cst (.int 7))))
 (.seq (.set 4 (.bin .mod (.blt .int (.cons (.bin .mul (.bin .add (.bin .add (.var 2) (.ix (.var 0) (.cst (.int 2)))) (.bin .fdiv (.ix (.var 0) (.cst (.int 1))) (.cst (.int 1000003)))) (.var 3)) .nil)) (.cst (.int 2147483629))))
 (.ret (.bin .mod (.blt .int (.cons (.bin .fdiv (.bin .mod (.blt .int (.cons (.bin .add (.bin .mul (.var 4) (.cst (.int 48271))) (.var 2)) .nil)) (.cst (.int 2147483587))) (.cst (.int 64))) .nil)) (.var 1))))))))
/-- _law_cells -/
def b13 : S := (.seq (.set 2 (.or (.blt .list (.cons (.slc (.var 0) .no (.yes (.var 1))) .nil)) (.lst (.cons (.cst (.int 0)) .nil))))
 (.seq (.for_ (.pair (.name 3) (.name 4)) (.enum (.slc (.var 0) (.yes (.var 1)) (.yes (.cst (.int 63)))))
 (.seq (.set 5 (.bin .mod (.blt .int (.cons (.var 3) .nil)) (.var 1)))
 (.put 2 (.var 5) (.bin .add (.ix (.var 2) (.var 5)) (.bin .mul (.var 4) (.bin .add (.var 3) (.cst (.int 2))))))))
 (.ret (.var 2))))
/-- _law_of -/
def b14 : S := (.ret (.ix (.var 1) (.call 12 (.cons (.var 0) (.cons (.blt .len (.cons (.var 1) .nil)) .nil)))))
/-- _law_pick -/
def b15 : S := (.seq (.par2 4 5 (.blt .list (.cons (.var 1) .nil)) (.lst .nil))
 (.seq (.for_ (.name 3) (.range1 (.blt .min (.cons (.var 2) (.cons (.blt .len (.cons (.var 4) .nil)) .nil))))
 (.app 5 (.popAt 4 (.call 12 (.cons (.var 0) (.cons (.blt .len (.cons (.var 4) .nil)) .nil))))))
 (.ret (.var 5))))
/-- _law_lists -/
def b16 : S := (.ret (.ife (.isi (.var 0) [.list, .tuple]) (.comp [1] (.name 1) (.seq (.var 0)) .no (.call 16 (.cons (.var 1) .nil))) (.var 0)))
/-- _law_same -/
def b17 : S := (.seq (.ite (.isi (.var 1) [.list, .tuple])
 (.seq (.ite (.or (.cmp .ne (.isi (.var 0) [.list]) (.isi (.var 1) [.list])) (.cmp .ne (.isi (.var 0) [.tuple]) (.isi (.var 1) [.tuple])))
 (.ret (.cst (.bool false)))
 .pass)
 (.ret (.and (.cmp .eq (.blt .len (.cons (.var 0) .nil)) (.blt .len (.cons (.var 1) .nil))) (.blt .all (.cons (.comp [3, 4] (.pair (.name 3) (.name 4)) (.zip (.var 0) (.var 1)) .no (.call 17 (.cons (.var 3) (.cons (.var 4) .nil)))) .nil)))))
 .pass)
 (.seq (.ite (.isi (.var 1) [.dict])
 (.seq (.ite (.or (.not (.isi (.var 0) [.dict])) (.cmp .ne (.srt (.var 0)) (.srt (.var 1))))
 (.ret (.cst (.bool false)))
 .pass)
 (.ret (.blt .all (.cons (.comp [2] (.name 2) (.seq (.var 1)) .no (.call 17 (.cons (.ix (.var 0) (.var 2)) (.cons (.ix (.var 1) (.var 2)) .nil)))) .nil))))
 .pass)
 (.seq (.ite (.or (.cmp .isn (.var 1) (.cst .none)) (.isi (.var 1) [.bool, .str]))
 (.ret (.and (.cmp .eq (.var 0) (.var 1)) (.and (.cmp .eq (.isi (.var 0) [.bool]) (.isi (.var 1) [.bool])) (.cmp .eq (.cmp .isn (.var 0) (.cst .none)) (.cmp .isn (.var 1) (.cst .none))))))
 .pass)
 (.ret (.and (.isi (.var 0) [.int]) (.and (.not (.isi (.var 0) [.bool])) (.cmp .eq (.var 0) (.var 1))))))))
/-- _law_tags -/
def b18 : S := (.seq (.set 2 (.lst (.cons (.cst (.str "a")) (.cons (.cst (.str "b")) (.cons (.cst (.str "c1")) (.cons (.cst (.str "a.c")) (.cons (.cst (.str "b.c")) (.cons (.cst (.str "a.d")) (.cons (.cst (.str "x")) (.cons (.cst (.str "x.c")) (.cons (.cst (.str "aa")) (.cons (.cst (.str "aa.d")) (.cons (.cst (.str "0")) (.cons (.cst (.str "b.d")) (.cons (.cst (.str "b.cc")) (.cons (.cst (.str "x.c1")) .nil))))))))))))))))
 (.ret (.call 15 (.cons (.var 0) (.cons (.var 2) (.cons (.var 1) .nil))))))
/-- _law_ending -/
def b19 : S := (.ret (.ife (.cmp .isin (.cst (.str ".")) (.var 0)) (.bin .add (.cst (.str ".")) (.ix (.mth .split (.var 0) (.cons (.cst (.str ".")) .nil)) (.cst (.int 1)))) (.cst (.str ""))))
/-- _law_mesh -/
def b20 : S := (.seq (.set 3 (.lst .nil))
 (.seq (.for_ (.name 4) (.range1 (.bin .add (.cst (.int 1)) (.call 12 (.cons (.var 0) (.cons (.var 2) .nil)))))
 (.seq (.set 5 (.call 12 (.cons (.var 0) (.cons (.cst (.int 6)) .nil))))
 (.app 3 (.ife (.cmp .lt (.var 5) (.cst (.int 3))) (.call 14 (.cons (.var 0) (.cons (.var 1) .nil))) (.ife (.cmp .lt (.var 5) (.cst (.int 5))) (.cst (.str "**")) (.call 14 (.cons (.var 0) (.cons (.lst (.cons (.cst (.str "*.c")) (.cons (.cst (.str "*.d")) (.cons (.cst (.str "*.cc")) .nil)))) .nil))))))))
 (.ret (.blt .tuple (.cons (.var 3) .nil)))))
/-- _law_clean -/
def b21 : S := (.seq (.set 1 (.lst .nil))
 (.seq (.for_ (.name 2) (.seq (.var 0))
 (.ite (.or (.cmp .ne (.var 2) (.cst (.str "**"))) (.or (.cmp .eq (.var 1) (.lst .nil)) (.cmp .ne (.ix (.var 1) (.neg (.cst (.int 1)))) (.cst (.str "**")))))
 (.app 1 (.var 2))
 .pass))
 (.ret (.blt .tuple (.cons (.var 1) .nil)))))
/-- _law_fits -/
def b22 : S := (.ret (.or (.cmp .eq (.var 0) (.var 1)) (.and (.cmp .eq (.slc (.var 0) .no (.yes (.cst (.int 2)))) (.cst (.str "*."))) (.and (.cmp .ne (.var 1) (.cst (.str "**"))) (.cmp .eq (.call 19 (.cons (.var 1) .nil)) (.slc (.var 0) (.yes (.cst (.int 1))) .no))))))
/-- _law_takes -/
def b23 : S := (.seq (.set 2 (.dctK1 (.int 0) (.bool true)))
 (.seq (.for_ (.name 3) (.seq (.var 0))
 (.for_ (.name 5) (.range1 (.blt .len (.cons (.var 0) .nil)))
 (.ite (.and (.cmp .isin (.var 5) (.var 2)) (.cmp .eq (.ix (.var 0) (.var 5)) (.cst (.str "**"))))
 (.put 2 (.bin .add (.var 5) (.cst (.int 1))) (.cst (.bool true)))
 .pass)))
 (.seq (.for_ (.name 4) (.seq (.var 1))
 (.seq (.set 6 .dctK)
 (.seq (.for_ (.name 5) (.range1 (.blt .len (.cons (.var 0) .nil)))
 (.seq (.ite (.and (.cmp .isin (.var 5) (.var 2)) (.cmp .eq (.ix (.var 0) (.var 5)) (.cst (.str "**"))))
 (.put 6 (.var 5) (.cst (.bool true)))
 .pass)
 (.ite (.and (.cmp .isin (.var 5) (.var 2)) (.and (.cmp .ne (.ix (.var 0) (.var 5)) (.cst (.str "**"))) (.call 22 (.cons (.ix (.var 0) (.var 5)) (.cons (.var 4) .nil)))))
 (.put 6 (.bin .add (.var 5) (.cst (.int 1))) (.cst (.bool true)))
 .pass)))
 (.seq (.for_ (.name 3) (.seq (.var 0))
 (.for_ (.name 5) (.range1 (.blt .len (.cons (.var 0) .nil)))
 (.ite (.and (.cmp .isin (.var 5) (.var 6)) (.cmp .eq (.ix (.var 0) (.var 5)) (.cst (.str "**"))))
 (.put 6 (.bin .add (.var 5) (.cst (.int 1))) (.cst (.bool true)))
 .pass)))
 (.set 2 (.var 6))))))
 (.ret (.cmp .isin (.blt .len (.cons (.var 0) .nil)) (.var 2))))))
/-- _law_due -/
def b24 : S := (.seq (.set 1 (.sset (.comp [3] (.name 3) (.seq (.var 0)) .no (.call 21 (.cons (.var 3) .nil)))))
 (.ret (.blt .tuple (.cons (.comp [2] (.name 2) (.seq (.var 1)) (.yes (.cmp .eq (.comp [4] (.name 4) (.seq (.var 1)) (.yes (.and (.cmp .ne (.var 4) (.var 2)) (.call 23 (.cons (.var 4) (.cons (.var 2) .nil))))) (.var 4)) (.lst .nil))) (.var 2)) .nil))))
/-- _law_hand_right -/
def b25 : S := (.seq (.set 0 (.lst (.cons (.call 9 (.cons (.tup (.cons (.tup (.cons (.cst (.str "a")) (.cons (.cst (.str "**")) .nil))) (.cons (.tup (.cons (.cst (.str "a")) (.cons (.cst (.str "b")) .nil))) (.cons (.tup (.cons (.cst (.str "**")) (.cons (.cst (.str "*.c")) .nil))) (.cons (.tup (.cons (.cst (.str "**")) (.cons (.cst (.str "**")) (.cons (.cst (.str "d")) .nil)))) .nil))))) .nil)) .nil)))
 (.seq (.app 0 (.call 9 (.cons (.tup (.cons (.tup (.cons (.cst (.str "a")) (.cons (.cst (.str "b")) .nil))) (.cons (.tup (.cons (.cst (.str "a")) (.cons (.cst (.str "*.c")) .nil))) (.cons (.tup (.cons (.cst (.str "a")) (.cons (.cst (.str "x.c")) .nil))) .nil)))) .nil)))
 (.seq (.set 1 (.lst (.cons (.tup (.cons (.tup (.cons (.cst (.str "**")) (.cons (.cst (.str "*.c")) .nil))) (.cons (.tup (.cons (.cst (.str "**")) (.cons (.cst (.str "d")) .nil))) (.cons (.tup (.cons (.cst (.str "a")) (.cons (.cst (.str "**")) .nil))) .nil)))) (.cons (.tup (.cons (.tup (.cons (.cst (.str "a")) (.cons (.cst (.str "*.c")) .nil))) (.cons (.tup (.cons (.cst (.str "a")) (.cons (.cst (.str "b")) .nil))) .nil))) .nil))))
 (.seq (.set 0 (.bin .add (.var 0) (.lst (.cons (.call 9 (.cons (.tup .nil) .nil)) (.cons (.callK 9 .nil (.cons (.lst (.cons (.lst (.cons (.cst (.str "**")) (.cons (.cst (.str "**")) .nil))) (.cons (.lst (.cons (.cst (.str "a")) .nil)) .nil))) .nil) [0]) (.cons (.call 9 (.cons (.tup (.cons (.tup (.cons (.cst (.str "b")) .nil)) (.cons (.tup (.cons (.cst (.str "a")) .nil)) (.cons (.tup (.cons (.cst (.str "b")) .nil)) .nil)))) .nil)) .nil))))))
 (.seq (.set 1 (.bin .add (.var 1) (.lst (.cons (.tup .nil) (.cons (.tup (.cons (.tup (.cons (.cst (.str "**")) .nil)) .nil)) (.cons (.tup (.cons (.tup (.cons (.cst (.str "a")) .nil)) (.cons (.tup (.cons (.cst (.str "b")) .nil)) .nil))) .nil))))))
 (.seq (.set 2 (.lst (.cons (.tup .nil) (.cons (.tup (.cons (.tup (.cons (.cst (.str "a")) .nil)) .nil)) (.cons (.tup (.cons (.tup (.cons (.cst (.str "**")) (.cons (.cst (.str "*.c")) .nil))) (.cons (.tup (.cons (.cst (.str "a")) (.cons (.cst (.str "**")) .nil))) .nil))) (.cons (.tup (.cons (.tup (.cons (.cst (.str "a")) (.cons (.cst (.str "**")) (.cons (.cst (.str "b")) .nil)))) (.cons (.tup (.cons (.cst (.str "b")) (.cons (.cst (.str "**")) .nil))) .nil))) .nil))))))
 (.seq (.set 3 (.lst (.cons (.tup (.cons (.tup (.cons (.cst (.str "b")) .nil)) (.cons (.tup (.cons (.cst (.str "a")) .nil)) .nil))) (.cons (.tup (.cons (.tup (.cons (.cst (.str "a")) .nil)) (.cons (.tup (.cons (.cst (.str "a")) .nil)) .nil))) (.cons (.tup (.cons (.tup (.cons (.cst (.str "**")) .nil)) (.cons (.tup (.cons (.cst (.str "a")) .nil)) .nil))) (.cons (.tup (.cons (.tup (.cons (.cst (.str "a")) (.cons (.cst (.str "**")) (.cons (.cst (.str "**")) .nil)))) .nil)) (.cons (.lst (.cons (.tup (.cons (.cst (.str "a")) .nil)) .nil)) (.cons (.tup (.cons (.lst (.cons (.cst (.str "a")) .nil)) .nil)) .nil))))))))
 (.seq (.set 3 (.bin .add (.var 3) (.lst (.cons (.tup (.cons (.tup (.cons (.cst (.str "*")) .nil)) .nil)) (.cons (.tup (.cons (.tup .nil) .nil)) (.cons (.cst (.str "a")) (.cons (.cst .none) .nil)))))))
 (.seq (.set 3 (.bin .add (.var 3) (.lst (.cons (.tup (.cons (.tup (.cons (.cst (.str "a")) (.cons (.cst (.str "**")) .nil))) (.cons (.tup (.cons (.cst (.str "a")) (.cons (.cst (.str "**")) (.cons (.cst (.str "b")) .nil)))) .nil))) (.cons (.tup (.cons (.cst (.str "a")) .nil)) (.cons (.cst (.int 0)) (.cons (.tup (.cons (.tup (.cons (.cst (.str "a")) .nil)) (.cons (.cst (.str "b")) .nil))) .nil)))))))
 (.seq (.app 2 (.blt .tuple (.cons (.comp [4] (.name 4) (.range1 (.cst (.int 41))) .no (.tup (.cons (.bin .mul (.cst (.str "a")) (.bin .add (.var 4) (.cst (.int 1)))) .nil))) .nil)))
 (.seq (.ite (.not (.call 17 (.cons (.bin .add (.var 0) (.comp [5] (.name 5) (.seq (.bin .add (.var 2) (.var 3))) .no (.call 10 (.cons (.var 5) .nil)))) (.cons (.bin .add (.bin .add (.var 1) (.bin .mul (.lst (.cons (.cst (.bool true)) .nil)) (.cst (.int 5)))) (.bin .mul (.lst (.cons (.cst (.bool false)) .nil)) (.cst (.int 14)))) .nil))))
 (.ret (.cst (.bool false)))
 .pass)
 (.ret (.call 17 (.cons (.callK 10 .nil (.cons (.tup (.cons (.tup (.cons (.cst (.str "*.c")) .nil)) .nil)) .nil) [0]) (.cons (.cst (.bool true)) .nil)))))))))))))))
/-- _law_right -/
def b26 : S := (.seq (.ite (.not (.call 25 .nil))
 (.ret (.cst (.bool false)))
 .pass)
 (.seq (.for_ (.name 1) (.range1 (.cst (.int 10)))
 (.seq (.set 2 (.call 18 (.cons (.var 0) (.cons (.cst (.int 3)) .nil))))
 (.seq (.set 3 (.comp [9] (.name 9) (.range1 (.call 12 (.cons (.var 0) (.cons (.cst (.int 7)) .nil)))) .no (.call 20 (.cons (.var 0) (.cons (.var 2) (.cons (.cst (.int 4)) .nil))))))
 (.seq (.set 4 (.call 24 (.cons (.var 3) .nil)))
 (.seq (.set 5 (.lst (.cons (.call 9 (.cons (.blt .tuple (.cons (.var 3) .nil)) .nil)) (.cons (.call 9 (.cons (.call 16 (.cons (.var 3) .nil)) .nil)) (.cons (.call 9 (.cons (.var 4) .nil)) (.cons (.call 10 (.cons (.var 4) .nil)) .nil))))))
 (.seq (.app 5 (.call 10 (.cons (.blt .tuple (.cons (.var 3) .nil)) .nil)))
 (.seq (.ite (.not (.call 17 (.cons (.var 5) (.cons (.lst (.cons (.var 4) (.cons (.var 4) (.cons (.var 4) (.cons (.cst (.bool true)) (.cons (.cmp .eq (.blt .tuple (.cons (.var 3) .nil)) (.var 4)) .nil)))))) .nil))))
 (.ret (.cst (.bool false)))
 .pass)
 (.ite (.cmp .ne (.var 4) (.tup .nil))
 (.seq (.set 6 (.call 12 (.cons (.var 0) (.cons (.blt .len (.cons (.var 4) .nil)) .nil))))
 (.seq (.set 7 (.lst (.cons (.rev (.var 4)) (.cons (.bin .add (.bin .add (.slc (.var 4) .no (.yes (.var 6))) (.slc (.var 4) (.yes (.var 6)) (.yes (.bin .add (.var 6) (.cst (.int 1)))))) (.slc (.var 4) (.yes (.var 6)) .no)) .nil))))
 (.seq (.set 7 (.bin .add (.var 7) (.lst (.cons (.bin .add (.bin .add (.slc (.var 4) .no (.yes (.var 6))) (.tup (.cons (.bin .add (.ix (.var 4) (.var 6)) (.tup (.cons (.cst (.str "**")) (.cons (.cst (.str "**")) .nil)))) .nil))) (.slc (.var 4) (.yes (.bin .add (.var 6) (.cst (.int 1)))) .no)) (.cons (.blt .list (.cons (.var 4) .nil)) .nil)))))
 (.seq (.set 7 (.bin .add (.var 7) (.lst (.cons (.bin .add (.var 4) (.tup (.cons (.bin .add (.ix (.var 4) (.var 6)) (.tup (.cons (.cst (.str "zz")) .nil))) .nil))) (.cons (.bin .add (.tup (.cons (.blt .tuple (.cons (.rev (.blt .list (.cons (.ix (.var 4) (.var 6)) .nil))) .nil)) .nil)) (.slc (.var 4) (.yes (.cst (.int 1))) .no)) .nil)))))
 (.for_ (.name 8) (.seq (.var 7))
 (.seq (.set 10 (.and (.isi (.var 8) [.tuple]) (.cmp .eq (.var 8) (.call 24 (.cons (.var 8) .nil)))))
 (.ite (.not (.call 17 (.cons (.call 10 (.cons (.var 8) .nil)) (.cons (.var 10) .nil))))
 (.ret (.cst (.bool false)))
 .pass)))))))
 .pass))))))))
 (.ret (.cst (.bool true)))))
/-- law -/
def b27 : S := (.seq (.set 1 (.call 13 (.cons (.var 0) (.cons (.cst (.int 3)) .nil))))
 (.ret (.blt .all (.cons (.comp [2] (.name 2) (.range1 (.blt .len (.cons (.var 1) .nil))) .no (.call 26 (.cons (.call 11 (.cons (.var 1) (.cons (.var 2) .nil))) .nil))) .nil))))
def tab : List Fn := [⟨2, [false], b0⟩, ⟨3, [false], b1⟩, ⟨1, [false], b2⟩, ⟨1, [false], b3⟩, ⟨2, [false], b4⟩, ⟨3, [false], b5⟩, ⟨2, [false, false], b6⟩, ⟨5, [false, false], b7⟩, ⟨2, [false, false], b8⟩, ⟨5, [false], b9⟩, ⟨2, [false], b10⟩, ⟨3, [false, false], b11⟩, ⟨6, [true, false], b12⟩, ⟨6, [false, false], b13⟩, ⟨2, [true, false], b14⟩, ⟨6, [true, false, false], b15⟩, ⟨2, [false], b16⟩, ⟨5, [false, false], b17⟩, ⟨3, [true, false], b18⟩, ⟨1, [false], b19⟩, ⟨6, [true, false, false], b20⟩, ⟨3, [false], b21⟩, ⟨2, [false, false], b22⟩, ⟨7, [false, false], b23⟩, ⟨5, [false], b24⟩, ⟨6, [], b25⟩, ⟨11, [true], b26⟩, ⟨3, [false], b27⟩]
theorem bo0 : bodyOf gc e0 = b0 := rfl
theorem bo1 : bodyOf gc e1 = b1 := rfl
theorem bo2 : bodyOf gc e2 = b2 := rfl
theorem bo3 : bodyOf gc e3 = b3 := rfl
theorem bo4 : bodyOf gc e4 = b4 := rfl
theorem bo5 : bodyOf gc e5 = b5 := rfl
theorem bo6 : bodyOf gc e6 = b6 := rfl
theorem bo7 : bodyOf gc e7 = b7 := rfl
theorem bo8 : bodyOf gc e8 = b8 := rfl
theorem bo9 : bodyOf gc e9 = b9 := rfl
theorem bo10 : bodyOf gc e10 = b10 := rfl
theorem bo11 : bodyOf gc e11 = b11 := rfl
theorem bo12 : bodyOf gc e12 = b12 := rfl
theorem bo13 : bodyOf gc e13 = b13 := rfl
theorem bo14 : bodyOf gc e14 = b14 := rfl
theorem bo15 : bodyOf gc e15 = b15 := rfl
theorem bo16 : bodyOf gc e16 = b16 := rfl
theorem bo17 : bodyOf gc e17 = b17 := rfl
theorem bo18 : bodyOf gc e18 = b18 := rfl
theorem bo19 : bodyOf gc e19 = b19 := rfl
theorem bo20 : bodyOf gc e20 = b20 := rfl
theorem bo21 : bodyOf gc e21 = b21 := rfl
theorem bo22 : bodyOf gc e22 = b22 := rfl
theorem bo23 : bodyOf gc e23 = b23 := rfl
theorem bo24 : bodyOf gc e24 = b24 := rfl
theorem bo25 : bodyOf gc e25 = b25 := rfl
theorem bo26 : bodyOf gc e26 = b26 := rfl
theorem bo27 : bodyOf gc e27 = b27 := rfl
theorem tab_eq : tab = fes.map fun e => ⟨e.N.length, e.io, bodyOf gc e⟩ := rfl
end Ev


set_option Elab.async false
set_option linter.all false
set_option maxRecDepth 100000
set_option maxHeartbeats 40000000
namespace Ev.Pl
open PySem PySem.Spec PyProof.Rows L2
local macro_rules
  | `(tactic| ac_rfl) => `(tactic| repeat (first
    | with_reducible refine WPc.step ?_
    | with_reducible first | refine wE_call (by assumption) ?_ | refine wT_call (by assumption) ?_ | refine wE_callK (by assumption) ?_ | refine wT_callK (by assumption) ?_ | refine wE_dctK1 rfl rfl ?_ | refine wP_ite' rfl ?_ | refine wG.mk (by first | assumption | (show _ ≤ 16777216; omega) | (show _ < 16777216; omega) | omega | exact fit_of (by omega) (by omega) | (show _ ≤ 16777216; simp only [List.length_append, List.length_cons, List.length_nil, List.length_map]; omega) | (show _ < 16777216; simp only [List.length_append, List.length_cons, List.length_nil, List.length_map]; omega)) ?_
    | (fail_if_success with_reducible refine WSt.step ?_)
      first | refine wO_some ?_ | refine wP_some ?_ | refine wT_some ?_ | refine wI_tt ?_ | refine wI_ff ?_ | refine wA_mk rfl ?_ | refine wU_l rfl rfl ?_ | refine wG.mk (by first | exact Nat.le_of_ble_eq_true rfl | ((with_reducible refine kG ?_); rfl)) ?_))
local macro_rules
  | `(tactic| and_intros) => `(tactic| first
    | ((repeat (refine LeE.cons (by first | exact (rfl : Sl (some _) _) | exact nio_none | exact nio_sh | exact nio_ow | assumption) ?_)); exact LeE.nil)
    | (simp only [List.map_append, List.map_cons, List.map_nil]; (repeat (refine LeE.cons (by first | exact (rfl : Sl (some _) _) | exact nio_none | exact nio_sh | exact nio_ow | assumption) ?_)); exact LeE.nil))
local macro_rules
  | `(tactic| subst_eqs) => `(tactic| repeat (first
    | with_reducible first
      | exact qn_str _ | exact qn_int _ | exact qn_bool _ | exact qn_non | assumption | refine qn_list ?_ ?_ | refine qn_tup ?_ ?_ | exact pA_nil | refine pA_cons ?_ ?_ | refine pA_app ?_ ?_ | exact pA_strs _ | exact pA_ints _ | refine pA_map (fun x hx => ?_)
    | (show _ ≤ 16777216; simp only [List.length_append, List.length_cons, List.length_nil, List.length_map]; omega)))
open Ev
/-- _law_right -/
def F_law_right (i_base_of i_is_base i_law_take i_law_lists i_law_same i_law_tags i_law_mesh i_law_due i_law_hand_right : Nat) : Fn := ⟨11, [true], (.seq (.ite (.not (.call i_law_hand_right .nil))
 (.ret (.cst (.bool false)))
 .pass)
 (.seq (.for_ (.name 1) (.range1 (.cst (.int 10)))
 (.seq (.set 2 (.call i_law_tags (.cons (.var 0) (.cons (.cst (.int 3)) .nil))))
 (.seq (.set 3 (.comp [9] (.name 9) (.range1 (.call i_law_take (.cons (.var 0) (.cons (.cst (.int 7)) .nil)))) .no (.call i_law_mesh (.cons (.var 0) (.cons (.var 2) (.cons (.cst (.int 4)) .nil))))))
 (.seq (.set 4 (.call i_law_due (.cons (.var 3) .nil)))
 (.seq (.set 5 (.lst (.cons (.call i_base_of (.cons (.blt .tuple (.cons (.var 3) .nil)) .nil)) (.cons (.call i_base_of (.cons (.call i_law_lists (.cons (.var 3) .nil)) .nil)) (.cons (.call i_base_of (.cons (.var 4) .nil)) (.cons (.call i_is_base (.cons (.var 4) .nil)) .nil))))))
 (.seq (.app 5 (.call i_is_base (.cons (.blt .tuple (.cons (.var 3) .nil)) .nil)))
 (.seq (.ite (.not (.call i_law_same (.cons (.var 5) (.cons (.lst (.cons (.var 4) (.cons (.var 4) (.cons (.var 4) (.cons (.cst (.bool true)) (.cons (.cmp .eq (.blt .tuple (.cons (.var 3) .nil)) (.var 4)) .nil)))))) .nil))))
 (.ret (.cst (.bool false)))
 .pass)
 (.ite (.cmp .ne (.var 4) (.tup .nil))
 (.seq (.set 6 (.call i_law_take (.cons (.var 0) (.cons (.blt .len (.cons (.var 4) .nil)) .nil))))
 (.seq (.set 7 (.lst (.cons (.rev (.var 4)) (.cons (.bin .add (.bin .add (.slc (.var 4) .no (.yes (.var 6))) (.slc (.var 4) (.yes (.var 6)) (.yes (.bin .add (.var 6) (.cst (.int 1)))))) (.slc (.var 4) (.yes (.var 6)) .no)) .nil))))
 (.seq (.set 7 (.bin .add (.var 7) (.lst (.cons (.bin .add (.bin .add (.slc (.var 4) .no (.yes (.var 6))) (.tup (.cons (.bin .add (.ix (.var 4) (.var 6)) (.tup (.cons (.cst (.str "**")) (.cons (.cst (.str "**")) .nil)))) .nil))) (.slc (.var 4) (.yes (.bin .add (.var 6) (.cst (.int 1)))) .no)) (.cons (.blt .list (.cons (.var 4) .nil)) .nil)))))
 (.seq (.set 7 (.bin .add (.var 7) (.lst (.cons (.bin .add (.var 4) (.tup (.cons (.bin .add (.ix (.var 4) (.var 6)) (.tup (.cons (.cst (.str "zz")) .nil))) .nil))) (.cons (.bin .add (.tup (.cons (.blt .tuple (.cons (.rev (.blt .list (.cons (.ix (.var 4) (.var 6)) .nil))) .nil)) .nil)) (.slc (.var 4) (.yes (.cst (.int 1))) .no)) .nil)))))
 (.for_ (.name 8) (.seq (.var 7))
 (.seq (.set 10 (.and (.isi (.var 8) [.tuple]) (.cmp .eq (.var 8) (.call i_law_due (.cons (.var 8) .nil)))))
 (.ite (.not (.call i_law_same (.cons (.call i_is_base (.cons (.var 8) .nil)) (.cons (.var 10) .nil))))
 (.ret (.cst (.bool false)))
 .pass)))))))
 .pass))))))))
 (.ret (.cst (.bool true)))))⟩

def PS : List Str := POOL ++ (["zz"] : List Str)
theorem okPS {s : Str} (h : s ∈ PS) : OkW s := by
  rcases List.mem_append.mp h with h | h
  · exact okWPool h
  · rw [List.mem_singleton.mp h]
    exact okW_iff.mp (by decide +kernel)
/-- PATTERNs in this law -/
structure B4 (p : List Str) : Prop where
  ne : p ≠ []
  ps : ∀ s ∈ p, s ∈ PS
  len : p.length ≤ 10
theorem B4.ok {p : List Str} (h : B4 p) : OkP p := ⟨h.ne, fun s hs => okPS (h.ps s hs), by have := h.len; omega⟩
theorem B4.pln {p : List Str} (h : B4 p) : Pln 1 (pathD p) := .tuple (pA_strs p) (by rw [List.length_map]; have := h.len; show _ ≤ 16777216; omega)
theorem pool_many : ("**" : Str) ∈ POOL := by decide +kernel
/-- one of the things asked of is_base: a list, or a tuple -/
def thD (z : Bool × List (List Str)) : D := sqB z.1 (z.2.map pathD)

/-! ### is_base, told at once -/
def AS : List Str := (List.range 41).map fun k => ⟨(List.replicate (k + 1) #[97]).foldl (· ++ ·) #[]⟩
theorem okAS : (AS.all okW) = true := by decide +kernel
theorem okPA {s : Str} (h : s ∈ AS) : OkW s := okW_iff.mp (List.all_eq_true.mp okAS s h)
def pthsD : List D → Option (List (List Str))
  | [] => some []
  | .tuple l :: r => match strsD l, pthsD r with
    | some p, some ps => some (p :: ps)
    | _, _ => none
  | _ :: _ => none
theorem pthsD_eq : ∀ {xs : List D} {ps : List (List Str)}, pthsD xs = some ps → xs = ps.map pathD
  | [], _, h => by cases h; rfl
  | d :: r, ps, h => by
    cases d with
    | tuple l =>
      rw [pthsD] at h
      split at h
      · rename_i p ps h1 h2
        cases h
        rw [strsD_eq h1, pthsD_eq h2]
        rfl
      · cases h
    | _ => cases h
def fastB (ds : List D) : Option (D × Fl × List D) := match ds with
  | [.tuple xs] => match pthsD xs with
    | some ps => if (ps.all (fun p => !p.isEmpty && decide (p.length ≤ 100) && p.all fun s => decide (s ∈ AS)) && decide (ps.length < 63) && decide (5 ≤ ps.length)) = true then some (.bool (decide (ps = baseL ps)), .sh, []) else none
    | none => none
  | _ => none
def orC (f g : List D → Option (D × Fl × List D)) (ds : List D) : Option (D × Fl × List D) := match f ds with
  | some r => some r
  | none => g ds
theorem orC_le {f g h : List D → Option (D × Fl × List D)} (h1 : ∀ ds, Le (f ds) (h ds)) (h2 : ∀ ds, Le (g ds) (h ds)) (ds : List D) : Le (orC f g ds) (h ds) := fun r e => by
  unfold orC at e
  split at e
  · rename_i r' e'
    cases e
    exact h1 ds _ e'
  · exact h2 ds _ e
theorem fastB_le {tbl : List Fn} {i n : Nat} (h : IsBaseS tbl i AS) (hn : 6 ≤ n) (ds : List D) : Le (fastB ds) (evCall tbl n i ds) := fun r e => by
  unfold fastB at e
  split at e
  · rename_i xs
    split at e
    · rename_i ps h1
      split at e
      · rename_i c
        cases e
        rw [Bool.and_eq_true, Bool.and_eq_true, List.all_eq_true] at c
        rw [pthsD_eq h1]
        refine h n hn ps (fun p hp => ?_) (of_decide_eq_true c.1.2)
        have := c.1.1 p hp
        rw [Bool.and_eq_true, Bool.and_eq_true, List.all_eq_true] at this
        have hs : ∀ s ∈ p, s ∈ AS := fun s hs => of_decide_eq_true (this.2 s hs)
        exact ⟨⟨fun e => by rw [e] at this; simp at this, fun s h => okPA (hs s h), of_decide_eq_true this.1.2⟩, hs⟩
      · cases e
    · cases e
  · cases e
theorem rightS : RightS tab 26 14 := fun n hn box hb => by
  obtain ⟨n, rfl⟩ : ∃ n', n = n' + 1 := ⟨n - 1, by omega⟩
  have i0 : ioOf tab 0 = [false] := rfl
  have i1 : ioOf tab 1 = [false] := rfl
  have i2 : ioOf tab 2 = [false] := rfl
  have i3 : ioOf tab 3 = [false] := rfl
  have i4 : ioOf tab 4 = [false] := rfl
  have i5 : ioOf tab 5 = [false] := rfl
  have i6 : ioOf tab 6 = [false, false] := rfl
  have i7 : ioOf tab 7 = [false, false] := rfl
  have i8 : ioOf tab 8 = [false, false] := rfl
  have i9 : ioOf tab 9 = [false] := rfl
  have i10 : ioOf tab 10 = [false] := rfl
  have i11 : ioOf tab 11 = [false, false] := rfl
  have i12 : ioOf tab 12 = [true, false] := rfl
  have i13 : ioOf tab 13 = [false, false] := rfl
  have i14 : ioOf tab 14 = [true, false] := rfl
  have i15 : ioOf tab 15 = [true, false, false] := rfl
  have i16 : ioOf tab 16 = [false] := rfl
  have i17 : ioOf tab 17 = [false, false] := rfl
  have i18 : ioOf tab 18 = [true, false] := rfl
  have i19 : ioOf tab 19 = [false] := rfl
  have i20 : ioOf tab 20 = [true, false, false] := rfl
  have i21 : ioOf tab 21 = [false] := rfl
  have i22 : ioOf tab 22 = [false, false] := rfl
  have i23 : ioOf tab 23 = [false, false] := rfl
  have i24 : ioOf tab 24 = [false] := rfl
  have i25 : ioOf tab 25 = [] := rfl
  have i26 : ioOf tab 26 = [true] := rfl
  have i27 : ioOf tab 27 = [false] := rfl
  have hTk : TakeS tab 12 1 := takeS rfl
  have hOf : OfS tab 14 2 := ofS rfl hTk i12
  have hPk : PickS tab 15 2 := pickS rfl hTk i12
  have hTg : TagsS tab 18 3 := tagsS rfl hPk i15
  have hMs : MeshS tab 20 3 := meshS rfl (fun n hn => hTk n (by omega)) hOf i12 i14
  have hSm : SameS tab 17 := sameS rfl
  have hLi : ListsS tab 16 := listsS rfl
  have hEn : EndS tab 2 := endS rfl
  have hFi : FitS tab 6 := fitS rfl hEn i2
  have hTb : TableS tab 7 := tableS rfl hFi i6
  have hle : LendS tab 19 := lendS rfl
  have hlf : LfitS tab 22 := lfitS rfl hle i19
  have hlt : TakesS tab 23 := takesS rfl hlf i22
  have hTi : TidyS tab 5 := tidyS rfl
  have hCo : CoversS tab 8 := coversS rfl hTi hTb i5 i7
  have hBa : BaseS tab 9 := baseS rfl hTi hCo i5 i8
  have hCl : CleanS tab 21 := cleanS rfl

  have hDu : BaseS tab 24 := dueBS rfl hCl hlt i21 i23
  have hPc : PieceS tab 3 PS := pieceS (by decide +kernel)
  have hPt : PatternS tab 4 PS := patternS rfl hPc i3
  have hIb : IsBaseS tab 10 PS := isBaseS rfl hPt hBa i4 i9
  have hIl : IsBaseL tab 10 := isBaseL (j := 4) (k := 9) rfl
  have hPa : PieceS tab 3 AS := pieceS (by decide +kernel)
  have hIa : IsBaseS tab 10 AS := isBaseS rfl (patternS rfl hPa i3) hBa i4 i9

  have eH : evCall tab n 25 [] = some (.bool true, .sh, []) := by
    obtain ⟨n, rfl⟩ : ∃ n', n = n' + 1 := ⟨n - 1, by omega⟩
    refine hand_by (fn := ⟨6, [], b25⟩) (cf := fastC (evCall tab 12) [(10, orC fastB (evCall tab 12 10))]) rfl (fastC_cons (orC_le (fastB_le hIa (by omega)) fun ds r e => evCall_le e (by omega)) (fastC_nil fun i ds r e => evCall_le e (by omega))) ?_
    decide +kernel
  rw [evCall_succ (fn := F_law_right 9 10 12 16 17 18 20 24 25) rfl]
  refine vO_fn rfl ?_
  ac_rfl
  refine wT_of eH ?_
  ac_rfl
  refine vS_for (List.range 10) (fun k : Nat => PyData.int k) (fun bx : D => [some (bx, .io), none, none, none, none, none, none, none, none, none, none]) (fun d r bx => Bx (100 * d.length) bx) box ?_
  ac_rfl
  refine ⟨rangeD_zero 10, by and_intros, hb, ?_, ?_⟩
  · rintro d x r bx hL hB
    have hd : d.length < 10 := by have := congrArg List.length hL; simp at this; omega
    ac_rfl
    refine (hTg n (by omega) _ _ 3 hB (by omega) (by decide) (by decide)).imp ?_
    rintro _ fl outs ⟨bx2, ts, rfl, rfl, rfl, h2, h3, h4, hB2⟩
    ac_rfl
    have hts : ts ≠ [] := fun e => by rw [e] at h3; simp at h3
    have htl : ts.length < 1000 := by rw [h3]; decide
    refine (hTk n (by omega) (100 * d.length + 3) 7 bx2 hB2 (by omega) (by decide) (by decide)).ex.elim fun dm ⟨_, _, eT, w, bx3, e1, e2, e3, w0, w1, hB3⟩ => ?_
    subst e1 e2 e3
    obtain ⟨many, rfl⟩ := Int.eq_ofNat_of_zero_le w0
    refine vE_comp (List.range many) (fun k : Nat => PyData.int k) (fun s : D × Fl => [some (s.1, .io), some (.int x, .sh), some (.list (ts.map .str), s.2), none, none, none, none, none, none, none, none])
      (fun d' r o s => (s.2 = .sh ∨ s.2 = .ow) ∧ ∃ ps : List (List Str), o = ps.map pathD ∧ (∀ p ∈ ps, p ≠ [] ∧ (∀ s ∈ p, s ∈ POOL) ∧ p.length ≤ 4) ∧ ps.length = d'.length ∧ Bx (100 * d.length + 4 + 9 * d'.length) s.1) (bx3, .ow) ?_
    ac_rfl
    refine wT_of eT ?_
    ac_rfl
    refine ⟨rangeD_zero _, rfl, ⟨.inr rfl, [], rfl, by simp, rfl, hB3.le (by simp; omega)⟩, ?_, ?_⟩
    · rintro d' y r' o ⟨bx4, f⟩ hL' ⟨hf, ps, rfl, okp, lp, hB4⟩
      have hd' : d'.length < 7 := by have := congrArg List.length hL'; simp at this; omega
      dsimp only at hf hB4
      rcases hf with rfl | rfl <;> (
        ac_rfl
        refine (hMs n (by omega) _ bx4 ts 4 hB4 (by omega) hts htl (by decide) (by decide)).imp ?_
        rintro _ fl outs ⟨bx5, p, rfl, rfl, rfl, hp1, hp2, hp3, hB5⟩
        ac_rfl
        refine ⟨(bx5, .sh), rfl, .inl rfl, ps ++ [p], by rw [List.map_append]; rfl, fun q hq => ?_, by simp [lp], hB5.le (by simp; omega)⟩
        rcases List.mem_append.mp hq with hq | hq
        · exact okp q hq
        · rw [List.mem_singleton.mp hq]
          exact ⟨fun e => by rw [e] at hp2; simp at hp2, pat_pool h2 ⟨hp1, hp2, hp3⟩, hp3⟩)
    · rintro o ⟨bx4, f⟩ ⟨hf, ps, rfl, okp, lp, hB4⟩
      have nf : Nio (some (PyData.list (ts.map .str), f)) := by
        dsimp only at hf
        rcases hf with rfl | rfl
        · exact nio_sh
        · exact nio_ow
      have lps : ps.length ≤ 6 := by rw [lp, List.length_range]; omega
      rw [List.length_range] at hB4
      have elp : (ps.map pathD).length = ps.length := List.length_map _
      have b4 : ∀ p ∈ ps, B4 p := fun p hp => ⟨(okp p hp).1, fun s hs => List.mem_append_left _ ((okp p hp).2.1 s hs), by have := (okp p hp).2.2; omega⟩
      have okP : ∀ p ∈ ps, OkP p := fun p hp => (b4 p hp).ok
      have plnP : ∀ p ∈ ps, Pln 1 (pathD p) := fun p hp => (b4 p hp).pln
      have plnL : Pln 2 (.list (ps.map pathD)) := .list (pA_map plnP) (by rw [List.length_map]; show _ ≤ 16777216; omega)
      obtain ⟨B, eB⟩ : ∃ B, B = baseL ps := ⟨_, rfl⟩
      have lB : B.length ≤ 6 := by rw [eB]; exact Nat.le_trans (baseL_len ps) lps
      have elB : (B.map pathD).length = B.length := List.length_map _
      have bB : ∀ p ∈ B, B4 p := fun p hp => by
        rw [eB] at hp
        obtain ⟨q, hq, rfl⟩ := rowsL_mem.mp (baseL_rows hp)
        exact ⟨tid_ne (b4 q hq).ne, fun s hs => (b4 q hq).ps s (tid_mem q _ hs), Nat.le_trans (tid_len q false) (b4 q hq).len⟩
      have lB4 : ∀ p ∈ B, p.length ≤ 4 := fun p hp => by
        rw [eB] at hp
        obtain ⟨q, hq, rfl⟩ := rowsL_mem.mp (baseL_rows hp)
        exact Nat.le_trans (tid_len q false) (okp q hq).2.2
      have okB : ∀ p ∈ B, OkP p := fun p hp => (bB p hp).ok
      have idB : baseL B = B := by rw [eB]; exact baseL_idem ps
      have plnB : Pln 2 (pathsT B) := .tuple (pA_map fun p hp => (bB p hp).pln) (by rw [List.length_map]; show _ ≤ 16777216; omega)
      have eL : listsD (.list (ps.map pathD)) = .list ((ps.map fun p => ((true, p) : Rw)).map rwD) := by
        rw [listsD, listsAll_map, List.map_map, List.map_map]
        congr 1
        exact List.map_congr_left fun p _ => lists_pathB p
      have eTr : ((ps.map fun p => ((true, p) : Rw)).map (·.2)) = ps := by rw [List.map_map]; exact List.map_id' ps
      ac_rfl
      refine wT_of (hDu.tup n (by omega) ps (.inr rfl) okP (by omega)) ?_
      rw [← eB]
      ac_rfl
      refine wT_of (hBa.tup n (by omega) ps (.inl rfl) okP (by omega)) ?_
      rw [← eB]
      ac_rfl
      refine (hLi 2 _ plnL n (by omega)).imp ?_
      rintro _ fl outs ⟨rfl, rfl, rfl⟩
      rw [eL]
      ac_rfl
      refine wT_of (hBa n (by omega) _ (ps.map fun p => ((true, p) : Rw)) (.inr rfl) (fun x hx => by
        obtain ⟨p, hp, rfl⟩ := List.mem_map.mp hx
        exact okP p hp) (by rw [List.length_map]; omega)) ?_
      rw [eTr, ← eB]
      ac_rfl
      refine wT_of (hBa.tup n (by omega) B (.inl rfl) okB (by omega)) ?_
      rw [idB]
      ac_rfl
      refine wT_of (hIb n (by omega) B (fun p hp => ⟨okB p hp, (bB p hp).ps⟩) (by omega)) ?_
      rw [idB]
      ac_rfl
      refine wT_of (hIb n (by omega) ps (fun p hp => ⟨okP p hp, (b4 p hp).ps⟩) (by omega)) ?_
      rw [← eB]
      ac_rfl
      refine wO_of (paths_eqC (fun p hp => (okP p hp).ok) fun p hp => (okB p hp).ok) ?_
      have eTT : (PyData.bool (decide (B = B))) = .bool true := by simp
      rw [eTT]
      ac_rfl
      refine wT_of (hSm 3 _ (by subst_eqs) n (by omega)) ?_
      ac_rfl
      refine wO_of (paths_neC (q := []) (fun p hp => (okB p hp).ok) (fun _ h => by cases h)) ?_
      refine ⟨fun q => ?_, fun q => ?_⟩
      · have nB : B ≠ [] := fun e => by simp [e] at q
        have pB : 0 < B.length := List.length_pos_iff.mpr nB
        ac_rfl
        refine (hTk n (by omega) _ (B.map pathD).length bx4 hB4 (by omega) (by rw [elB]; omega) (by rw [elB]; omega)).imp ?_
        rintro _ fl outs ⟨k, bx5, rfl, rfl, rfl, k0, k1, hB5⟩
        obtain ⟨k, rfl⟩ := Int.eq_ofNat_of_zero_le k0
        obtain ⟨c1, e1, m1, l1⟩ := cutD_paths B none (some (k : Int))
        obtain ⟨c2, e2, m2, l2⟩ := cutD_paths B (some (k : Int)) (some ((k : Int) + 1))
        obtain ⟨c3, e3, m3, l3⟩ := cutD_paths B (some (k : Int)) none
        obtain ⟨c4, e4, m4, l4⟩ := cutD_paths B (some ((k : Int) + 1)) none
        obtain ⟨c5, e5, m5, l5⟩ := cutD_paths B (some (1 : Int)) none
        obtain ⟨q, hq, ei⟩ : ∃ q ∈ B, ixD (pathsT B) (.int (k : Int)) = some (pathD q) := by
          obtain ⟨dq, e, hm⟩ := atI_of (xs := B.map pathD) k0 k1
          obtain ⟨q, hq, rfl⟩ := List.mem_map.mp hm
          exact ⟨q, hq, e⟩
        have lq := (bB q hq).len
        have elq : (q.map PyData.str).length = q.length := List.length_map _
        ac_rfl
        rw [e1, e2]
        ac_rfl
        rw [e3]
        ac_rfl
        rw [e1]
        ac_rfl
        refine wO_of ei ?_
        ac_rfl
        rw [e4]
        ac_rfl
        refine wO_of ei ?_
        ac_rfl
        refine wO_of ei ?_
        ac_rfl
        rw [e5]
        ac_rfl
        obtain ⟨zs, ez⟩ : ∃ zs : List (Bool × List (List Str)), zs = [(false, B.reverse), (false, c1 ++ c2 ++ c3), (false, c1 ++ [q ++ (["**", "**"] : List Str)] ++ c4), (true, B), (false, B ++ [q ++ (["zz"] : List Str)]), (false, [q.reverse] ++ c5)] := ⟨_, rfl⟩
        have lq4 := lB4 q hq
        have bq := bB q hq
        have bq1 : B4 (q ++ (["**", "**"] : List Str)) := ⟨by simp, fun s hs => by
          rcases List.mem_append.mp hs with z | z
          · exact bq.ps s z
          · have : s = "**" := by simpa using z
            rw [this]
            exact List.mem_append_left _ pool_many, by simp; omega⟩
        have bq2 : B4 (q ++ (["zz"] : List Str)) := ⟨by simp, fun s hs => by
          rcases List.mem_append.mp hs with z | z
          · exact bq.ps s z
          · exact List.mem_append_right _ z, by simp; omega⟩
        have bq3 : B4 q.reverse := ⟨by simpa using bq.ne, fun s hs => bq.ps s (List.mem_reverse.mp hs), by simp; omega⟩
        have zok : ∀ z ∈ zs, (∀ p ∈ z.2, B4 p) ∧ z.2.length ≤ 20 := fun z hz => by
          rw [ez] at hz
          simp only [List.mem_cons, List.not_mem_nil, or_false] at hz
          rcases hz with rfl | rfl | rfl | rfl | rfl | rfl
          · exact ⟨fun p hp => bB p (List.mem_reverse.mp hp), by simp; omega⟩
          · refine ⟨fun p hp => ?_, by simp; omega⟩
            rcases List.mem_append.mp hp with hp | hp
            · rcases List.mem_append.mp hp with hp | hp
              · exact bB p (m1 p hp)
              · exact bB p (m2 p hp)
            · exact bB p (m3 p hp)
          · refine ⟨fun p hp => ?_, by simp; omega⟩
            rcases List.mem_append.mp hp with hp | hp
            · rcases List.mem_append.mp hp with hp | hp
              · exact bB p (m1 p hp)
              · rw [List.mem_singleton.mp hp]; exact bq1
            · exact bB p (m4 p hp)
          · exact ⟨bB, by show B.length ≤ 20; omega⟩
          · refine ⟨fun p hp => ?_, by simp; omega⟩
            rcases List.mem_append.mp hp with hp | hp
            · exact bB p hp
            · rw [List.mem_singleton.mp hp]; exact bq2
          · refine ⟨fun p hp => ?_, by simp; omega⟩
            rcases List.mem_append.mp hp with hp | hp
            · rw [List.mem_singleton.mp hp]; exact bq3
            · exact bB p (m5 p hp)
        refine vS_for zs thD (fun _ : Unit => [some (bx5, .io), none, none, none, none, none, none, none, none, none, none]) (fun _ _ _ => True) () ?_
        ac_rfl
        refine ⟨by rw [ez]; simp [thD, sqB], by and_intros, trivial, ?_, ?_⟩
        · rintro d2 ⟨b, qs⟩ r2 _ hL2 _
          obtain ⟨z1, z2⟩ := zok (b, qs) (by rw [← hL2]; simp)
          dsimp only at z1 z2
          have okq : ∀ p ∈ qs, OkP p := fun p hp => (z1 p hp).ok
          cases b with
          | true =>
            have et : thD (true, qs) = .list (qs.map pathD) := rfl
            rw [et]
            ac_rfl
            refine wT_of (hIl n (by omega) _) ?_
            ac_rfl
            refine wT_of (hSm 0 _ (by subst_eqs) n (by omega)) ?_
            ac_rfl
            exact ⟨(), by and_intros, trivial⟩
          | false =>
            have et : thD (false, qs) = pathsT qs := rfl
            rw [et]
            ac_rfl
            refine wT_of (hDu.tup n (by omega) qs (.inl rfl) okq (by omega)) ?_
            ac_rfl
            refine wO_of (paths_eqC (fun p hp => (okq p hp).ok) fun p hp => (baseL_ok okq p hp).ok) ?_
            ac_rfl
            refine wT_of (hIb n (by omega) qs (fun p hp => ⟨okq p hp, (z1 p hp).ps⟩) (by omega)) ?_
            ac_rfl
            refine wT_of (hSm 0 _ (by subst_eqs) n (by omega)) ?_
            ac_rfl
            exact ⟨(), by and_intros, trivial⟩
        · rintro _ _
          ac_rfl
          exact ⟨bx5, by and_intros, hB5.le (by simp; omega)⟩
      · ac_rfl
        exact ⟨bx4, by and_intros, hB4.le (by simp; omega)⟩
  · rintro bx hB
    ac_rfl
    exact ⟨rfl, _, rfl⟩

theorem run_ok (ns : List Int) (hl : ns.length ≤ 63) : ∃ fl outs, evCall tab 24 27 [.list (ns.map .int)] = some (.bool true, fl, outs) :=
  lawS (tbl := tab) (i := 27) (b := 11) (c := 13) (r := 26) (N := 14) (most := 3) rfl (by decide) (by decide) (boxS (k0 := 579) rfl (by decide) (by decide)) (cellsS rfl) rightS (by decide) rfl rfl rfl (by decide) ns hl
end Ev.Pl


set_option Elab.async false
set_option linter.all false
set_option maxRecDepth 100000
set_option maxHeartbeats 4000000
namespace Ev
open PySem PySem.Spec PyProof.Rows L2
theorem top_mk {K : PySem.W.Frag} {x : Str} {st : Stmt} {f : Addr} {oc : Value} {od : Option Addr} {kV doc pm : Value} {an : Option Addr} {cd ct : Value} {sl : Array (Option Value)}
    (a : PySem.W.nsIn K mainGlobals x = some (some (.ref f))) (l : K.lookup f = some ⟨oc, od, .func (PySem.W.fnOf x x (defArgs st) (defBody st) (defScope st) .none kV doc pm an cd ct), sl⟩) (c : PySem.W.codeIn K cd x = true) (k : PySem.W.keepIn K (.ref f) = true) : Top K x st := ⟨f, oc, od, kV, doc, pm, an, cd, ct, sl, a, l, c, k⟩
theorem con_str {K : PySem.W.Frag} {x z : Str} {t : Tok} (h : PySem.W.nsIn K mainGlobals x = some (some (.str z t))) : ∃ u v, PySem.W.nsIn K mainGlobals x = some (some u) ∧ RelV v u ∧ ∀ G, Tr K G v (.str z) := ⟨_, .str z, h, ⟨t, rfl⟩, fun _ => .str z⟩
theorem con_int {K : PySem.W.Frag} {x : Str} {z : Int} {t : Tok} (h : PySem.W.nsIn K mainGlobals x = some (some (.int z t))) : ∃ u v, PySem.W.nsIn K mainGlobals x = some (some u) ∧ RelV v u ∧ ∀ G, Tr K G v (.int z) := ⟨_, .int z, h, ⟨t, rfl⟩, fun _ => .int z⟩
theorem all_in {l : PySem.W.OpenLaw} {w : World} {K : PySem.W.Frag} {h : Heap} {mg : Str → Option Value} {fa : Addr} (X : K.In h) (G : h.Ns mainGlobals mg) (hfa : mg "law" = some (.ref fa)) {ct0 ct1 ct2 ct3 ct4 : Tok}
    (t0 : Top K e0.name e0.st) (t1 : Top K e1.name e1.st) (t2 : Top K e2.name e2.st) (t3 : Top K e3.name e3.st) (t4 : Top K e4.name e4.st) (t5 : Top K e5.name e5.st) (t6 : Top K e6.name e6.st) (t7 : Top K e7.name e7.st) (t8 : Top K e8.name e8.st) (t9 : Top K e9.name e9.st) (t10 : Top K e10.name e10.st) (t11 : Top K e11.name e11.st) (t12 : Top K e12.name e12.st) (t13 : Top K e13.name e13.st) (t14 : Top K e14.name e14.st) (t15 : Top K e15.name e15.st) (t16 : Top K e16.name e16.st) (t17 : Top K e17.name e17.st) (t18 : Top K e18.name e18.st) (t19 : Top K e19.name e19.st) (t20 : Top K e20.name e20.st) (t21 : Top K e21.name e21.st) (t22 : Top K e22.name e22.st) (t23 : Top K e23.name e23.st) (t24 : Top K e24.name e24.st) (t25 : Top K e25.name e25.st) (t26 : Top K e26.name e26.st) (t27 : Top K e27.name e27.st)
    (c0 : PySem.W.nsIn K mainGlobals "LETTERS" = some (some (.str "abcdefghijklmnopqrstuvwxyz0123456789" ct0))) (c1 : PySem.W.nsIn K mainGlobals "POINT" = some (some (.str "." ct1))) (c2 : PySem.W.nsIn K mainGlobals "STAR" = some (some (.str "*" ct2))) (c3 : PySem.W.nsIn K mainGlobals "MANY" = some (some (.str "**" ct3))) (c4 : PySem.W.nsIn K mainGlobals "MOST_STEMS" = some (some (.int 2 ct4)))
    (z0 : PySem.W.nsIn K mainGlobals "len" = some none) (z1 : PySem.W.nsIn K mainGlobals "list" = some none) (z2 : PySem.W.nsIn K mainGlobals "tuple" = some none) (z3 : PySem.W.nsIn K mainGlobals "abs" = some none) (z4 : PySem.W.nsIn K mainGlobals "int" = some none) (z5 : PySem.W.nsIn K mainGlobals "all" = some none) (z6 : PySem.W.nsIn K mainGlobals "any" = some none) (z7 : PySem.W.nsIn K mainGlobals "min" = some none) (z8 : PySem.W.nsIn K mainGlobals "max" = some none) (z9 : PySem.W.nsIn K mainGlobals "sum" = some none) (z10 : PySem.W.nsIn K mainGlobals "str" = some none) (z11 : PySem.W.nsIn K mainGlobals "isinstance" = some none) (z12 : PySem.W.nsIn K mainGlobals "range" = some none) (z13 : PySem.W.nsIn K mainGlobals "enumerate" = some none) (z14 : PySem.W.nsIn K mainGlobals "zip" = some none) (z15 : PySem.W.nsIn K mainGlobals "bool" = some none) (z16 : PySem.W.nsIn K mainGlobals "dict" = some none) (z17 : PySem.W.nsIn K mainGlobals "sorted" = some none) (z18 : PySem.W.nsIn K mainGlobals "set" = some none) :
    ∃ fd : FuncData, (∀ (s : Shared) (v : Value), BindsTo s fd ⟨[v], []⟩ [("_law_script", v)]) ∧ ∀ base : Heap, K.In base → base.Ns mainGlobals mg → FnOk l.prog w K mg base CX0 24 fa fd ["_law_script"] (spLaw K 63) := by
  refine law_all (g := gc) (tbl := tab) (L := fes) (kL := 27) (eL := e27) rfl (fun t => by cases t <;> rfl) tab_eq ?_ Pl.run_ok rfl rfl rfl rfl X G hfa ?_ ?_ ?_
  · exact List.forall_mem_cons.mpr ⟨s0, List.forall_mem_cons.mpr ⟨s1, List.forall_mem_cons.mpr ⟨s2, List.forall_mem_cons.mpr ⟨s3, List.forall_mem_cons.mpr ⟨s4, List.forall_mem_cons.mpr ⟨s5, List.forall_mem_cons.mpr ⟨s6, List.forall_mem_cons.mpr ⟨s7, List.forall_mem_cons.mpr ⟨s8, List.forall_mem_cons.mpr ⟨s9, List.forall_mem_cons.mpr ⟨s10, List.forall_mem_cons.mpr ⟨s11, List.forall_mem_cons.mpr ⟨s12, List.forall_mem_cons.mpr ⟨s13, List.forall_mem_cons.mpr ⟨s14, List.forall_mem_cons.mpr ⟨s15, List.forall_mem_cons.mpr ⟨s16, List.forall_mem_cons.mpr ⟨s17, List.forall_mem_cons.mpr ⟨s18, List.forall_mem_cons.mpr ⟨s19, List.forall_mem_cons.mpr ⟨s20, List.forall_mem_cons.mpr ⟨s21, List.forall_mem_cons.mpr ⟨s22, List.forall_mem_cons.mpr ⟨s23, List.forall_mem_cons.mpr ⟨s24, List.forall_mem_cons.mpr ⟨s25, List.forall_mem_cons.mpr ⟨s26, List.forall_mem_cons.mpr ⟨s27, (fun _ h => by cases h)⟩⟩⟩⟩⟩⟩⟩⟩⟩⟩⟩⟩⟩⟩⟩⟩⟩⟩⟩⟩⟩⟩⟩⟩⟩⟩⟩⟩
  · exact List.forall_mem_cons.mpr ⟨t0, List.forall_mem_cons.mpr ⟨t1, List.forall_mem_cons.mpr ⟨t2, List.forall_mem_cons.mpr ⟨t3, List.forall_mem_cons.mpr ⟨t4, List.forall_mem_cons.mpr ⟨t5, List.forall_mem_cons.mpr ⟨t6, List.forall_mem_cons.mpr ⟨t7, List.forall_mem_cons.mpr ⟨t8, List.forall_mem_cons.mpr ⟨t9, List.forall_mem_cons.mpr ⟨t10, List.forall_mem_cons.mpr ⟨t11, List.forall_mem_cons.mpr ⟨t12, List.forall_mem_cons.mpr ⟨t13, List.forall_mem_cons.mpr ⟨t14, List.forall_mem_cons.mpr ⟨t15, List.forall_mem_cons.mpr ⟨t16, List.forall_mem_cons.mpr ⟨t17, List.forall_mem_cons.mpr ⟨t18, List.forall_mem_cons.mpr ⟨t19, List.forall_mem_cons.mpr ⟨t20, List.forall_mem_cons.mpr ⟨t21, List.forall_mem_cons.mpr ⟨t22, List.forall_mem_cons.mpr ⟨t23, List.forall_mem_cons.mpr ⟨t24, List.forall_mem_cons.mpr ⟨t25, List.forall_mem_cons.mpr ⟨t26, List.forall_mem_cons.mpr ⟨t27, (fun _ h => by cases h)⟩⟩⟩⟩⟩⟩⟩⟩⟩⟩⟩⟩⟩⟩⟩⟩⟩⟩⟩⟩⟩⟩⟩⟩⟩⟩⟩⟩
  · exact look_all (List.forall_mem_cons.mpr ⟨con_str c0, List.forall_mem_cons.mpr ⟨con_str c1, List.forall_mem_cons.mpr ⟨con_str c2, List.forall_mem_cons.mpr ⟨con_str c3, List.forall_mem_cons.mpr ⟨con_int c4, (fun _ h => by cases h)⟩⟩⟩⟩⟩)
  · exact List.forall_mem_cons.mpr ⟨fun _ => z0, List.forall_mem_cons.mpr ⟨fun _ => z1, List.forall_mem_cons.mpr ⟨fun _ => z2, List.forall_mem_cons.mpr ⟨fun _ => z3, List.forall_mem_cons.mpr ⟨fun _ => z4, List.forall_mem_cons.mpr ⟨fun _ => z5, List.forall_mem_cons.mpr ⟨fun _ => z6, List.forall_mem_cons.mpr ⟨fun _ => z7, List.forall_mem_cons.mpr ⟨fun _ => z8, List.forall_mem_cons.mpr ⟨fun _ => z9, List.forall_mem_cons.mpr ⟨fun _ => z10, List.forall_mem_cons.mpr ⟨fun _ => z11, List.forall_mem_cons.mpr ⟨fun _ => z12, List.forall_mem_cons.mpr ⟨fun _ => z13, List.forall_mem_cons.mpr ⟨fun _ => z14, List.forall_mem_cons.mpr ⟨fun _ => z15, List.forall_mem_cons.mpr ⟨fun _ => z16, List.forall_mem_cons.mpr ⟨fun _ => z17, List.forall_mem_cons.mpr ⟨fun _ => z18, (fun _ h => by cases h)⟩⟩⟩⟩⟩⟩⟩⟩⟩⟩⟩⟩⟩⟩⟩⟩⟩⟩⟩
end Ev
open PySem PySem.W PyProof.Rows
set_option maxHeartbeats 0 in
theorem PySem.Challenge.cw_exceptionturns_k04_bases_or_none_holds : PySem.Challenge.rw_exceptionturns_k04_bases_or_none.Holds := by
  w_on; o_law; k_head; (case hw => w_witness2)
  k_fill
  refine L2.walk_of (l := PySem.Challenge.rw_exceptionturns_k04_bases_or_none) (n := 63) (k := 24) (x := "_law_script") (CX := fun _ => L2.CX0) (sp := fun w => Ev.spLaw _ 63) rfl (by decide) rfl ⟨rfl, by decide, by decide⟩ (fun w h Y => PySem.W.kIn_of Y) ?F (fun _ _ a ns hl _ hS => ⟨a, ns, rfl, hl, hS, fun _ => rfl⟩) (fun _ _ _ _ _ h => h)
  case F =>
    intro w mg fa h KX G hmg
    refine' Ev.all_in KX G hmg ?t0 ?t1 ?t2 ?t3 ?t4 ?t5 ?t6 ?t7 ?t8 ?t9 ?t10 ?t11 ?t12 ?t13 ?t14 ?t15 ?t16 ?t17 ?t18 ?t19 ?t20 ?t21 ?t22 ?t23 ?t24 ?t25 ?t26 ?t27 ?c0 ?c1 ?c2 ?c3 ?c4 ?z0 ?z1 ?z2 ?z3 ?z4 ?z5 ?z6 ?z7 ?z8 ?z9 ?z10 ?z11 ?z12 ?z13 ?z14 ?z15 ?z16 ?z17 ?z18
    (case t0 => refine' Ev.top_mk ?a ?l ?c ?k; (case a => k_is); (case l => k_is); (case c => k_is); (case k => k_is))
    (case t1 => refine' Ev.top_mk ?a ?l ?c ?k; (case a => k_is); (case l => k_is); (case c => k_is); (case k => k_is))
    (case t2 => refine' Ev.top_mk ?a ?l ?c ?k; (case a => k_is); (case l => k_is); (case c => k_is); (case k => k_is))
    (case t3 => refine' Ev.top_mk ?a ?l ?c ?k; (case a => k_is); (case l => k_is); (case c => k_is); (case k => k_is))
    (case t4 => refine' Ev.top_mk ?a ?l ?c ?k; (case a => k_is); (case l => k_is); (case c => k_is); (case k => k_is))
    (case t5 => refine' Ev.top_mk ?a ?l ?c ?k; (case a => k_is); (case l => k_is); (case c => k_is); (case k => k_is))
    (case t6 => refine' Ev.top_mk ?a ?l ?c ?k; (case a => k_is); (case l => k_is); (case c => k_is); (case k => k_is))
    (case t7 => refine' Ev.top_mk ?a ?l ?c ?k; (case a => k_is); (case l => k_is); (case c => k_is); (case k => k_is))
    (case t8 => refine' Ev.top_mk ?a ?l ?c ?k; (case a => k_is); (case l => k_is); (case c => k_is); (case k => k_is))
    (case t9 => refine' Ev.top_mk ?a ?l ?c ?k; (case a => k_is); (case l => k_is); (case c => k_is); (case k => k_is))
    (case t10 => refine' Ev.top_mk ?a ?l ?c ?k; (case a => k_is); (case l => k_is); (case c => k_is); (case k => k_is))
    (case t11 => refine' Ev.top_mk ?a ?l ?c ?k; (case a => k_is); (case l => k_is); (case c => k_is); (case k => k_is))
    (case t12 => refine' Ev.top_mk ?a ?l ?c ?k; (case a => k_is); (case l => k_is); (case c => k_is); (case k => k_is))
    (case t13 => refine' Ev.top_mk ?a ?l ?c ?k; (case a => k_is); (case l => k_is); (case c => k_is); (case k => k_is))
    (case t14 => refine' Ev.top_mk ?a ?l ?c ?k; (case a => k_is); (case l => k_is); (case c => k_is); (case k => k_is))
    (case t15 => refine' Ev.top_mk ?a ?l ?c ?k; (case a => k_is); (case l => k_is); (case c => k_is); (case k => k_is))
    (case t16 => refine' Ev.top_mk ?a ?l ?c ?k; (case a => k_is); (case l => k_is); (case c => k_is); (case k => k_is))
    (case t17 => refine' Ev.top_mk ?a ?l ?c ?k; (case a => k_is); (case l => k_is); (case c => k_is); (case k => k_is))
    (case t18 => refine' Ev.top_mk ?a ?l ?c ?k; (case a => k_is); (case l => k_is); (case c => k_is); (case k => k_is))
    (case t19 => refine' Ev.top_mk ?a ?l ?c ?k; (case a => k_is); (case l => k_is); (case c => k_is); (case k => k_is))
    (case t20 => refine' Ev.top_mk ?a ?l ?c ?k; (case a => k_is); (case l => k_is); (case c => k_is); (case k => k_is))
    (case t21 => refine' Ev.top_mk ?a ?l ?c ?k; (case a => k_is); (case l => k_is); (case c => k_is); (case k => k_is))
    (case t22 => refine' Ev.top_mk ?a ?l ?c ?k; (case a => k_is); (case l => k_is); (case c => k_is); (case k => k_is))
    (case t23 => refine' Ev.top_mk ?a ?l ?c ?k; (case a => k_is); (case l => k_is); (case c => k_is); (case k => k_is))
    (case t24 => refine' Ev.top_mk ?a ?l ?c ?k; (case a => k_is); (case l => k_is); (case c => k_is); (case k => k_is))
    (case t25 => refine' Ev.top_mk ?a ?l ?c ?k; (case a => k_is); (case l => k_is); (case c => k_is); (case k => k_is))
    (case t26 => refine' Ev.top_mk ?a ?l ?c ?k; (case a => k_is); (case l => k_is); (case c => k_is); (case k => k_is))
    (case t27 => refine' Ev.top_mk ?a ?l ?c ?k; (case a => k_is); (case l => k_is); (case c => k_is); (case k => k_is))
    (case c0 => k_is)
    (case c1 => k_is)
    (case c2 => k_is)
    (case c3 => k_is)
    (case c4 => k_is)
    (case z0 => k_is)
    (case z1 => k_is)
    (case z2 => k_is)
    (case z3 => k_is)
    (case z4 => k_is)
    (case z5 => k_is)
    (case z6 => k_is)
    (case z7 => k_is)
    (case z8 => k_is)
    (case z9 => k_is)
    (case z10 => k_is)
    (case z11 => k_is)
    (case z12 => k_is)
    (case z13 => k_is)
    (case z14 => k_is)
    (case z15 => k_is)
    (case z16 => k_is)
    (case z17 => k_is)
    (case z18 => k_is)
